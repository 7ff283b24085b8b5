import PyProof.Rows.All
import Wide.All
import OpenK.AllK
import Wide.FinOn
import HandS.Zip
import KE.GoesMore
import KE.GoesEnumKw
import HandS.Iter
import PyProof.Rows.CallKwBuiltin
import HandS.List
import PyProof.SumWalkG
import HandS.ForMost
import HandS.Exc
import HandS.Deep
import HandS.Conv
import HandS.WideBits
import HandS.Wide
import HandS.IsInst
import HandS.SortInts
import KE.SortData
import HandS.ExcOwn
import HandS.Style
import HandS.Defaults
import HandS.HeadHook2
import KE.KStateDown
import HandS.Ends
import HandS.More
import HandS.Words
import HandS.WordsExc
import HandS.Head0
import HandS.Head1
import HandS.Head2
import HandS.HeadEnd
import HandS.HeadHook1
import HandS.HeadHook4
import PySem.Challenge.RW_lookstell_k98_whole_what_agreeing_is_wor
set_option Elab.async false
set_option linter.all false
set_option maxRecDepth 100000
set_option maxHeartbeats 2000000
/-! zip of lists and tuples in any mix, strict or not -/
namespace TL
open PySem PySem.Spec PyProof.Rows L2
open PySem.Builtin.SmallTypes (nextOf nextOrEnd)
def SqH (t : Bool) (h : Heap) (l : Addr) (xs : Array Value) : Prop := match t with
  | true => h.IsTuple l xs
  | false => h.IsList l xs
def ItH (t : Bool) (h : Heap) (it l : Addr) (k : Nat) : Prop := match t with
  | true => h.IsTupleIter it l k
  | false => h.IsListIter it l k
theorem SqH.ext {t : Bool} {h h' : Heap} {l b : Addr} {xs : Array Value} (q : SqH t h l xs) (e : Heap.ExtBut b h h') (n : l ≠ b) : SqH t h' l xs := by
  cases t with
  | true => exact Heap.IsTuple.extBut q e n
  | false => exact Heap.IsList.extBut q e n
theorem ItH.ext {t : Bool} {h h' : Heap} {l i b : Addr} {k : Nat} (q : ItH t h i l k) (e : Heap.ExtBut b h h') (n : i ≠ b) : ItH t h' i l k := by
  cases t with
  | true => exact Heap.IsTupleIter.extBut q e n
  | false => exact Heap.IsListIter.extBut q e n
theorem ItH.get {t : Bool} {h : Heap} {l i : Addr} {k : Nat} (q : ItH t h i l k) : ∃ o vs, h.get? i = some o ∧ o.data = .fields vs := by
  cases t with
  | true => obtain ⟨o, e, _, d⟩ := q; exact ⟨o, _, e, d⟩
  | false => obtain ⟨o, e, _, d⟩ := q; exact ⟨o, _, e, d⟩
theorem ItH.at {t : Bool} {h h' : Heap} {l i : Addr} {k : Nat} (q : ItH t h i l k) (e : ∀ o, h.get? i = some o → h'.get? i = some o) : ItH t h' i l k := by
  cases t with
  | true => exact Heap.IsTupleIter.at q e
  | false => exact Heap.IsListIter.at q e
def zipBeforeX (i : Nat) : String := if i == 1 then "argument 1" else s!"arguments 1-{i}"
open PySem.Builtin.SmallTypes PySem.Builtin in
def zipStrictEndX (its : List Value) (i : Nat) : Sem Fin := do
  if i > 0 then
    rule "zip.__next__.shorter"; raiseError "ValueError" s!"zip() argument {i + 1} is shorter than {zipBeforeX i}"
  for (it, j) in (its.drop 1).zipIdx 1 do
    if (← nextOrEnd it).isSome then
      rule "zip.__next__.longer"; raiseError "ValueError" s!"zip() argument {j + 1} is longer than {zipBeforeX j}"
  rule "zip.__next__.all-ended"; stopIteration
def zipDrawX (strict : Bool) (it : Value) : Sem (Option Value) := do
  if strict then nextOrEnd it else return some (← nextOf it)
section
variable {prog : Program} {w : World} {A : Around} {E : Value → Shared → Prop} {s : Shared}
theorem nextOf_item {t : Bool} {it l : Addr} {i : Nat} {items} {x : Value} {Q : Value → Shared → Prop} (hit : ItH t s.heap it l i) (hl : SqH t s.heap l items) (hx : items[i]? = some x)
    (hQ : ∀ h', ItH t h' it l (i + 1) → Heap.SameBut it s.heap h' → Q x { s with heap := h' }) : wpAny (model prog w) A (nextOf (.ref it)) Q E s := by
  cases t with
  | true => exact RZ.nextOf_tuple_item hit hl hx hQ
  | false => exact wpAny_nextOf_list_item hit hl hx hQ
theorem nextOf_end {t : Bool} {it l : Addr} {i : Nat} {items} {Q : Value → Shared → Prop} (hh : A.handled = none) (hit : ItH t s.heap it l i) (hl : SqH t s.heap l items) (hx : items[i]? = none)
    (hE : ∀ h' e, Heap.ExtBut it s.heap h' → (∃ o, h'.get? e = some o ∧ o.cls = .type "StopIteration") → E (.ref e) { s with heap := h' }) : wpAny (model prog w) A (nextOf (.ref it)) Q E s := by
  cases t with
  | true => exact RZ.nextOf_tuple_end hh hit hl hx hE
  | false => exact wpAny_nextOf_list_end hh hit hl hx hE
theorem draw_item {st t : Bool} {it l : Addr} {i : Nat} {items} {x : Value} {Q : Option Value → Shared → Prop} (hit : ItH t s.heap it l i) (hl : SqH t s.heap l items) (hx : items[i]? = some x)
    (hQ : ∀ h', ItH t h' it l (i + 1) → Heap.SameBut it s.heap h' → Q (some x) { s with heap := h' }) : wpAny (model prog w) A (zipDrawX st (.ref it)) Q E s := by
  unfold zipDrawX
  cases st with
  | false => exact wpAny_bind (nextOf_item hit hl hx fun h' h1 h2 => wpAny_pure (hQ h' h1 h2))
  | true =>
    show wpAny _ _ (nextOrEnd (.ref it)) _ _ _
    unfold PySem.Builtin.SmallTypes.nextOrEnd
    exact wpAny_bind (wpAny_attempt (nextOf_item hit hl hx fun h' h1 h2 => wpAny_pure (hQ h' h1 h2)))
theorem orEnd_end {t : Bool} {it l : Addr} {i : Nat} {items} {Q : Option Value → Shared → Prop} (hh : A.handled = none) (hit : ItH t s.heap it l i) (hl : SqH t s.heap l items) (hx : items[i]? = none)
    (hQ : ∀ h', Heap.ExtBut it s.heap h' → Q none { s with heap := h' }) : wpAny (model prog w) A (nextOrEnd (.ref it)) Q E s := by
  unfold PySem.Builtin.SmallTypes.nextOrEnd
  refine wpAny_bind (wpAny_attempt (nextOf_end hh hit hl hx fun h' e hs he => ?_))
  obtain ⟨o, ho, hc⟩ := he
  refine wpAny_bind (wpAny_isInstance (T := "StopIteration") (b := true) ⟨o, ho, hc⟩ isSubtype_stop ?_)
  exact wpAny_pure (hQ h' hs)
abbrev IsZp (h : Heap) (z TI TO : Addr) (f0 : Value) (st : Bool) : Prop :=
  h.get? z = some { cls := .type "zip", dict := none, data := .fields #[f0, .bool false, .bool st, .ref TI, .ref TO], slots := #[] }
theorem zp_item {st t1 t2 : Bool} {z TI TO i1 i2 l1 l2 : Addr} {k1 k2 : Nat} {xs ys : Array Value} {x y a b : Value} {Q : Value → Shared → Prop} (D : ZipApart z TI TO i1 i2 l1 l2)
    (hz : IsZp s.heap z TI TO .none st) (hTI : IsPair s.heap TI (.ref i1) (.ref i2)) (hTO : IsPair s.heap TO a b)
    (h1 : ItH t1 s.heap i1 l1 k1) (h2 : ItH t2 s.heap i2 l2 k2) (hl1 : SqH t1 s.heap l1 xs) (hl2 : SqH t2 s.heap l2 ys) (hx : xs[k1]? = some x) (hy : ys[k2]? = some y)
    (hQ : ∀ h', IsZp h' z TI TO (rawInt s.heap.objs.size) st → IsPair h' TO x y → ItH t1 h' i1 l1 (k1 + 1) → ItH t2 h' i2 l2 (k2 + 1) → IsPair h' s.heap.objs.size x y → h'.objs.size = s.heap.objs.size + 1 →
      (∀ c o, c ≠ z → c ≠ TO → c ≠ i1 → c ≠ i2 → s.heap.get? c = some o → h'.get? c = some o) → Q (.ref s.heap.objs.size) { s with heap := h' }) :
    wpAny (model prog w) A (Builtin.«zip.__next__» ⟨[.ref z], []⟩) (fun fin s' => ∃ v, fin = .done (.ret v) ∧ Q v s') E s := by
  show wpAny _ _ (field (.ref z) 2 >>= _) _ _ _
  refine wpAny_bind (wpAny_field hz rfl (x := .bool st) rfl ?_)
  show wpAny _ _ (field (.ref z) 3 >>= _) _ _ _
  refine wpAny_bind (wpAny_field hz rfl (x := .ref TI) rfl ?_)
  refine wpAny_bind (wpAny_seqItems hTI rfl ?_)
  show wpAny _ _ (Builtin.SmallTypes.ownedTupleIsFree (.ref z) >>= _) _ _ _
  refine wpAny_bind ?_
  unfold Builtin.SmallTypes.ownedTupleIsFree
  refine wpAny_bind (wpAny_field hz rfl (x := .none) rfl (wpAny_pure ?_))
  simp only [if_true]
  refine wpAny_bind (wpAny_rule ?_)
  refine wpAny_bind (wpAny_field hz rfl (x := .ref TO) rfl ?_)
  refine wpAny_bind (wpAny_setField_rec hz (by simp) fun h₁ hz₁ hs₁ => ?_)
  replace hz₁ : IsZp h₁ z TI TO .ellipsis st := hz₁
  refine wpAny_bind ?_
  simp only [List.zipIdx_cons, List.zipIdx_nil, List.forIn_cons, List.forIn_nil]
  have eb : (Value.bool st == Value.bool true) = st := by cases st <;> rfl
  rw [eb]
  refine wpAny_bind (wpAny_bind (wpAny_onRaise ?_))
  show wpAny _ _ (zipDrawX st (.ref i1)) _ _ _
  refine draw_item (h1.ext hs₁.extBut D.i1z) (hl1.ext hs₁.extBut D.l1z) hx fun h₂ h1₂ hs₂ => ?_
  have hTO₂ : IsPair h₂ TO a b := hs₂.extBut _ _ D.TOi1 (hs₁.extBut _ _ D.TOz hTO)
  refine wpAny_bind (wpAny_seqItems hTO₂ rfl ?_)
  refine wpAny_bind (wpAny_updateSeq_pair hTO₂ fun h₃ hTO₃ hs₃ => ?_)
  replace hTO₃ : IsPair h₃ TO x b := hTO₃
  refine wpAny_bind (wpAny_letGo (wpAny_pure ?_))
  refine wpAny_bind (wpAny_bind (wpAny_onRaise ?_))
  show wpAny _ _ (zipDrawX st (.ref i2)) _ _ _
  refine draw_item (((h2.ext hs₁.extBut D.i2z).ext hs₂.extBut D.i12.symm).ext hs₃.extBut D.TOi2.symm)
    (((hl2.ext hs₁.extBut D.l2z).ext hs₂.extBut D.l2i1).ext hs₃.extBut D.l2TO) hy fun h₄ h2₄ hs₄ => ?_
  have hTO₄ : IsPair h₄ TO x b := hs₄.extBut _ _ D.TOi2 hTO₃
  refine wpAny_bind (wpAny_seqItems hTO₄ rfl ?_)
  refine wpAny_bind (wpAny_updateSeq_pair hTO₄ fun h₅ hTO₅ hs₅ => ?_)
  replace hTO₅ : IsPair h₅ TO x y := hTO₅
  refine wpAny_bind (wpAny_letGo (wpAny_pure (wpAny_pure ?_)))
  refine wpAny_bind (wpAny_seqItems hTO₅ rfl ?_)
  refine wpAny_bind (wpAny_newTuple ?_)
  have hsz : h₅.objs.size = s.heap.objs.size := by rw [hs₅.1, hs₄.1, hs₃.1, hs₂.1, hs₁.1]
  have hz₅ : IsZp h₅ z TI TO .ellipsis st := hs₅.extBut _ _ D.TOz.symm (hs₄.extBut _ _ D.i2z.symm (hs₃.extBut _ _ D.TOz.symm (hs₂.extBut _ _ D.i1z.symm hz₁)))
  have hk₅ : ∀ c o, c ≠ z → c ≠ TO → c ≠ i1 → c ≠ i2 → s.heap.get? c = some o → h₅.get? c = some o := fun c o c1 c2 c3 c4 e =>
    hs₅.extBut _ _ c2 (hs₄.extBut _ _ c4 (hs₃.extBut _ _ c2 (hs₂.extBut _ _ c3 (hs₁.extBut _ _ c1 e))))
  have h1₅ : ItH t1 h₅ i1 l1 (k1 + 1) := ((h1₂.ext hs₃.extBut D.TOi1.symm).ext hs₄.extBut D.i12).ext hs₅.extBut D.TOi1.symm
  have h2₅ : ItH t2 h₅ i2 l2 (k2 + 1) := h2₄.ext hs₅.extBut D.TOi2.symm
  have hzlt : z < h₅.objs.size := Heap.lt_size hz₅
  have hTOlt : TO < h₅.objs.size := Heap.lt_size hTO₅
  show wpAny _ _ (Builtin.SmallTypes.ownedTupleHandOut (.ref z) (.ref h₅.objs.size) >>= _) _ _ _
  refine wpAny_bind ?_
  unfold Builtin.SmallTypes.ownedTupleHandOut
  have hz₆ : IsZp (h₅.push { cls := .type "tuple", data := .seq #[x, y] }) z TI TO .ellipsis st := Heap.get?_push_of_some _ hz₅
  refine wpAny_bind (wpAny_setField_rec hz₆ (by simp) fun h₇ hz₇ hs₇ => ?_)
  replace hz₇ : IsZp h₇ z TI TO (rawInt h₅.objs.size) st := hz₇
  refine wpAny_setField_rec hz₇ (by simp) fun h₈ hz₈ hs₈ => ?_
  replace hz₈ : IsZp h₈ z TI TO (rawInt h₅.objs.size) st := hz₈
  have up : ∀ c o, c ≠ z → h₅.get? c = some o → h₈.get? c = some o := fun c o c1 e => hs₈.extBut _ _ c1 (hs₇.extBut _ _ c1 (Heap.get?_push_of_some _ e))
  have hT₈ : IsPair h₈ h₅.objs.size x y := hs₈.extBut _ _ (Nat.ne_of_gt hzlt) (hs₇.extBut _ _ (Nat.ne_of_gt hzlt) (Heap.get?_push_size _ rfl))
  have hz8 : h₈.objs.size = h₅.objs.size + 1 := by rw [hs₈.1, hs₇.1, Heap.size_push]
  rw [hsz] at hz₈ hT₈ hz8
  refine wpAny_pure ⟨_, rfl, ?_⟩
  show Q (.ref h₅.objs.size) _
  rw [hsz]
  exact hQ h₈ hz₈ (up _ _ D.TOz hTO₅) (h1₅.at fun o e => up _ o D.i1z e) (h2₅.at fun o e => up _ o D.i2z e) hT₈ hz8 fun c o c1 c2 c3 c4 e => up c o c1 (hk₅ c o c1 c2 c3 c4 e)
theorem zp_end {t1 t2 : Bool} {z TI TO i1 i2 l1 l2 : Addr} {k1 k2 : Nat} {xs ys : Array Value} {a b : Value} {Q : Fin → Shared → Prop} (hh : A.handled = none) (D : ZipApart z TI TO i1 i2 l1 l2)
    (hz : IsZp s.heap z TI TO .none true) (hTI : IsPair s.heap TI (.ref i1) (.ref i2)) (hTO : IsPair s.heap TO a b)
    (h1 : ItH t1 s.heap i1 l1 k1) (h2 : ItH t2 s.heap i2 l2 k2) (hl1 : SqH t1 s.heap l1 xs) (hl2 : SqH t2 s.heap l2 ys) (hx : xs[k1]? = none) (hy : ys[k2]? = none)
    (hE : ∀ h' e, (∀ c o, c ≠ z → c ≠ TO → c ≠ i1 → c ≠ i2 → s.heap.get? c = some o → h'.get? c = some o) → (∃ o, h'.get? e = some o ∧ o.cls = .type "StopIteration") → E (.ref e) { s with heap := h' }) :
    wpAny (model prog w) A (Builtin.«zip.__next__» ⟨[.ref z], []⟩) Q E s := by
  show wpAny _ _ (field (.ref z) 2 >>= _) _ _ _
  refine wpAny_bind (wpAny_field hz rfl (x := .bool true) rfl ?_)
  show wpAny _ _ (field (.ref z) 3 >>= _) _ _ _
  refine wpAny_bind (wpAny_field hz rfl (x := .ref TI) rfl ?_)
  refine wpAny_bind (wpAny_seqItems hTI rfl ?_)
  show wpAny _ _ (Builtin.SmallTypes.ownedTupleIsFree (.ref z) >>= _) _ _ _
  refine wpAny_bind ?_
  unfold Builtin.SmallTypes.ownedTupleIsFree
  refine wpAny_bind (wpAny_field hz rfl (x := .none) rfl (wpAny_pure ?_))
  simp only [if_true]
  refine wpAny_bind (wpAny_rule ?_)
  refine wpAny_bind (wpAny_field hz rfl (x := .ref TO) rfl ?_)
  refine wpAny_bind (wpAny_setField_rec hz (by simp) fun h₁ hz₁ hs₁ => ?_)
  replace hz₁ : IsZp h₁ z TI TO .ellipsis true := hz₁
  refine wpAny_bind ?_
  simp only [List.zipIdx_cons, List.zipIdx_nil, List.forIn_cons, List.forIn_nil]
  refine wpAny_bind (wpAny_bind (wpAny_onRaise ?_))
  show wpAny _ _ (nextOrEnd (.ref i1)) _ _ _
  refine orEnd_end hh (h1.ext hs₁.extBut D.i1z) (hl1.ext hs₁.extBut D.l1z) hx fun h₂ hs₂ => ?_
  have hz₂ : IsZp h₂ z TI TO .ellipsis true := hs₂ _ _ D.i1z.symm hz₁
  refine wpAny_bind (wpAny_setField_rec hz₂ (by simp) fun h₃ hz₃ hs₃ => ?_)
  refine wpAny_bind ?_
  show wpAny _ _ (zipStrictEndX [.ref i1, .ref i2] 0) _ _ _
  unfold zipStrictEndX
  simp only [List.drop_succ_cons, List.drop_zero, List.zipIdx_cons, List.zipIdx_nil, List.forIn_cons, List.forIn_nil, gt_iff_lt, Nat.lt_irrefl, if_false]
  refine wpAny_bind (wpAny_bind (wpAny_bind ?_))
  refine orEnd_end hh (((h2.ext hs₁.extBut D.i2z).ext hs₂ D.i12.symm).ext hs₃.extBut D.i2z) (((hl2.ext hs₁.extBut D.l2z).ext hs₂ D.l2i1).ext hs₃.extBut D.l2z) hy fun h₄ hs₄ => ?_
  refine wpAny_pure (wpAny_pure (wpAny_bind (wpAny_rule ?_)))
  unfold Builtin.SmallTypes.stopIteration
  refine wpAny_bind ?_
  simp only [newExc, newTuple]
  refine wpAny_bind (wpAny_newObj_type ?_ (by size_fits))
  refine wpAny_bind (m := firstArgMember _ _) (wpAny_of_eq (a := Value.none) (by first | rfl | (simp only [firstArgMember]; rfl)) ?_)
  refine wpAny_newObj_type ?_ (by size_fits)
  simp only [raiseNew]
  refine wpAny_bind (wpAny_handled ?_)
  rw [hh]
  refine wpAny_bind (wpAny_pure (wpAny_throw ?_))
  refine hE _ _ (fun c o c1 c2 c3 c4 e => ?_) ⟨_, Heap.get?_push_size _ rfl, rfl⟩
  exact Heap.get?_push_of_some _ (Heap.get?_push_of_some _ (hs₄ _ _ c4 (hs₃.extBut _ _ c1 (hs₂ _ _ c3 (hs₁.extBut _ _ c1 e)))))
theorem zp_end0 {t1 t2 : Bool} {z TI TO i1 i2 l1 l2 : Addr} {k1 k2 : Nat} {xs ys : Array Value} {a b : Value} {Q : Fin → Shared → Prop} (hh : A.handled = none) (D : ZipApart z TI TO i1 i2 l1 l2)
    (hz : IsZp s.heap z TI TO .none false) (hTI : IsPair s.heap TI (.ref i1) (.ref i2)) (hTO : IsPair s.heap TO a b)
    (h1 : ItH t1 s.heap i1 l1 k1) (h2 : ItH t2 s.heap i2 l2 k2) (hl1 : SqH t1 s.heap l1 xs) (hl2 : SqH t2 s.heap l2 ys) (hend : xs[k1]? = none ∨ ys[k2]? = none)
    (hE : ∀ h' e, (∀ c o, c ≠ z → c ≠ TO → c ≠ i1 → c ≠ i2 → s.heap.get? c = some o → h'.get? c = some o) → (∃ o, h'.get? e = some o ∧ o.cls = .type "StopIteration") → E (.ref e) { s with heap := h' }) :
    wpAny (model prog w) A (Builtin.«zip.__next__» ⟨[.ref z], []⟩) Q E s := by
  show wpAny _ _ (field (.ref z) 2 >>= _) _ _ _
  refine wpAny_bind (wpAny_field hz rfl (x := .bool false) rfl ?_)
  show wpAny _ _ (field (.ref z) 3 >>= _) _ _ _
  refine wpAny_bind (wpAny_field hz rfl (x := .ref TI) rfl ?_)
  refine wpAny_bind (wpAny_seqItems hTI rfl ?_)
  show wpAny _ _ (Builtin.SmallTypes.ownedTupleIsFree (.ref z) >>= _) _ _ _
  refine wpAny_bind ?_
  unfold Builtin.SmallTypes.ownedTupleIsFree
  refine wpAny_bind (wpAny_field hz rfl (x := .none) rfl (wpAny_pure ?_))
  simp only [if_true]
  refine wpAny_bind (wpAny_rule ?_)
  refine wpAny_bind (wpAny_field hz rfl (x := .ref TO) rfl ?_)
  refine wpAny_bind (wpAny_setField_rec hz (by simp) fun h₁ hz₁ hs₁ => ?_)
  replace hz₁ : IsZp h₁ z TI TO .ellipsis false := hz₁
  refine wpAny_bind ?_
  simp only [List.zipIdx_cons, List.zipIdx_nil, List.forIn_cons, List.forIn_nil]
  refine wpAny_bind (wpAny_bind (wpAny_onRaise ?_))
  show wpAny _ _ (nextOf (.ref i1) >>= _) _ _ _
  cases hx : xs[k1]? with
  | none =>
    refine wpAny_bind (nextOf_end hh (h1.ext hs₁.extBut D.i1z) (hl1.ext hs₁.extBut D.l1z) hx fun h₂ e hs₂ he => ?_)
    obtain ⟨oe, hoe, hce⟩ := he
    have hz₂ : IsZp h₂ z TI TO .ellipsis false := hs₂ _ _ D.i1z.symm hz₁
    have hez : e ≠ z := fun x => by subst x; rw [hz₂] at hoe; cases hoe; simp at hce
    refine wpAny_setField_rec hz₂ (by simp) fun h₃ _ hs₃ => hE h₃ e (fun c o c1 _ c3 _ x => hs₃.extBut _ _ c1 (hs₂ _ _ c3 (hs₁.extBut _ _ c1 x))) ⟨oe, hs₃.extBut _ _ hez hoe, hce⟩
  | some x =>
    have hy : ys[k2]? = none := by rcases hend with h | h; rw [hx] at h; cases h; exact h
    refine wpAny_bind (nextOf_item (h1.ext hs₁.extBut D.i1z) (hl1.ext hs₁.extBut D.l1z) hx fun h₂ h1₂ hs₂ => wpAny_pure ?_)
    have hTO₂ : IsPair h₂ TO a b := hs₂.extBut _ _ D.TOi1 (hs₁.extBut _ _ D.TOz hTO)
    refine wpAny_bind (wpAny_seqItems hTO₂ rfl ?_)
    refine wpAny_bind (wpAny_updateSeq_pair hTO₂ fun h₃ hTO₃ hs₃ => ?_)
    refine wpAny_bind (wpAny_letGo (wpAny_pure ?_))
    refine wpAny_bind (wpAny_bind (wpAny_onRaise ?_))
    show wpAny _ _ (nextOf (.ref i2) >>= _) _ _ _
    refine wpAny_bind (nextOf_end hh (((h2.ext hs₁.extBut D.i2z).ext hs₂.extBut D.i12.symm).ext hs₃.extBut D.TOi2.symm)
      (((hl2.ext hs₁.extBut D.l2z).ext hs₂.extBut D.l2i1).ext hs₃.extBut D.l2TO) hy fun h₄ e hs₄ he => ?_)
    obtain ⟨oe, hoe, hce⟩ := he
    have hz₄ : IsZp h₄ z TI TO .ellipsis false := hs₄ _ _ D.i2z.symm (hs₃.extBut _ _ D.TOz.symm (hs₂.extBut _ _ D.i1z.symm hz₁))
    have hez : e ≠ z := fun x => by subst x; rw [hz₄] at hoe; cases hoe; simp at hce
    refine wpAny_setField_rec hz₄ (by simp) fun h₅ _ hs₅ => hE h₅ e (fun c o c1 c2 c3 c4 x => hs₅.extBut _ _ c1 (hs₄ _ _ c4 (hs₃.extBut _ _ c2 (hs₂.extBut _ _ c3 (hs₁.extBut _ _ c1 x))))) ⟨oe, hs₅.extBut _ _ hez hoe, hce⟩
theorem next_item {st t1 t2 : Bool} {z TI TO i1 i2 l1 l2 : Addr} {k1 k2 : Nat} {xs ys : Array Value} {x y a b : Value} {Q : Option Value → Shared → Prop} (D : ZipApart z TI TO i1 i2 l1 l2)
    (hz : IsZp s.heap z TI TO .none st) (hTI : IsPair s.heap TI (.ref i1) (.ref i2)) (hTO : IsPair s.heap TO a b)
    (h1 : ItH t1 s.heap i1 l1 k1) (h2 : ItH t2 s.heap i2 l2 k2) (hl1 : SqH t1 s.heap l1 xs) (hl2 : SqH t2 s.heap l2 ys) (hx : xs[k1]? = some x) (hy : ys[k2]? = some y)
    (hQ : ∀ h', IsZp h' z TI TO (rawInt s.heap.objs.size) st → IsPair h' TO x y → ItH t1 h' i1 l1 (k1 + 1) → ItH t2 h' i2 l2 (k2 + 1) → IsPair h' s.heap.objs.size x y → h'.objs.size = s.heap.objs.size + 1 →
      (∀ c o, c ≠ z → c ≠ TO → c ≠ i1 → c ≠ i2 → s.heap.get? c = some o → h'.get? c = some o) → Q (some (.ref s.heap.objs.size)) { s with heap := h' }) :
    wpAny (model prog w) A (pyNext (.ref z)) Q E s := by
  have hT : s.TypeIs (.ref z) "zip" := ⟨_, hz, rfl⟩
  unfold pyNext
  exact wpAny_bind (wpAny_attempt (wpAny_callSpecial?_slot (name := Str.ofString "__next__") hT F.slot_zip_next
    (wpAny_call_entry F.slot_zip_next hT F.entry_zip_next
      (zp_item D hz hTI hTO h1 h2 hl1 hl2 hx hy fun h' a1 a2 a3 a4 a5 a6 a7 => wpAny_pure (hQ h' a1 a2 a3 a4 a5 a6 a7)) (F.args_zip_next_1 _))))
theorem next_end {st t1 t2 : Bool} {z TI TO i1 i2 l1 l2 : Addr} {k1 k2 : Nat} {xs ys : Array Value} {a b : Value} {Q : Option Value → Shared → Prop} (hh : A.handled = none) (D : ZipApart z TI TO i1 i2 l1 l2)
    (hz : IsZp s.heap z TI TO .none st) (hTI : IsPair s.heap TI (.ref i1) (.ref i2)) (hTO : IsPair s.heap TO a b)
    (h1 : ItH t1 s.heap i1 l1 k1) (h2 : ItH t2 s.heap i2 l2 k2) (hl1 : SqH t1 s.heap l1 xs) (hl2 : SqH t2 s.heap l2 ys) (hend : if st = true then xs[k1]? = none ∧ ys[k2]? = none else xs[k1]? = none ∨ ys[k2]? = none)
    (hQ : ∀ h', (∀ c o, c ≠ z → c ≠ TO → c ≠ i1 → c ≠ i2 → s.heap.get? c = some o → h'.get? c = some o) → Q none { s with heap := h' }) : wpAny (model prog w) A (pyNext (.ref z)) Q E s := by
  have hT : s.TypeIs (.ref z) "zip" := ⟨_, hz, rfl⟩
  unfold pyNext
  have go : ∀ {h' : Heap} {e : Addr}, (∀ c o, c ≠ z → c ≠ TO → c ≠ i1 → c ≠ i2 → s.heap.get? c = some o → h'.get? c = some o) → (∃ o, h'.get? e = some o ∧ o.cls = .type "StopIteration") →
      wpAny (model prog w) A (do if ← isInstance (.ref e) (.type "StopIteration") then pure none else throw (.ref e)) Q E { s with heap := h' } := fun {h' e} hk he => by
    obtain ⟨o, ho, hc⟩ := he
    refine wpAny_bind (wpAny_isInstance (T := "StopIteration") (b := true) ⟨o, ho, hc⟩ isSubtype_stop ?_)
    exact wpAny_pure (hQ _ hk)
  cases st with
  | true => exact wpAny_bind (wpAny_attempt (wpAny_callSpecial?_slot (name := Str.ofString "__next__") hT F.slot_zip_next
      (wpAny_call_entry F.slot_zip_next hT F.entry_zip_next (zp_end hh D hz hTI hTO h1 h2 hl1 hl2 hend.1 hend.2 fun h' e hk he => go hk he) (F.args_zip_next_1 _))))
  | false => exact wpAny_bind (wpAny_attempt (wpAny_callSpecial?_slot (name := Str.ofString "__next__") hT F.slot_zip_next
      (wpAny_call_entry F.slot_zip_next hT F.entry_zip_next (zp_end0 hh D hz hTI hTO h1 h2 hl1 hl2 hend fun h' e hk he => go hk he) (F.args_zip_next_1 _))))
end
end TL

set_option maxRecDepth 100000
set_option maxHeartbeats 2000000
namespace TL
open PySem PySem.Spec PyProof.Rows L2
section
variable {prog : Program} {w : World} {A : Around} {E : Value → Shared → Prop} {s : Shared}
theorem letGo_zp {st : Bool} {elts : List Expr} {x1} {pos : Pos} {z TI TO T : Addr} {Q : Unit → Shared → Prop} (hz : IsZp s.heap z TI TO (rawInt T) st)
    (hQ : ∀ h', IsZp h' z TI TO .none st → Heap.SameBut z s.heap h' → Q () { s with heap := h' }) :
    wpAny (model prog w) A (letOwnedTupleGo (.Tuple elts x1 pos) (.ref z) (.ref T)) Q E s := by
  unfold letOwnedTupleGo
  refine wpAny_bind (wpAny_load hz ?_)
  show wpAny _ _ (if (["enumerate", "zip", "dict_itemiterator", "dict_reverseitemiterator", "odict_iterator", "itertools.zip_longest", "itertools.pairwise"].contains "zip" &&
      (#[rawInt T, .bool false, .bool st, .ref TI, .ref TO] : Array Value)[0]? == some (rawInt T)) = true then _ else _) Q E s
  rw [if_pos (by simp)]
  refine wpAny_bind (wpAny_rule ?_)
  show wpAny _ _ (setField (.ref z) 0 .none) Q E s
  exact wpAny_setField_rec hz (by simp) fun h' hz' hs' => hQ h' hz' hs'
theorem pyIter_zp {st : Bool} {z TI TO : Addr} {f0 : Value} {Q : Value → Shared → Prop} (hz : IsZp s.heap z TI TO f0 st) (h : Q (.ref z) s) : wpAny (model prog w) A (pyIter (.ref z)) Q E s := by
  have hT : s.TypeIs (.ref z) "zip" := ⟨_, hz, rfl⟩
  refine wpAny_pyIter_slot hT F.slot_zip_iter (wpAny_call_entry F.slot_zip_iter hT F.entry_zip_iter ?_ (F.args_zip_iter_1 _))
  show wpAny _ _ (ret (.ref z)) _ _ s
  exact wpAny_pure ⟨_, rfl, "zip", _, hT, F.slot_zip_next.lookup, h⟩
theorem typeCall_zip_k (a b c : Value) : checkTypeCall "zip" ⟨[a, b], [(Str.ofString "strict", c)]⟩ = pure () := by kernel_rfl
theorem newCall_zip_k (a b c : Value) : checkBuiltinCall "zip.__new__" ⟨[.type "zip", a, b], [(Str.ofString "strict", c)]⟩ = pure () := by kernel_rfl
theorem args_init_k (obj a b c : Value) : argsOk "object.__init__" ⟨[obj, a, b], [(Str.ofString "strict", c)]⟩ := by unfold argsOk; kernel_rfl
abbrev gzZs (h : Heap) (o1 o2 : Obj) : Heap := (gzO2 h o1 o2).push { cls := .type "zip", data := .fields #[.none, .bool false, .bool true, .ref ((h.push o1).push o2).objs.size, .ref (gzT2 h o1 o2).objs.size] }
theorem meets_zip_k {v1 v2 : Value} {o1 o2 : Obj} {H1 H2 : Heap → Prop} (B1 : Begins v1 o1 H1) (B2 : Begins v2 o2 H2) :
    Meets (Builtin.«zip.__new__» ⟨[.type "zip", v1, v2], [(Str.ofString "strict", .bool true)]⟩) (fun _ R s => (H1 s.heap ∧ H2 s.heap) ∧
      R (.ok (.ret (.ref (gzO2 s.heap o1 o2).objs.size))) { s with heap := gzZs s.heap o1 o2 }) :=
  .of_wp fun prog w A R s h => by
    obtain ⟨hp, g, d, tk, os⟩ := s; obtain ⟨⟨h1, h2⟩, h⟩ := h
    have hsub := sub_zip
    have e1 : (Str.ofString "strict" == ("strict" : Str)) = true := by decide +kernel
    have e2 : (Str.ofString "strict" != ("strict" : Str)) = false := by decide +kernel
    have q1 : ∀ {A' : Around} {E : Value → Shared → Prop} {Q : Value → Shared → Prop}, Q (.ref hp.objs.size) ⟨(hp.push o1), g, d, tk, os⟩ → wpAny (model prog w) A' (pyIter v1) Q E ⟨hp, g, d, tk, os⟩ :=
      fun q => B1.iter prog w _ _ ⟨hp, g, d, tk, os⟩ _ (B1.keeps _ _ h1 fun b o' e => e) q
    have q2 : ∀ {A' : Around} {E : Value → Shared → Prop} {Q : Value → Shared → Prop}, Q (.ref (hp.push o1).objs.size) ⟨((hp.push o1).push o2), g, d, tk, os⟩ → wpAny (model prog w) A' (pyIter v2) Q E ⟨(hp.push o1), g, d, tk, os⟩ :=
      fun q => B2.iter prog w _ _ ⟨(hp.push o1), g, d, tk, os⟩ _ (B2.keeps _ _ h2 fun b o' e => (Heap.get?_push_of_some _ e)) q
    wp_walk using q1, q2
    exact ⟨_, rfl, h⟩
theorem zip_begins_k {v1 v2 : Value} {o1 o2 : Obj} {H1 H2 : Heap → Prop} {Q : Value → Shared → Prop} (B1 : Begins v1 o1 H1) (B2 : Begins v2 o2 H2) (h1 : H1 s.heap) (h2 : H2 s.heap)
    (h : ∀ h', IsZp h' (s.heap.objs.size + 4) (s.heap.objs.size + 2) (s.heap.objs.size + 3) .none true → IsTupOf2 h' (s.heap.objs.size + 2) (.ref s.heap.objs.size) (.ref (s.heap.objs.size + 1)) →
      IsTupOf2 h' (s.heap.objs.size + 3) .none .none → h'.get? s.heap.objs.size = some o1 → h'.get? (s.heap.objs.size + 1) = some o2 → h'.objs.size = s.heap.objs.size + 5 →
      (∀ c o, s.heap.get? c = some o → h'.get? c = some o) → Q (.ref (s.heap.objs.size + 4)) { s with heap := h' }) :
    wpAny (model prog w) A (call (.type "zip") [v1, v2] [(Str.ofString "strict", .bool true)]) Q E s := by
  refine callType_newKw F.called_zip (by decide) (typeCall_zip_k _ _ _) (newCall_zip_k _ _ _) (fun obj => args_init_k obj _ _ _) F.entry_zip_new
    (meets_zip_k B1 B2) ⟨⟨h1, h2⟩, ?_⟩
  have z1 : (s.heap.push o1).objs.size = s.heap.objs.size + 1 := by rw [Heap.size_push]
  have z2 : ((s.heap.push o1).push o2).objs.size = s.heap.objs.size + 2 := by rw [Heap.size_push, z1]
  have zT : (gzT2 s.heap o1 o2).objs.size = s.heap.objs.size + 3 := by rw [Heap.size_push, z2]
  have zO : (gzO2 s.heap o1 o2).objs.size = s.heap.objs.size + 4 := by rw [Heap.size_push, zT]
  have zZ : (gzZs s.heap o1 o2).objs.size = s.heap.objs.size + 5 := by rw [Heap.size_push, zO]
  have gZ : (gzZs s.heap o1 o2).get? (gzO2 s.heap o1 o2).objs.size = some { cls := .type "zip", data := .fields #[.none, .bool false, .bool true, .ref ((s.heap.push o1).push o2).objs.size, .ref (gzT2 s.heap o1 o2).objs.size] } := Heap.get?_push_size _ rfl
  have gO : (gzZs s.heap o1 o2).get? (gzT2 s.heap o1 o2).objs.size = some { cls := .type "tuple", data := .seq #[.none, .none] } := Heap.get?_push_of_some _ (Heap.get?_push_size _ rfl)
  have gT : (gzZs s.heap o1 o2).get? ((s.heap.push o1).push o2).objs.size = some { cls := .type "tuple", data := .seq #[.ref s.heap.objs.size, .ref (s.heap.push o1).objs.size] } := Heap.get?_push_of_some _ (Heap.get?_push_of_some _ (Heap.get?_push_size _ rfl))
  have g1 : (gzZs s.heap o1 o2).get? s.heap.objs.size = some o1 := Heap.get?_push_of_some _ (Heap.get?_push_of_some _ (Heap.get?_push_of_some _ (Heap.get?_push_of_some _ (Heap.get?_push_size _ B1.free))))
  have g2 : (gzZs s.heap o1 o2).get? (s.heap.push o1).objs.size = some o2 := Heap.get?_push_of_some _ (Heap.get?_push_of_some _ (Heap.get?_push_of_some _ (Heap.get?_push_size _ B2.free)))
  rw [zO, zT, z2] at gZ
  rw [zT] at gO
  rw [z2, z1] at gT
  rw [z1] at g2
  show _ ∧ _
  rw [zO]
  exact ⟨⟨_, gZ, rfl⟩, h _ gZ gT gO g1 g2 zZ fun c o e => Heap.get?_push_of_some _ (Heap.get?_push_of_some _ (Heap.get?_push_of_some _ (Heap.get?_push_of_some _ (Heap.get?_push_of_some _ e))))⟩
end
section
variable {M : Model} {A : Around} {E : Value → Shared → Prop} {s : Shared} {env : Env}
theorem callWith_type_kwB {pos : Pos} {id : String} {first : List Value} {args : List (Bool × Sem Value)} {keywords : List (Option Str × Sem Value)} {Q : Value → Shared → Prop}
    (hplain : args.any (·.1) = false) (hkw : keywords.any (·.1.isNone) = false)
    (h : wpAny M A (evalArgs (.type id) true args keywords) (fun a s₁ => wpAny M A (call (.type id) (first ++ a.pos) a.kw) Q E s₁) E s) :
    wpAny M A (callWith pos (.type id) first args keywords) Q E s := by
  unfold callWith
  refine wpAny_bind (wpAny_holding (wpAny_mono h (fun a s₁ h₁ => wpAny_bind (wpAny_standAt ?_)) fun _ _ x => x))
  simp only [hplain, hkw, Bool.or_false]
  refine wpAny_bind (wpAny_pure ?_)
  exact wpAny_bind (wpAny_mono h₁ (fun r s₂ hr => wpAny_bind (wpAny_holding (wpAny_point (wpAny_pure hr)))) fun _ _ x => x)
theorem callWith_type_kw {pos : Pos} {id : String} {e : Expr} {rest : List Expr} {kws : List Keyword} {Q : Value → Shared → Prop}
    (h : wpAny M A (spliced (backTo pos (starEach (e :: rest) env))) (fun vs s₁ => wpAny M A (evalAll ((backToKw pos (keywordEach kws env)).map (·.2)))
      (fun kvs s₂ => wpAny M A (call (.type id) vs (((backToKw pos (keywordEach kws env)).filterMap (·.1)).zip kvs)) Q E s₂) E s₁) E s)
    (he : backTo pos (starEach (e :: rest) env) = (false, eval e env) :: backTo pos (starEach rest env) := by rfl)
    (hplain : (backTo pos (starEach (e :: rest) env)).any (·.1) = false := by rfl)
    (hall : (backToKw pos (keywordEach kws env)).all (·.1.isSome) = true := by rfl)
    (hkw : (backToKw pos (keywordEach kws env)).any (·.1.isNone) = false := by rfl) :
    wpAny M A (callWith pos (.type id) [] (backTo pos (starEach (e :: rest) env)) (backToKw pos (keywordEach kws env))) Q E s := by
  refine callWith_type_kwB hplain hkw ?_
  rw [he] at h ⊢
  exact evalArgs_kwB hall h
end
end TL

set_option maxRecDepth 100000
set_option maxHeartbeats 2000000
namespace TL
open PySem PySem.Spec PyProof.Rows L2
/-! ### the turn -/
def Sq (t : Bool) (K : PySem.W.Frag) (H : Hp) (a : Addr) (xs : List V) : Prop := match t with
  | true => SqT K H a xs
  | false => SqL K H a xs
theorem Sq.h {t : Bool} {X : Cx} {pins : List (Addr × Obj)} {σ : L2.St} {H : Hp} {s : Shared} {a : Addr} {xs : List V} (q : Sq t X.K H a xs) (I : L2.Inv X pins σ H s) : ∃ its, Vals xs its ∧ SqH t s.heap a its.toArray ∧ a < s.heap.objs.size := by
  cases t with
  | true =>
    obtain ⟨its, rv, p, _⟩ := I.tuple q
    exact ⟨its, rv, p, by obtain ⟨o, ho, _⟩ := id p; exact Heap.lt_size ho⟩
  | false =>
    obtain ⟨its, rv, p, _⟩ := I.list q
    exact ⟨its, rv, p.isList, p.lt⟩
theorem Sq.inj {t : Bool} {X : Cx} {pins : List (Addr × Obj)} {σ : L2.St} {H : Hp} {s : Shared} {a : Addr} {xs ys : List V} (q : Sq t X.K H a xs) (q' : Sq t X.K H a ys) (I : L2.Inv X pins σ H s) : xs = ys := by
  cases t with
  | true => exact I.tuple_inj q q'
  | false => exact I.list_inj q q'
def Itzz (st t1 t2 : Bool) (K : PySem.W.Frag) (a b : Addr) : It :=
  ⟨fun i H => ∃ (xs ys : List V) (x y : V), Sq t1 K H a xs ∧ Sq t2 K H b ys ∧ xs[i]? = some x ∧ ys[i]? = some y,
    fun i H v H' => ∃ T x y, v = .ref T ∧ H T = none ∧ H' = upd H T (.tup [x, y]) ∧ (∀ xs, Sq t1 K H a xs → xs[i]? = some x) ∧ ∀ ys, Sq t2 K H b ys → ys[i]? = some y,
    fun i H => ∃ xs ys : List V, Sq t1 K H a xs ∧ Sq t2 K H b ys ∧ if st = true then xs.length ≤ i ∧ ys.length ≤ i else xs.length ≤ i ∨ ys.length ≤ i⟩
theorem turn_zz {st t1 t2 : Bool} {P : Program} {w : World} {K : PySem.W.Frag} {elts : List Expr} {kk : Nat} {tpos : Pos} {a b z TI TO i1 i2 : Addr} (D : ZipApart z TI TO i1 i2 a b) :
    Turn P w K (.Tuple elts kk tpos) (Itzz st t1 t2 K a b) [z, TI, TO, i1, i2] z (fun i h => IsZp h z TI TO .none st ∧ IsPair h TI (.ref i1) (.ref i2) ∧ (∃ x y, IsPair h TO x y) ∧ ItH t1 h i1 a i ∧ ItH t2 h i2 b i) where
  mem := by simp
  obj := fun i h st c hc => by
    obtain ⟨hz, hTI, ⟨x, y, hTO⟩, h1, h2⟩ := st
    obtain ⟨o1, v1, e1, d1⟩ := h1.get
    obtain ⟨o2, v2, e2, d2⟩ := h2.get
    have e' : c = z ∨ c = TI ∨ c = TO ∨ c = i1 ∨ c = i2 := by simpa using hc
    rcases e' with q | q | q | q | q
    · rw [q]; exact ⟨_, hz, fun v q => nomatch q⟩
    · rw [q]; exact ⟨_, hTI, fun v q => nomatch q⟩
    · rw [q]; exact ⟨_, hTO, fun v q => nomatch q⟩
    · rw [q]; exact ⟨o1, e1, fun v q => by rw [d1] at q; cases q⟩
    · rw [q]; exact ⟨o2, e2, fun v q => by rw [d2] at q; cases q⟩
  keep := fun i h h' st k => by
    obtain ⟨hz, hTI, ⟨x, y, hTO⟩, h1, h2⟩ := st
    exact ⟨k z (by simp) _ hz, k TI (by simp) _ hTI, ⟨x, y, k TO (by simp) _ hTO⟩, h1.at fun o q => k i1 (by simp) o q, h2.at fun o q => k i2 (by simp) o q⟩
  item := by
    intro X hP hw hK hc i pins s σ H E I hf st hg
    subst hP hw hK
    obtain ⟨hz, hTI, ⟨x0, y0, hTO⟩, h1, h2⟩ := st
    obtain ⟨xs, ys, x, y, hqx, hqy, hx, hy⟩ := hg
    obtain ⟨its, rv, p, _⟩ := hqx.h I
    obtain ⟨its2, rv2, p2, _⟩ := hqy.h I
    obtain ⟨u, hu, ru⟩ := rv.get hx
    obtain ⟨u2, hu2, ru2⟩ := rv2.get hy
    have hzl : z < s.heap.objs.size := Heap.lt_size hz
    refine next_item D hz hTI hTO h1 h2 p p2 (x := u) (y := u2) (by simpa using hu) (by simpa using hu2) fun h' z' TO' h1' h2' hT hsz hk => ?_
    refine ⟨_, rfl, letGo_zp (s := { s with heap := h' }) z' fun h'' z'' sb => ?_⟩
    have hT2 : h''.get? s.heap.objs.size = some { cls := .type "tuple", data := .seq #[u, u2] } := (sb.2 _ (Nat.ne_of_gt hzl)).trans hT
    have new : ObjOk X.prog X.w (upd H s.heap.objs.size (.tup [x, y])) h'' s.heap.objs.size (.tup [x, y]) :=
      ⟨by show 2 ≤ sizeLine; decide, [u, u2], .cons ru (.cons ru2 .nil), ⟨_, hT2, rfl, _, rfl⟩⟩
    have I1 : L2.Inv X pins σ (upd H s.heap.objs.size (.tup [x, y])) { s with heap := h'' } :=
      I.turnedNew (t' := s.toks) (ch := [z, TI, TO, i1, i2]) (fun c o hb q => (sb.2 c (fun q' => hb (by simp [q']))).trans (hk c o (fun q' => hb (by simp [q'])) (fun q' => hb (by simp [q'])) (fun q' => hb (by simp [q'])) (fun q' => hb (by simp [q'])) q)) hf (Nat.le_refl _) new
    refine ⟨.ref s.heap.objs.size, _, I1, rfl, ⟨_, x, y, rfl, I.hok.fresh (Nat.le_refl _), rfl, fun l hl => by rw [hl.inj hqx I]; exact hx, fun l hl => by rw [hl.inj hqy I]; exact hy⟩, ⟨z'', ?_, ⟨u, u2, ?_⟩, ?_, ?_⟩, fun c hcm => ?_⟩
    · exact (sb.2 _ D.TIz).trans (hk _ _ D.TIz D.TITO D.TIi1 D.TIi2 hTI)
    · exact (sb.2 _ D.TOz).trans TO'
    · exact h1'.at fun o q => (sb.2 _ D.i1z).trans q
    · exact h2'.at fun o q => (sb.2 _ D.i2z).trans q
    · have hlt : c < s.heap.objs.size := by
        have e' : c = z ∨ c = TI ∨ c = TO ∨ c = i1 ∨ c = i2 := by simpa using hcm
        rcases e' with q | q | q | q | q
        · rw [q]; exact hzl
        · rw [q]; exact Heap.lt_size hTI
        · rw [q]; exact Heap.lt_size hTO
        · rw [q]; obtain ⟨_, _, e1, _⟩ := h1.get; exact Heap.lt_size e1
        · rw [q]; obtain ⟨_, _, e2, _⟩ := h2.get; exact Heap.lt_size e2
      rw [upd_ne (Nat.ne_of_lt hlt)]
      exact (hf c hcm).1
  done := by
    intro X hP hw hK hc i pins s σ H E I hf sT hg
    subst hP hw hK
    obtain ⟨hz, hTI, ⟨x0, y0, hTO⟩, h1, h2⟩ := sT
    obtain ⟨xs, ys, hqx, hqy, hend⟩ := hg
    obtain ⟨its, rv, p, _⟩ := hqx.h I
    obtain ⟨its2, rv2, p2, _⟩ := hqy.h I
    have l1 := rv.length
    have l2 := rv2.length
    have he : if st = true then its.toArray[i]? = none ∧ its2.toArray[i]? = none else its.toArray[i]? = none ∨ its2.toArray[i]? = none := by
      cases st with
      | true =>
        rw [if_pos rfl] at hend ⊢
        exact ⟨by simp; omega, by simp; omega⟩
      | false =>
        rw [if_neg Bool.false_ne_true] at hend ⊢
        rcases hend with q | q
        · exact .inl (by simp; omega)
        · exact .inr (by simp; omega)
    exact next_end (I.ok.hd hc) D hz hTI hTO h1 h2 p p2 he fun h' hk => ⟨rfl, I.turnedL (t' := s.toks) (ch := [z, TI, TO, i1, i2]) (fun c o hb q =>
      hk c o (fun q' => hb (by simp [q'])) (fun q' => hb (by simp [q'])) (fun q' => hb (by simp [q'])) (fun q' => hb (by simp [q'])) q) hf⟩
  self := fun A i s Q E st h => pyIter_zp st.1 h
theorem beg (t : Bool) (l : Addr) (xs : Array Value) : ∃ o, Begins (.ref l) o (fun h => SqH t h l xs) ∧ ∀ h i, h.get? i = some o → ItH t h i l 0 := by
  cases t with
  | true => exact ⟨_, begins_tuple l xs, fun h i e => ⟨_, e, rfl, rfl⟩⟩
  | false => exact ⟨_, begins_list l xs, fun h i e => ⟨_, e, rfl, rfl⟩⟩
def iZz (st : Bool) (K : PySem.W.Frag) (ta : L2.TA) : L2.TI := fun σ H R => ta σ H fun vs H1 => ∃ t1 t2 a b xs ys, vs = [.ref a, .ref b] ∧ Sq t1 K H1 a xs ∧ Sq t2 K H1 b ys ∧ R (Itzz st t1 t2 K a b) H1
section
variable {X : Cx} {e e2 : Expr} {ta : L2.TA} {p pos tpos kp cp : Pos} {elts : List Expr} {kk ck : Nat}
theorem zz_core {st : Bool} {pins : List (Addr × Obj)} {σ : L2.St} {H1 : Hp} {s1 : Shared} {R : It → Hp → Prop} {us : List Value} {vs : List V} {kw : List (Str × Value)} (hk : kw = if st = true then [(Str.ofString "strict", .bool true)] else []) (I1 : L2.Inv X pins σ H1 s1) (r1 : Vals vs us)
    (q1 : ∃ t1 t2 a b xs ys, vs = [.ref a, .ref b] ∧ Sq t1 X.K H1 a xs ∧ Sq t2 X.K H1 b ys ∧ R (Itzz st t1 t2 X.K a b) H1) :
    wpAny (model X.prog X.w) X.A (call (.type "zip") us kw) (fun v s1 => wpAny (model X.prog X.w) X.A (pyIter v) (PIE X pins σ (.Tuple elts kk tpos) R) X.xe s1) X.xe s1 := by
  obtain ⟨t1, t2, a, b, xs, ys, ex, hqx, hqy, q⟩ := q1
  subst ex
  cases r1 with
  | cons r rr =>
    cases rr with
    | cons r' rr =>
      cases rr
      cases r
      cases r'
      obtain ⟨its, rv, p1, la⟩ := hqx.h I1
      obtain ⟨its2, rv2, p2, lb⟩ := hqy.h I1
      obtain ⟨o1, B1, b1⟩ := beg t1 a its.toArray
      obtain ⟨o2, B2, b2⟩ := beg t2 b its2.toArray
      have fin : ∀ h', IsZp h' (s1.heap.objs.size + 4) (s1.heap.objs.size + 2) (s1.heap.objs.size + 3) .none st → IsTupOf2 h' (s1.heap.objs.size + 2) (.ref s1.heap.objs.size) (.ref (s1.heap.objs.size + 1)) →
          IsTupOf2 h' (s1.heap.objs.size + 3) .none .none → h'.get? s1.heap.objs.size = some o1 → h'.get? (s1.heap.objs.size + 1) = some o2 → h'.objs.size = s1.heap.objs.size + 5 →
          (∀ c o, s1.heap.get? c = some o → h'.get? c = some o) → wpAny (model X.prog X.w) X.A (pyIter (.ref (s1.heap.objs.size + 4))) (PIE X pins σ (.Tuple elts kk tpos) R) X.xe { s1 with heap := h' } := fun h' hz hTI hTO h1 h2 hsz hk => by
        refine pyIter_zp hz ?_
        have I2 : L2.Inv X pins σ H1 { s1 with heap := h' } := I1.kept (t' := s1.toks) hk
        refine ⟨s1.heap.objs.size + 4, [s1.heap.objs.size + 4, s1.heap.objs.size + 2, s1.heap.objs.size + 3, s1.heap.objs.size, s1.heap.objs.size + 1], _, _, H1, rfl, I2, turn_zz (PySem.W.ktu_apart s1.heap.objs.size a b la lb), ⟨hz, hTI, ⟨_, _, hTO⟩, b1 _ _ h1, b2 _ _ h2⟩, fun c hcm => ?_, q⟩
        have e' : c = s1.heap.objs.size + 4 ∨ c = s1.heap.objs.size + 2 ∨ c = s1.heap.objs.size + 3 ∨ c = s1.heap.objs.size ∨ c = s1.heap.objs.size + 1 := by simpa using hcm
        have hle : s1.heap.objs.size ≤ c := by
          rcases e' with z | z | z | z | z
          · rw [z]; exact Nat.le_add_right _ _
          · rw [z]; exact Nat.le_add_right _ _
          · rw [z]; exact Nat.le_add_right _ _
          · rw [z]; exact Nat.le_refl _
          · rw [z]; exact Nat.le_add_right _ _
        exact I1.fpOk hle (I1.hok.fresh hle)
      cases st with
      | true =>
        rw [if_pos rfl] at hk
        subst hk
        exact zip_begins_k B1 B2 p1 p2 fin
      | false =>
        rw [if_neg Bool.false_ne_true] at hk
        subst hk
        exact zip_begins2 B1 B2 p1 p2 fin
theorem pi_zz (hg : Gl X "zip") (hm : X.mg "zip" = none) (ha : PA X [e, e2] ta)
    (hs : starEach [e, e2] X.env = (false, eval e X.env) :: starEach [e2] X.env) (hpl : (backTo pos (starEach [e2] X.env)).any (·.1) = false) :
    PI X (.Tuple elts kk tpos) (.Call (.Name "zip" p) [e, e2] [] pos) (iZz false X.K ta) := by
  refine ⟨fun pins s σ H R I h => ?_⟩
  refine Call_ (ld_blt I hg hm PyProof.Rows.boot_zip (PyProof.Rows.callWith_type1 (thn (ha.run pos pins s σ H _ I h) fun us s1 ⟨vs, H1, I1, r1, q1⟩ => ?_) hs hpl))
  exact zz_core rfl I1 r1 q1
theorem pi_zzK {nm : Str} (hn : nm = Str.ofString "strict") (hg : Gl X "zip") (hm : X.mg "zip" = none) (ha : PA X [e, e2] ta)
    (hs : starEach [e, e2] X.env = (false, eval e X.env) :: starEach [e2] X.env) (hpl : (backTo pos (starEach [e2] X.env)).any (·.1) = false) :
    PI X (.Tuple elts kk tpos) (.Call (.Name "zip" p) [e, e2] [⟨some nm, .Constant (.bool true) ck cp, kp⟩] pos) (iZz true X.K ta) := by
  subst hn
  refine ⟨fun pins s σ H R I h => ?_⟩
  have hb : backTo pos (starEach [e, e2] X.env) = (false, eval e X.env) :: backTo pos (starEach [e2] X.env) := by rw [hs]; rfl
  refine wpAny_Call_Name_kw (ld_blt I hg hm PyProof.Rows.boot_zip (callWith_type_kw (kws := [⟨some (Str.ofString "strict"), .Constant (.bool true) ck cp, kp⟩]) (thn (ha.run pos pins s σ H _ I h) fun us s1 ⟨vs, H1, I1, r1, q1⟩ => ?_) hb (by rw [hb]; show (false || _) = false; rw [hpl]; rfl)))
  refine kws_cons (thn ((pe_bl (X := X) (b := true)).run pins s1 σ H1 (fun v H' => v = .bl true ∧ H' = H1) I1 ⟨rfl, rfl⟩) fun kv s2 ⟨v, H2, I2, rv, q2⟩ => ?_)
  obtain ⟨rfl, rfl⟩ := q2
  cases rv
  exact kws_nil (zz_core rfl I2 r1 q1)
end
end TL

set_option maxRecDepth 100000
set_option maxHeartbeats 2000000
/-! sum(a list of lists, a list) -/
namespace TL
open PySem PySem.Spec PyProof.Rows L2
/-- the lists one after another -/
def accV (cs : Nat → List Value) (z : List Value) : Nat → List Value
  | 0 => z
  | i + 1 => accV cs z i ++ cs i
theorem accV_len (cs : Nat → List Value) (z : List Value) {n : Nat} : ∀ {i : Nat}, i ≤ n → (accV cs z i).length ≤ (accV cs z n).length := by
  induction n with
  | zero => intro i h; obtain rfl : i = 0 := by omega
            exact Nat.le_refl _
  | succ n ih =>
    intro i h
    by_cases e : i = n + 1
    · subst e; exact Nat.le_refl _
    · have := ih (i := i) (by omega)
      show _ ≤ (accV cs z n ++ cs n).length
      rw [List.length_append]; omega
section
variable {prog : Program} {w : World} {A : Around} {E : Value → Shared → Prop}
theorem sum_loop_lists (hh : A.in1.handled = none) {I l S : Addr} {items : List Value} (la : Nat → Addr) (cs : Nat → List Value) (z : List Value) {R : Result → Shared → Prop}
    (hit : ∀ j, j < items.length → items[j]? = some (.ref (la j))) (hsz : (accV cs z items.length).length ≤ sizeLine) (hSI : S ≠ I) (hSl : S ≠ l) (hIl : I ≠ l) (hla : ∀ j, j < items.length → la j ≠ I ∧ la j ≠ S) :
    ∀ (k i : Nat) (s : Shared) (T : Addr), items.length - i = k → i ≤ items.length → s.heap.IsListIter I l i → s.heap.IsList l items.toArray → (∀ j, j < items.length → ∃ m, s.heap.get? (la j) = some (seqObj "list" (cs j).toArray m)) →
      s.heap.get? S = some (seqObj "list" #[.ref T] 0) ∨ (∃ c, s.heap.get? S = some (seqObj "list" #[.ref T] c)) → (∃ m, s.heap.get? T = some (seqObj "list" (accV cs z i).toArray m)) → T ≠ I → T ≠ S →
      (∀ h' tk T', (∀ b o, b ≠ I → b ≠ S → s.heap.get? b = some o → h'.get? b = some o) → (∃ m, h'.get? T' = some (seqObj "list" (accV cs z items.length).toArray m)) → (T' = T ∧ i = items.length ∨ i < items.length ∧ s.heap.objs.size ≤ T') → R (.ok (.ret (.ref T'))) { s with heap := h', toks := tk }) →
      codeAny (model prog w) A (.builtin "sum.loop" ⟨[.ref I, .ref S, rawInt 2, rawInt 0], []⟩) R s := by
  intro k
  induction k with
  | zero =>
    intro i s T hk hi hI hl hc hS hT hTI hTS hR
    have hin : i = items.length := by omega
    subst hin
    obtain ⟨c, hS⟩ : ∃ c, s.heap.get? S = some (seqObj "list" #[.ref T] c) := by rcases hS with h | h; exact ⟨0, h⟩; exact h
    refine codeAny_builtin F.entry_sum_loop ?_
    rw [Around.under_plainId F.plain_sum_loop _]
    show wpAny _ A.in1 (seqItems? (.ref S) >>= _) _ _ s
    refine wpAny_bind (wpAny_seqItems hS rfl ?_)
    show wpAny _ A.in1 (tryCatch (pyNext (.ref I)) _ >>= _) _ _ s
    refine wpAny_bind (wpAny_tryCatch (wpAny_pyNext_list_end hh hI hl (by simp) fun h' hk' => ?_))
    obtain ⟨m, hT⟩ := hT
    exact wpAny_pure (hR h' s.toks T (fun b o h1 _ e => hk' b o h1 e) ⟨m, hk' _ _ hTI hT⟩ (.inl ⟨rfl, rfl⟩))
  | succ k ih =>
    intro i s T hk hi hI hl hc hS hT hTI hTS hR
    have hlt : i < items.length := by omega
    obtain ⟨c, hS⟩ : ∃ c, s.heap.get? S = some (seqObj "list" #[.ref T] c) := by rcases hS with h | h; exact ⟨0, h⟩; exact h
    obtain ⟨m, hT⟩ := hT
    refine codeAny_builtin F.entry_sum_loop ?_
    rw [Around.under_plainId F.plain_sum_loop _]
    show wpAny _ A.in1 (seqItems? (.ref S) >>= _) _ _ s
    refine wpAny_bind (wpAny_seqItems hS rfl ?_)
    show wpAny _ A.in1 (tryCatch (pyNext (.ref I)) _ >>= _) _ _ s
    refine wpAny_bind (wpAny_tryCatch (wpAny_pyNext_list_item hI hl (x := .ref (la i)) (by simpa using hit i hlt) fun h₁ hI₁ hs₁ => ?_))
    have hS₁ := hs₁.extBut _ _ hSI hS
    have hT₁ := hs₁.extBut _ _ hTI hT
    obtain ⟨mi, hci⟩ := hc i hlt
    have hci₁ := hs₁.extBut _ _ (hla i hlt).1 hci
    show wpAny _ A.in1 ((holding [Value.ref (la i)] (binaryOp .Add (.ref T) (.ref (la i)))).attempt >>= _) _ _ _
    have hlen : (accV cs z (i + 1)).length ≤ sizeLine := Nat.le_trans (accV_len cs z (by omega)) hsz
    have hle : (accV cs z i).toArray.size + (cs i).toArray.size ≤ sizeLine := by
      have : (accV cs z i ++ cs i).length ≤ sizeLine := hlen
      rw [List.length_append] at this
      simpa using this
    refine wpAny_bind (wpAny_attempt (wpAny_holding (PySem.P.add_list hT₁ hci₁ ?_ hle)))
    have ea : (accV cs z i).toArray ++ (cs i).toArray = (accV cs z (i + 1)).toArray := by simp [accV]
    rw [ea]
    generalize hT' : ({ s with heap := h₁ } : Shared).heap.objs.size = T'
    have hT' : h₁.objs.size = T' := hT'
    have hSlt : S < T' := by rw [← hT']; exact Heap.lt_size hS₁
    have hIlt : I < T' := by rw [← hT']; obtain ⟨o, e, _⟩ := hI₁; exact Heap.lt_size e
    generalize hh2 : h₁.push (seqObj "list" (accV cs z (i + 1)).toArray 0) = h₂
    have kp : ∀ b o, h₁.get? b = some o → h₂.get? b = some o := fun b o e => by rw [← hh2]; exact Heap.get?_push_of_some _ e
    have hS₂ := kp _ _ hS₁
    have hT₂ : h₂.get? T' = some (seqObj "list" (accV cs z (i + 1)).toArray 0) := by rw [← hh2, ← hT']; exact Heap.get?_push_size _ rfl
    show wpAny _ A.in1 (updateSeq S (fun _ => #[.ref T']) >>= _) _ _ { s with heap := h₂ }
    refine wpAny_bind ?_
    refine wpAny_updateSeq (s := { s with heap := h₂ }) hS₂ rfl ?_
    have hS₃ := Heap.get?_update_self (Obj.mapSeq fun _ => #[Value.ref T']) hS₂ rfl
    refine wpAny_bind (wpAny_letGo ?_)
    refine wpAny_bind ?_
    refine wpAny_updateSeq hS₃ rfl ?_
    have hS₄ := Heap.get?_update_self (Obj.mapSeq fun _ => #[Value.ref T']) hS₃ rfl
    generalize hh4 : Heap.update (Heap.update ({ s with heap := h₂ } : Shared).heap S (Obj.mapSeq fun _ => #[Value.ref T'])) S (Obj.mapSeq fun _ => #[Value.ref T']) = h₄
    rw [hh4] at hS₄
    have kp4 : ∀ b, b ≠ S → h₄.get? b = h₂.get? b := fun b hb => by
      rw [← hh4, Heap.get?_update_ne _ _ _ _ hb, Heap.get?_update_ne _ _ _ _ hb]
    have all : ∀ b o, b ≠ I → b ≠ S → s.heap.get? b = some o → h₄.get? b = some o := fun b o b1 b2 e => by
      rw [kp4 b b2]; exact kp _ _ (hs₁.extBut _ _ b1 e)
    have hsz4 : s.heap.objs.size ≤ h₄.objs.size := by
      rw [← hh4, Heap.size_update, Heap.size_update, ← hh2, Heap.size_push, hs₁.1]; omega
    refine wpAny_pure ⟨plainId_quiet F.plain_sum_loop _, ih (i + 1) { s with heap := h₄ } T' (by omega) hlt ?_ ?_ (fun j hj => ?_) (.inr ⟨_, hS₄⟩) ⟨0, ?_⟩ (Nat.ne_of_gt hIlt) (Nat.ne_of_gt hSlt) fun h' tk T'' hk' hT'' hor => ?_⟩
    · exact hI₁.at fun o e => (kp4 I hSI.symm).trans (kp _ _ e)
    · exact hl.at fun o e => all l o hIl.symm hSl.symm e
    · obtain ⟨mj, e⟩ := hc j hj
      exact ⟨mj, all _ _ (hla j hj).1 (hla j hj).2 e⟩
    · rw [kp4 T' (Nat.ne_of_gt hSlt)]; exact hT₂
    · refine hR h' tk T'' (fun b o b1 b2 e => hk' b o b1 b2 (all b o b1 b2 e)) hT'' (.inr ⟨hlt, ?_⟩)
      rcases hor with ⟨h, _⟩ | ⟨_, h⟩
      · rw [h, ← hT', hs₁.1]; exact Nat.le_refl _
      · exact Nat.le_trans hsz4 h
theorem args_sum2 (a b : Value) : argsOk "sum" ⟨[a, b], []⟩ := by unfold argsOk; kernel_rfl
theorem call_sum_lists {s : Shared} (hh : A.handled = none) {l z : Addr} {items : List Value} (la : Nat → Addr) (cs : Nat → List Value) (zs : List Value) {Q : Value → Shared → Prop} {mz : Nat}
    (hit : ∀ j, j < items.length → items[j]? = some (.ref (la j))) (hsz : (accV cs zs items.length).length ≤ sizeLine)
    (hl : s.heap.IsList l items.toArray) (hc : ∀ j, j < items.length → ∃ m, s.heap.get? (la j) = some (seqObj "list" (cs j).toArray m)) (hz : s.heap.get? z = some (seqObj "list" zs.toArray mz))
    (h : ∀ h' tk T', (∀ b o, s.heap.get? b = some o → h'.get? b = some o) → (∃ m, h'.get? T' = some (seqObj "list" (accV cs zs items.length).toArray m)) → (T' = z ∧ items = [] ∨ items ≠ [] ∧ s.heap.objs.size ≤ T') → Q (.ref T') { s with heap := h', toks := tk }) :
    wpAny (model prog w) A (call (.builtin "sum") [.ref l, .ref z]) Q E s := by
  refine call_function_tree F.kind_sum F.plain_sum F.entry_sum (args_sum2 _ _) ?_
  unfold Builtin.«sum»
  simp only [List.length_cons, List.length_nil]
  rw [if_neg (by decide)]
  refine wpAny_bind (wpAny_of_eq (show Builtin.Builtins.bindParams "sum" ["start"] 0 ⟨[.ref z], []⟩ = pure [some (.ref z)] from rfl) ?_)
  have hlt : l < s.heap.objs.size := by obtain ⟨_, e, _⟩ := hl; exact Heap.lt_size e
  have hzlt : z < s.heap.objs.size := Heap.lt_size hz
  refine wpAny_bind (wpAny_pyIter_list hl ?_)
  generalize hh1 : s.heap.push { cls := .type "list_iterator", data := .fields #[.ref l, .int 0 0] } = h₁
  have kp : ∀ b o, s.heap.get? b = some o → h₁.get? b = some o := fun b o e => by rw [← hh1]; exact Heap.get?_push_of_some _ e
  have hI : h₁.IsListIter s.heap.objs.size l 0 := by rw [← hh1]; exact ⟨_, Heap.get?_push_size _ rfl, rfl, rfl⟩
  have hsz1 : h₁.objs.size = s.heap.objs.size + 1 := by rw [← hh1, Heap.size_push]
  refine wpAny_bind (wpAny_pure ?_)
  simp only [List.forIn_cons, List.forIn_nil]
  have tz : ∀ (s' : Shared), s'.heap.get? z = some (seqObj "list" zs.toArray mz) → s'.TypeIs (.ref z) "list" := fun s' e => ⟨_, e, rfl⟩
  refine wpAny_bind (wpAny_bind (wpAny_bind (wpAny_isInstance (T := "list") (b := false) (tz { s with heap := h₁ } (kp _ _ hz)) F.sub_list_str ?_)))
  simp only [Bool.false_eq_true, if_false]
  refine wpAny_pure (wpAny_bind (wpAny_bind (wpAny_isInstance (T := "list") (b := false) (tz { s with heap := h₁ } (kp _ _ hz)) F.sub_list_bytes ?_)))
  simp only [Bool.false_eq_true, if_false]
  refine wpAny_pure (wpAny_bind (wpAny_bind (wpAny_isInstance (T := "list") (b := false) (tz { s with heap := h₁ } (kp _ _ hz)) F.sub_list_bytearray ?_)))
  simp only [Bool.false_eq_true, if_false]
  refine wpAny_pure (wpAny_pure ?_)
  refine wpAny_bind (wpAny_newObj_type ?_)
  have kp2 : ∀ b o, s.heap.get? b = some o → (h₁.push (seqObj "list" #[.ref z] 0)).get? b = some o := fun b o e => Heap.get?_push_of_some _ (kp b o e)
  have hS : h₁.objs.size ≠ s.heap.objs.size := by rw [hsz1]; exact Nat.succ_ne_self _
  refine wpAny_pure ⟨plainId_quiet F.plain_sum_loop _, sum_loop_lists hh (S := h₁.objs.size) (l := l) (I := s.heap.objs.size) la cs zs hit hsz hS (by rw [hsz1]; exact Nat.ne_of_gt (Nat.lt_succ_of_lt hlt)) (Nat.ne_of_gt hlt) (fun j hj => ?_) items.length 0 { s with heap := h₁.push (seqObj "list" #[.ref z] 0) } z rfl (Nat.zero_le _) (hI.at fun o e => Heap.get?_push_of_some _ e) (hl.at fun o e => kp2 _ _ e) (fun j hj => ?_) (.inl (Heap.get?_push_size _ rfl)) ⟨mz, kp2 _ _ hz⟩ (Nat.ne_of_lt hzlt) (by rw [hsz1]; exact Nat.ne_of_lt (Nat.lt_succ_of_lt hzlt)) fun h' tk T' hk hT hor => ?_⟩
  · obtain ⟨m, e⟩ := hc j hj
    have := Heap.lt_size e
    exact ⟨Nat.ne_of_lt this, by rw [hsz1]; exact Nat.ne_of_lt (Nat.lt_succ_of_lt this)⟩
  · obtain ⟨m, e⟩ := hc j hj
    exact ⟨m, kp2 _ _ e⟩
  · refine h h' tk T' (fun b o e => ?_) hT ?_
    · have := Heap.lt_size e
      exact hk b o (Nat.ne_of_lt this) (by rw [hsz1]; exact Nat.ne_of_lt (Nat.lt_succ_of_lt this)) (kp2 _ _ e)
    · rcases hor with ⟨h1, h2⟩ | ⟨h1, h2⟩
      · exact .inl ⟨h1, List.eq_nil_of_length_eq_zero h2.symm⟩
      · refine .inr ⟨fun e => by rw [e] at h1; exact absurd h1 (Nat.lt_irrefl _), Nat.le_trans ?_ h2⟩
        show s.heap.objs.size ≤ (h₁.push _).objs.size
        rw [Heap.size_push, hsz1]; omega
end
/-! ### as a rule -/
def rSumL : List V → Hp → VK → Prop := fun vs H Q => ∃ (a z : Addr) (xs : List V) (zs : List V) (yss : List (List V)), vs = [.ref a, .ref z] ∧ H a = some (.lst xs) ∧ H z = some (.lst zs) ∧ xs.length = yss.length ∧ (∀ (j : Nat) (x : V) (ys : List V), xs[j]? = some x → yss[j]? = some ys → ∃ b, x = V.ref b ∧ H b = some (HO.lst ys)) ∧
  (zs ++ yss.flatten).length ≤ sizeLine ∧ (xs = [] → Q (.ref z) H) ∧ (xs ≠ [] → ∀ p, H p = none → Q (.ref p) (upd H p (.lst (zs ++ yss.flatten))))
theorem vals_app {xs ys : List V} {us vs : List Value} (h : Vals xs us) (h' : Vals ys vs) : Vals (xs ++ ys) (us ++ vs) := h.append h'
theorem cr_sumL {X : Cx} (hc : X.calm = true) : CallR X (.builtin "sum") rSumL := by
  intro pins s σ H vs us Q I r h
  obtain ⟨a, z, xs, zs, yss, rfl, ha, hz, hl, hj, hsz, q1, q2⟩ := h
  obtain ⟨u, v, rfl, ru, rv⟩ : ∃ u v, us = [u, v] ∧ RelV (.ref a) u ∧ RelV (.ref z) v := by
    cases r with
    | cons p q => cases q with
      | cons p' q' => cases q'; exact ⟨_, _, rfl, p, p'⟩
  cases ru; cases rv
  obtain ⟨_, its, n, rx, lx, ea⟩ := I.lstM ha
  obtain ⟨_, zv, mz, rz, lz, ez⟩ := I.lstM hz
  -- the items' own lists
  have key : ∀ j, ∃ (b : Addr) (c : List Value), j < its.length → its[j]? = some (.ref b) ∧ (∃ m, s.heap.get? b = some (seqObj "list" c.toArray m)) ∧ ∃ ys, yss[j]? = some ys ∧ Vals ys c := fun j => by
    by_cases hlt : j < its.length
    · have h1 : j < xs.length := by omega
      have h2 : j < yss.length := by omega
      obtain ⟨b, e1, e2⟩ := hj j xs[j] yss[j] (List.getElem?_eq_getElem h1) (List.getElem?_eq_getElem h2)
      obtain ⟨u, e3, e4⟩ := rx.get (List.getElem?_eq_getElem h1)
      rw [e1] at e4
      cases e4
      obtain ⟨_, c, m, rc, _, ec⟩ := I.lstM e2
      exact ⟨b, c, fun _ => ⟨e3, ⟨m, ec⟩, yss[j], List.getElem?_eq_getElem h2, rc⟩⟩
    · exact ⟨0, [], fun h => absurd h hlt⟩
  have key2 : ∃ la : Nat → Addr, ∃ cs : Nat → List Value, ∀ j, j < its.length → its[j]? = some (.ref (la j)) ∧ (∃ m, s.heap.get? (la j) = some (seqObj "list" (cs j).toArray m)) ∧ ∃ ys, yss[j]? = some ys ∧ Vals ys (cs j) :=
    ⟨fun j => (key j).choose, fun j => (key j).choose_spec.choose, fun j => (key j).choose_spec.choose_spec⟩
  obtain ⟨la, cs, hk⟩ := key2
  have acc : ∀ i, i ≤ its.length → Vals (zs ++ (yss.take i).flatten) (accV cs zv i) := fun i => by
    induction i with
    | zero => intro _; simpa [accV] using rz
    | succ i ih =>
      intro hi
      obtain ⟨_, _, ys, e1, e2⟩ := hk i (by omega)
      have := vals_app (ih (by omega)) e2
      rw [List.take_add_one, e1]
      simpa [accV] using this
  have accn := acc its.length (Nat.le_refl _)
  rw [List.take_of_length_le (by omega)] at accn
  refine call_sum_lists (I.ok.hd hc) la cs zv (fun j h => (hk j h).1) (by rw [← accn.length]; exact hsz) ⟨_, ea, rfl, _, rfl⟩ (fun j h => (hk j h).2.1) ez fun h' tk T' hkp hT hor => ?_
  rcases hor with ⟨e1, e2⟩ | ⟨e1, e2⟩
  · subst e1
    exact ⟨.ref T', H, I.kept (t' := tk) hkp, rfl, q1 (by subst e2; cases rx; rfl)⟩
  · obtain ⟨m, hT⟩ := hT
    refine ⟨.ref T', upd H T' (.lst (zs ++ yss.flatten)), I.laid (t' := tk) hkp e2 ⟨hsz, _, m, accn, hT⟩, rfl, q2 (fun e => ?_) T' (I.hok.fresh e2)⟩
    subst e; cases rx; exact e1 rfl
end TL

set_option maxRecDepth 100000
set_option maxHeartbeats 2000000
/-! a, b = a list -/
namespace TL
open PySem PySem.Spec PyProof.Rows L2
section
variable {prog : Program} {w : World} {A : Around} {E : Value → Shared → Prop} {s : Shared}
theorem draw_list {it t : Addr} {items : Array Value} (hne : t ≠ it) : ∀ (n i : Nat) {s : Shared} {Q : List Value → Shared → Prop}, s.heap.IsListIter it t i → s.heap.IsList t items → i + n ≤ items.size →
    (∀ h', h'.IsListIter it t (i + n) → Heap.ExtBut it s.heap h' → Q ((items.toList.drop i).take n) { s with heap := h' }) → wpAny (model prog w) A (draw (.ref it) n) Q E s
  | 0, i, s, Q, hit, ht, hi, hQ => by
    have := hQ s.heap hit (fun b o _ e => e)
    simpa [draw] using wpAny_pure this
  | n + 1, i, s, Q, hit, ht, hi, hQ => by
    have hlt : i < items.size := by omega
    show wpAny _ _ (pyNext (.ref it) >>= _) Q E s
    refine wpAny_bind (wpAny_pyNext_list_item hit ht (x := items[i]) (by simp [hlt]) fun h₁ hit₁ hs₁ => ?_)
    refine wpAny_bind (wpAny_holding (draw_list hne n (i + 1) hit₁ (ht.extBut hs₁.extBut hne) (by omega) fun h₂ hit₂ hs₂ => wpAny_pure ?_))
    have hd : items.toList.drop i = items[i] :: items.toList.drop (i + 1) := by simp [List.drop_eq_getElem_cons, hlt]
    have := hQ h₂ (by rw [show i + (n + 1) = i + 1 + n by omega]; exact hit₂) (fun b o hb e => hs₂ b o hb (hs₁.extBut b o hb e))
    rw [hd, List.take_succ_cons] at this
    exact this
theorem unpackItems_list {t : Addr} {items : Array Value} {Q : List Value → Shared → Prop} (hh : A.handled = none) (ht : s.heap.IsList t items)
    (hQ : ∀ h', Heap.ExtBut s.heap.objs.size s.heap h' → Q items.toList { s with heap := h' }) : wpAny (model prog w) A (unpackItems (.ref t) items.size none) Q E s := by
  have hlt : t ≠ s.heap.objs.size := by obtain ⟨o, ho, _⟩ := ht; exact Nat.ne_of_lt (Heap.lt_size ho)
  unfold unpackItems
  refine wpAny_bind ?_
  · unfold notIterableAtAll
    refine wpAny_bind (wpAny_specialOf ht.typeIs slot_list_iter.lookup ?_)
    refine wpAny_pure ?_
    simp only [Bool.false_eq_true, if_false]
    refine wpAny_bind (wpAny_holding (wpAny_pyIter_list ht ?_))
    refine wpAny_bind (wpAny_holding (draw_list hlt items.size 0 ⟨_, Heap.get?_push_size _ rfl, rfl, rfl⟩ (ht.push _) (by omega) fun h₁ hit₁ hs₁ => ?_))
    have hall : List.take items.size (List.drop 0 items.toList) = items.toList := by
      rw [List.drop_zero]; exact List.take_of_length_le (by simp)
    rw [hall]
    rw [if_neg (by simp)]
    have ht₁ : h₁.IsList t items := (ht.push _).extBut hs₁ hlt
    refine wpAny_bind (wpAny_holding (wpAny_pyNext_list_end hh hit₁ ht₁ (by simp) fun h₂ he₂ => ?_))
    simp only [Option.isSome_none, Bool.false_eq_true, if_false]
    refine wpAny_pure (hQ h₂ fun b o hb e => he₂ b o hb (hs₁ b o hb (Heap.get?_push_of_some _ e)))
theorem assign_Tuple_list {env : Env} {elts : List Expr} {x1} {pos : Pos} {t : Addr} {items : Array Value} {Q : Unit → Shared → Prop} (hh : A.handled = none) (ht : s.heap.IsList t items)
    (hn : (assignEach elts env).length = items.size) (hstar : (assignEach elts env).findIdx? (·.1) = none)
    (h : ∀ h', Heap.ExtBut s.heap.objs.size s.heap h' → wpAny (model prog w) A (assignInOrder ((assignEach elts env).map (·.2)) items.toList) Q E { s with heap := h' }) :
    wpAny (model prog w) A (assign (.Tuple elts x1 pos) env (.ref t)) Q E s := by
  rw [assign_Tuple]
  refine wpAny_bind (wpAny_standAt ?_)
  unfold unpack
  rw [hn, hstar]
  exact wpAny_bind (wpAny_holding (unpackItems_list hh ht h))
end
section
variable {X : Cx} {pos : Pos}
/-- (a, b, ..) = a list of that length -/
def gLst (K : PySem.W.Frag) (n : Nat) (t : TGs) : TG := fun v σ H Q => ∃ a xs, v = .ref a ∧ SqL K H a xs ∧ xs.length = n ∧ t xs σ H Q
theorem pg_lst {es : List Expr} {k : Nat} {t : TGs} {n : Nat} (hc : X.calm = true) (h : PGs X es t)
    (hn : (assignEach es X.env).length = n) (hst : (assignEach es X.env).findIdx? (·.1) = none) : PG X (.Tuple es k pos) (gLst X.K n t) := by
  refine ⟨fun pins s σ H v u Q I r hw => ?_⟩
  obtain ⟨a, xs, e1, hq, hl, hw⟩ := hw
  subst e1
  cases r
  obtain ⟨its, rv, ht, hz⟩ := I.list hq
  refine assign_Tuple_list (I.ok.hd hc) ht.isList (by simp [hn, ← hl, rv.length]) hst fun h' hx => ?_
  have I1 : L2.Inv X pins σ H { s with heap := h' } := I.kept (t' := s.toks) fun b o e => hx b o (Nat.ne_of_lt (Heap.lt_size e)) e
  exact h.run pins _ σ H xs _ Q I1 (by simpa using rv) hw
end
end TL

set_option maxRecDepth 100000
/-! T: a small language of trees, its values and its evaluator -/
namespace TL
open PySem

/-! ### values -/
inductive D where
  | non | bl (b : Bool) | int (i : Int) | str (s : Str)
  | lst (xs : List D) | tup (xs : List D)
  | dic | fn (k : Nat) | exc (c : Nat) (v : D)
  | scr (ns : List Int)
deriving Inhabited
/-- what a name may own: a tree that is read alone, a list (tuple) that nobody else knows -/
inductive O where
  | frz (d : D) | lst (xs : List O) | tup (xs : List O)
deriving Inhabited
mutual
def O.toD : O → D
  | .frz d => d
  | .lst xs => .lst (O.toDs xs)
  | .tup xs => .tup (O.toDs xs)
def O.toDs : List O → List D
  | [] => []
  | x :: xs => O.toD x :: O.toDs xs
end
mutual
/-- a datum of the model -/
def D.py : D → PyData
  | .non => .none | .bl b => .bool b | .int i => .int i | .str s => .str s
  | .lst xs => .list (D.pys xs) | .tup xs => .tuple (D.pys xs)
  | .dic => .none | .fn _ => .none | .exc _ _ => .none | .scr _ => .none
def D.pys : List D → List PyData
  | [] => []
  | x :: xs => D.py x :: D.pys xs
end
mutual
/-- it is data of at most this depth -/
def D.ok : Nat → D → Bool
  | _, .non => true | _, .bl _ => true | _, .int _ => true | _, .str s => PyData.strOk s
  | n + 1, .lst xs => D.oks n xs
  | n + 1, .tup xs => D.oks n xs
  | _, _ => false
def D.oks : Nat → List D → Bool
  | _, [] => true
  | n, x :: xs => D.ok n x && D.oks n xs
end
mutual
/-- == of data -/
def D.eq : D → D → Bool
  | .non, .non => true
  | .bl a, .bl b => a == b
  | .bl a, .int j => (if a then 1 else 0) == j
  | .int i, .bl b => i == (if b then 1 else 0)
  | .int i, .int j => i == j
  | .str x, .str y => x == y
  | .lst xs, .lst ys => D.eqs xs ys
  | .tup xs, .tup ys => D.eqs xs ys
  | _, _ => false
def D.eqs : List D → List D → Bool
  | [], [] => true
  | x :: xs, y :: ys => D.eq x y && D.eqs xs ys
  | _, _ => false
end

/-! ### the text -/
inductive BOp where | add | sub | mul | fdiv | mod | pow
deriving DecidableEq
inductive COp where | eq | ne | lt | le | gt | ge | is_ | isnot | in_ | notin
deriving DecidableEq
inductive Ty where | int | bool | str | list | tuple | cls (c : Nat)
deriving DecidableEq
inductive Blt where | len | abs | max2 | min2 | sum | sum2 | all | any | int | bool | str | ord | repr
deriving DecidableEq
inductive Mth where | count | index | bits | join | split
deriving DecidableEq
inductive TT where
  | n (k : Nat) | t (ts : List TT)
mutual
inductive TE where
  | var (k : Nat) | int (i : Int) | str (s : Str) | bl (b : Bool) | non
  | glob (g : Nat) | fn (f : Nat)
  | bin (op : BOp) (a b : TP) | neg (a : TE)
  | cmp (op : COp) (a b : TP) | chain (o1 o2 : COp) (a b c : TP)
  | and_ (es : List TE) | or_ (es : List TE) | not_ (a : TE) | ife (t a b : TE)
  | call (f : Nat) (as : List TA) (perm : List Nat)
  | blt (b : Blt) (as : List TP)
  | isi (a : TP) (ts : List Ty)
  | meth (m : Mth) (r : TP) (as : List TP)
  | tup (es : List TL)
  | sub (a : TP) (i : TE) | slt (a : TP) (lo hi : Option TE)
  | pop (k : Nat) (path : List TE) (i : Option TE)
  | val (a : TE)
  | f (t : TF) | bad
/-- an operand: an expression, or a name that is looked at alone -/
inductive TP where
  | e (a : TE) | pk (k : Nat)
/-- an argument: by value, a name lent, a thing made for the call -/
inductive TA where
  | d (a : TE) | b (k : Nat) | o (a : TO)
inductive TL where
  | e (a : TE) | s (a : TE)
/-- what makes a new list -/
inductive TF where
  | lst (es : List TL) | comp (elt : TE) (tg : TT) (it : TI) (ifs : List TE) (own : List Nat)
  | cat (a b : TP) | rep (a : TP) (n : TE) | slice (a : TP) (lo hi : Option TE)
  | list_ (it : TI) | sorted (a : TP) | sumL (a : TP)
inductive TI where
  | seq (a : TE) | rng1 (a : TE) | rng2 (a b : TE) | enum (a : TE) | zip (a b : TE) (strict : Bool)
/-- an expression whose value is owned -/
inductive TO where
  | e (a : TE) | f (t : TF) | lst (es : List TO) | tup (es : List TO) | mv (k : Nat)
  | comp (elt : TO) (tg : TT) (it : TI) (ifs : List TE) (own : List Nat)
  | call (f : Nat) (as : List TA) (perm : List Nat) | ife (t : TE) (a b : TO)
end
inductive TS where
  | asg (k : Nat) (e : TO) | asgT (t : TT) (e : TE) | par (ks : List Nat) (es : List TO)
  | store (k : Nat) (path : List TE) (i : TE) (e : TO)
  | aug (k : Nat) (op : BOp) (e : TE) | augS (k : Nat) (i : TE) (op : BOp) (e : TE)
  | app (k : Nat) (path : List TE) (e : TO)
  | expr (e : TE)
  | for_ (t : TT) (it : TI) (body : List TS) | while_ (c : TE) (body : List TS)
  | if_ (c : TE) (a b : List TS)
  | ret (e : TO) | retN | raise (c : Nat) (e : Option TE)
  | try_ (body : List TS) (c : Nat) (k : Nat) (suite : List TS)
  | pass | bad

/-! ### results -/
abbrev En := List (Option O)
inductive Res (α : Type) where
  | ok (a : α) (e : En) | exc (c : Nat) (d : D) (e : En) | stuck
def Res.bind {α β : Type} (r : Res α) (f : α → En → Res β) : Res β := match r with
  | .ok a e => f a e | .exc c d e => .exc c d e | .stuck => .stuck
inductive CRes where
  | ok (o : O) (outs : List (Option O)) | exc (c : Nat) (d : D) (outs : List (Option O)) | stuck
inductive FRes where
  | next (e : En) | ret (o : O) (e : En) | exc (c : Nat) (d : D) (e : En) | stuck

/-! ### operators on values -/
def mulOk (i j : Int) : Bool := decide (i.natAbs.log2 + j.natAbs.log2 < 1000000)
def divOk (j : Int) : Bool := decide (0 < j) && decide (j.natAbs.log2 < 9000)
def powOk (i j : Int) : Bool := decide (0 ≤ j) && decide (j ≤ 100) && decide (i.natAbs.log2 < 300)
def listLine : Nat := 16777216
def opB : BOp → D → D → Option D
  | .add, .int i, .int j => some (.int (i + j))
  | .sub, .int i, .int j => some (.int (i - j))
  | .mul, .int i, .int j => if mulOk i j then some (.int (i * j)) else none
  | .fdiv, .int i, .int j => if divOk j then some (.int (i / j)) else none
  | .mod, .int i, .int j => if 0 < j then some (.int (i % j)) else none
  | .pow, .int i, .int j => if powOk i j then some (.int (i ^ j.toNat)) else none
  | .add, .str x, .str y => if x.length + y.length ≤ listLine then some (.str (x ++ y)) else none
  | _, _, _ => none
def D.items : D → Option (List D)
  | .lst xs => some xs
  | .tup xs => some xs
  | .scr ns => some (ns.map .int)
  | _ => none
def isNonD : D → Bool
  | .non => true
  | _ => false
def opC : COp → D → D → Option Bool
  | .eq, a, b => if D.ok 60 a && D.ok 60 b then some (D.eq a b) else none
  | .ne, a, b => if D.ok 60 a && D.ok 60 b then some (!D.eq a b) else none
  | .lt, .int i, .int j => some (decide (i < j))
  | .le, .int i, .int j => some (decide (i ≤ j))
  | .gt, .int i, .int j => some (decide (j < i))
  | .ge, .int i, .int j => some (decide (j ≤ i))
  | .is_, a, .non => some (isNonD a)
  | .isnot, a, .non => some (!isNonD a)
  | .in_, a, .lst xs => if D.ok 50 a && D.oks 50 xs then some (xs.any fun z => D.eq z a) else none
  | .notin, a, .lst xs => if D.ok 50 a && D.oks 50 xs then some (!xs.any fun z => D.eq z a) else none
  | _, _, _ => none
/-- the place of an index -/
def ixAt (n : Nat) (i : Int) : Option Nat := if 0 ≤ i then (if i < n then some i.toNat else none) else if -(n : Int) ≤ i then some (i + n).toNat else none
def subD : D → D → Option D
  | .lst xs, .int i => (ixAt xs.length i).bind fun j => xs[j]?
  | .tup xs, .int i => (ixAt xs.length i).bind fun j => xs[j]?
  | .scr ns, .int i => (ixAt ns.length i).bind fun j => (ns[j]?).map .int
  | _, _ => none
/-- where a slice begins, ends -/
def cutIx (n d : Nat) : Option Int → Nat
  | none => d
  | some v => if v < 0 then (v + (n : Int)).toNat else min v.toNat n
def cutD {α : Type} (xs : List α) (lo hi : Option Int) : List α := (xs.drop (cutIx xs.length 0 lo)).take (cutIx xs.length xs.length hi - cutIx xs.length 0 lo)
def sumI : List D → Option Int
  | [] => some 0
  | .int i :: r => (sumI r).map (i + ·)
  | _ => none
def sumL : List D → Option (List D)
  | [] => some []
  | .lst xs :: r => (sumL r).map (xs ++ ·)
  | _ => none
def boolsOf : List D → Option (List Bool)
  | [] => some []
  | .bl b :: r => (boolsOf r).map (b :: ·)
  | _ => none
def intsOf : List D → Option (List Int)
  | [] => some []
  | .int i :: r => (intsOf r).map (i :: ·)
  | _ => none
def intssOf : List D → Option (List (List Int))
  | [] => some []
  | .lst xs :: r => (intsOf xs).bind fun ns => (intssOf r).map (ns :: ·)
  | _ => none
def sortD (xs : List D) : Option (List D) := match intsOf xs with
  | some ns => some ((ns.mergeSort fun a b => decide (a ≤ b)).map .int)
  | none => (intssOf xs).map fun l => (l.mergeSort fun p q => decide (p ≤ q)).map fun ns => .lst (ns.map .int)
def absI (i : Int) : Int := if i < 0 then -i else i
def bitsI (i : Int) : Nat := PySem.Builtin.Int.intBits i
def opX : Blt → List D → Option D
  | .len, [.lst xs] => some (.int xs.length)
  | .len, [.tup xs] => some (.int xs.length)
  | .len, [.scr xs] => some (.int xs.length)
  | .abs, [.int i] => some (.int (absI i))
  | .max2, [.int i, .int j] => some (.int (if j > i then j else i))
  | .min2, [.int i, .int j] => some (.int (if j < i then j else i))
  | .sum, [.lst xs] => (sumI xs).map .int
  | .all, [.lst xs] => (boolsOf xs).map fun bs => .bl (bs.all id)
  | .any, [.lst xs] => (boolsOf xs).map fun bs => .bl (bs.any id)
  | .int, [.int i] => some (.int i)
  | .int, [.bl b] => some (.int (if b then 1 else 0))
  | _, _ => none
def isTy : Ty → D → Bool
  | .int, .int _ => true
  | .int, .bl _ => true
  | .bool, .bl _ => true
  | .str, .str _ => true
  | .list, .lst _ => true
  | .list, .scr _ => true
  | .tuple, .tup _ => true
  | .cls c, .exc c' _ => c == 0 || c == c'
  | _, _ => false
/-- data of which the class is asked -/
def plainD : D → Bool
  | .fn _ => false
  | .exc _ _ => false
  | _ => true
def tyOpt : Ty → D → Option Bool
  | .cls c, .exc c' _ => some (c == 0 || c == c')
  | .cls _, d => if plainD d then some false else none
  | t, d => if plainD d then some (isTy t d) else none
def isiD : List Ty → D → Option Bool
  | [], _ => some false
  | t :: ts, d => (tyOpt t d).bind fun b => if b then some true else isiD ts d
def opM : Mth → D → List D → Option D
  | .count, .lst xs, [.int i] => (intsOf xs).map fun ns => .int (ns.count i)
  | .bits, .int i, [] => some (.int (bitsI i))
  | _, _, _ => none

/-! ### the names -/
def En.at (e : En) (k : Nat) : Option O := (e[k]?).bind id
def En.put (e : En) (k : Nat) (o : O) : En := e.set k (some o)
/-- an operand's value -/
inductive PV where | v (d : D) | r (k : Nat)
def PV.get : PV → En → Option D
  | .v d, _ => some d
  | .r k, e => (e.at k).map O.toD
inductive AV where | v (d : D) | b (k : Nat) | o (o : O)
def AV.get : AV → En → Option O
  | .v d, _ => some (.frz d)
  | .b k, e => e.at k
  | .o x, _ => some x
def getAll {α β : Type} (f : α → Option β) : List α → Option (List β)
  | [] => some []
  | a :: r => (f a).bind fun b => (getAll f r).map (b :: ·)
mutual
/-- a target -/
def bindT : TT → D → En → Option En
  | .n k, d, e => some (e.put k (.frz d))
  | .t ts, .tup ds, e => bindTs ts ds e
  | .t ts, .lst ds, e => bindTs ts ds e
  | .t _, _, _ => none
def bindTs : List TT → List D → En → Option En
  | [], [], e => some e
  | t :: ts, d :: ds, e => (bindT t d e).bind (bindTs ts ds)
  | _, _, _ => none
end
def allFrz : List O → Option (List D)
  | [] => some []
  | .frz d :: r => (allFrz r).map (d :: ·)
  | _ => none
/-- a thing read by a place: what it owns there must be frozen -/
def subO : O → D → Option D
  | .frz d, i => subD d i
  | .lst os, .int i => (ixAt os.length i).bind fun j => (os[j]?).bind fun o => (match o with | .frz d => some d | _ => none)
  | .tup os, .int i => (ixAt os.length i).bind fun j => (os[j]?).bind fun o => (match o with | .frz d => some d | _ => none)
  | _, _ => none
def PV.sub : PV → D → En → Option D
  | .v d, i, _ => subD d i
  | .r k, i, e => (e.at k).bind fun o => subO o i
/-- the items of a list that are frozen -/
def PV.list : PV → En → Option (List D)
  | .v (.lst xs), _ => some xs
  | .v _, _ => none
  | .r k, e => (e.at k).bind fun o => (match o with | .frz (.lst xs) => some xs | .lst os => allFrz os | _ => none)
def PV.listS : PV → En → Option (List D)
  | .v (.scr ns), _ => some (ns.map .int)
  | p, e => p.list e
/-- the inner thing at a path is changed -/
def O.modAt {α : Type} (f : O → Option (O × α)) : List D → O → Option (O × α)
  | [], o => f o
  | .int i :: p, .lst os => (ixAt os.length i).bind fun j => (os[j]?).bind fun o => (O.modAt f p o).map fun r => (.lst (os.set j r.1), r.2)
  | .int i :: p, .tup os => (ixAt os.length i).bind fun j => (os[j]?).bind fun o => (O.modAt f p o).map fun r => (.tup (os.set j r.1), r.2)
  | _, _ => none
def En.modAt {α : Type} (f : O → Option (O × α)) (k : Nat) (p : List D) (e : En) : Option (En × α) := (e.at k).bind fun o => (O.modAt f p o).map fun r => (e.put k r.1, r.2)
def appO (x : O) : O → Option (O × Unit)
  | .lst os => if os.length < listLine then some (.lst (os ++ [x]), ()) else none
  | _ => none
def setO (i : D) (x : O) : O → Option (O × Unit)
  | .lst os => (match i with | .int i => (ixAt os.length i).map fun j => (.lst (os.set j x), ()) | _ => none)
  | _ => none
def popO (i : Option D) : O → Option (O × D)
  | .lst os => (match i with
    | none => (match os.getLast? with | some (.frz d) => some (.lst os.dropLast, d) | _ => none)
    | some (.int i) => (ixAt os.length i).bind fun j => (match os[j]? with | some (.frz d) => some (.lst (os.eraseIdx j), d) | _ => none)
    | _ => none)
  | _ => none
end TL

set_option maxRecDepth 100000
namespace TL
open PySem
/-- the calls, the module's constants, the turns of a while -/
structure Cfg where
  call : Nat → List O → CRes
  glob : Nat → Option D
  loop : (En → Res D) → (En → FRes) → En → FRes
def ofOpt {α : Type} (o : Option α) (e : En) : Res α := match o with
  | some a => .ok a e
  | none => .stuck
/-- through the items of what is walked (a comprehension): what is kept -/
def loopC {α : Type} (f : D → En → Res (Option α)) : List D → En → Res (List α)
  | [], e => .ok [] e
  | d :: ds, e => (f d e).bind fun o e1 => (loopC f ds e1).bind fun r e2 => .ok (match o with | some a => a :: r | none => r) e2
/-- a comprehension's own names are forgotten, then stand as before -/
def wipeE (e : En) : List Nat → En
  | [] => e
  | k :: r => (wipeE e r).set k none
def noExc {α : Type} (r : Res α) : Res α := match r with
  | .exc _ _ _ => .stuck
  | r => r
def enumD (ds : List D) : List D := (ds.zipIdx).map fun p => .tup [.int (p.2 : Nat), p.1]
def zipD (xs ys : List D) : List D := (xs.zip ys).map fun p => .tup [p.1, p.2]
/-- a list's, a tuple's items -/
def seqD : D → Option (List D)
  | .lst xs => some xs
  | .tup xs => some xs
  | _ => none
def rangeD (i j : Int) : List D := (List.range (j - i).toNat).map fun n => .int (i + (n : Nat))
def smallI (i : Int) : Bool := decide (-(2 ^ 22) < i) && decide (i < 2 ^ 22)
def pick {α : Type} (l : List α) : List Nat → Option (List α)
  | [] => some []
  | i :: r => (l[i]?).bind fun a => (pick l r).map (a :: ·)
/-- what a call leaves of the lent names -/
def putOuts : List AV → List (Option O) → En → Option En
  | [], [], e => some e
  | .b k :: r, some x :: s, e => putOuts r s (e.put k x)
  | .v _ :: r, _ :: s, e => putOuts r s e
  | .o _ :: r, _ :: s, e => putOuts r s e
  | _, _, _ => none
def lent : List AV → List Nat
  | [] => []
  | .b k :: r => k :: lent r
  | _ :: r => lent r
def nodupN : List Nat → Bool
  | [] => true
  | a :: r => !r.contains a && nodupN r
def doCall (C : Cfg) (f : Nat) (vs : List AV) (e : En) : Res O := if (lent vs).length ≤ 1 then (match getAll (fun v => AV.get v e) vs with
    | none => .stuck
    | some os => (match C.call f os with
      | .ok x outs => ofOpt (putOuts vs outs e) e |>.bind fun e1 _ => .ok x e1
      | .exc c d outs => ofOpt (putOuts vs outs e) e |>.bind fun e1 _ => .exc c d e1
      | .stuck => .stuck)) else .stuck
def boolD : D → Option Bool
  | .bl b => some b
  | _ => none
def intD : D → Option Int
  | .int i => some i
  | _ => none
variable (C : Cfg)
mutual
def evalE : TE → En → Res D
  | .var k, e => (match e.at k with
    | some o => .ok o.toD (e.put k (.frz o.toD))
    | none => .stuck)
  | .int i, e => .ok (.int i) e
  | .str s, e => .ok (.str s) e
  | .bl b, e => .ok (.bl b) e
  | .non, e => .ok .non e
  | .glob g, e => ofOpt (C.glob g) e
  | .fn f, e => .ok (.fn f) e
  | .bin op a b, e => (evalP a e).bind fun x e1 => (evalP b e1).bind fun y e2 => ofOpt ((x.get e2).bind fun x => (y.get e2).bind fun y => opB op x y) e2
  | .neg a, e => (evalE a e).bind fun x e1 => (match x with
    | .int i => .ok (.int (-i)) e1
    | _ => .stuck)
  | .cmp op a b, e => (evalP a e).bind fun x e1 => (evalP b e1).bind fun y e2 => ofOpt ((x.get e2).bind fun x => (y.get e2).bind fun y => (opC op x y).map .bl) e2
  | .chain o1 o2 a b c, e => (evalP a e).bind fun x e1 => (evalP b e1).bind fun y e2 => (match (x.get e2).bind fun x => (y.get e2).bind fun y => opC o1 x y with
    | none => .stuck
    | some false => .ok (.bl false) e2
    | some true => (evalP c e2).bind fun z e3 => ofOpt ((y.get e3).bind fun y => (z.get e3).bind fun z => (opC o2 y z).map .bl) e3)
  | .and_ es, e => evalAnd es e
  | .or_ es, e => evalOr es e
  | .not_ a, e => (evalE a e).bind fun x e1 => (match x with
    | .bl b => .ok (.bl (!b)) e1
    | _ => .stuck)
  | .ife t a b, e => (evalE t e).bind fun x e1 => (match x with
    | .bl true => evalE a e1
    | .bl false => evalE b e1
    | _ => .stuck)
  | .call f as perm, e => (evalAs as e).bind fun vs e1 => (doCall C f vs e1).bind fun o e2 => .ok o.toD e2
  | .blt b as, e => (evalPs as e).bind fun vs e1 => ofOpt ((getAll (fun v => PV.get v e1) vs).bind (opX b)) e1
  | .isi a ts, e => (evalP a e).bind fun x e1 => ofOpt ((x.get e1).bind fun d => (isiD ts d).map .bl) e1
  | .meth m r as, e => (evalP r e).bind fun x e1 => (evalPs as e1).bind fun vs e2 => ofOpt ((x.get e2).bind fun d => (getAll (fun v => PV.get v e2) vs).bind (opM m d)) e2
  | .tup es, e => (evalLs es e).bind fun ds e1 => .ok (.tup ds) e1
  | .sub a i, e => (evalP a e).bind fun x e1 => (evalE i e1).bind fun i e2 => ofOpt (x.sub i e2) e2
  | .slt a lo hi, e => .stuck
  | .pop k path i, e => (evalEs path e).bind fun p e1 => (match i with
    | none => ofOpt (En.modAt (popO none) k p e1) e1 |>.bind fun r _ => .ok r.2 r.1
    | some i => (evalE i e1).bind fun i e2 => ofOpt (En.modAt (popO (some i)) k p e2) e2 |>.bind fun r _ => .ok r.2 r.1)
  | .val a, e => (evalE a e).bind fun x e1 => (match x with
    | .exc _ v => .ok v e1
    | _ => .stuck)
  | .f t, e => (evalF t e).bind fun xs e1 => .ok (.lst xs) e1
  | .bad, e => .stuck
def evalEs : List TE → En → Res (List D)
  | [], e => .ok [] e
  | a :: r, e => (evalE a e).bind fun x e1 => (evalEs r e1).bind fun xs e2 => .ok (x :: xs) e2
def evalAnd : List TE → En → Res D
  | [], _ => .stuck
  | [a], e => evalE a e
  | a :: r, e => (evalE a e).bind fun x e1 => (match x with
    | .bl true => evalAnd r e1
    | .bl false => .ok (.bl false) e1
    | _ => .stuck)
def evalOr : List TE → En → Res D
  | [], _ => .stuck
  | [a], e => evalE a e
  | a :: r, e => (evalE a e).bind fun x e1 => (match x with
    | .bl false => evalOr r e1
    | .bl true => .ok (.bl true) e1
    | _ => .stuck)
def evalP : TP → En → Res PV
  | .e a, e => (evalE a e).bind fun x e1 => .ok (.v x) e1
  | .pk k, e => (match e.at k with
    | some _ => .ok (.r k) e
    | none => .stuck)
def evalPs : List TP → En → Res (List PV)
  | [], e => .ok [] e
  | a :: r, e => (evalP a e).bind fun x e1 => (evalPs r e1).bind fun xs e2 => .ok (x :: xs) e2
def evalA : TA → En → Res AV
  | .d a, e => (evalE a e).bind fun x e1 => .ok (.v x) e1
  | .b k, e => (match e.at k with
    | some _ => .ok (.b k) e
    | none => .stuck)
  | .o a, e => (evalO a e).bind fun x e1 => .ok (.o x) e1
def evalAs : List TA → En → Res (List AV)
  | [], e => .ok [] e
  | a :: r, e => (evalA a e).bind fun x e1 => (evalAs r e1).bind fun xs e2 => .ok (x :: xs) e2
def evalLs : List TL → En → Res (List D)
  | [], e => .ok [] e
  | .e a :: r, e => (evalE a e).bind fun x e1 => (evalLs r e1).bind fun xs e2 => .ok (x :: xs) e2
  | .s a :: r, e => (evalE a e).bind fun x e1 => (match x.items with
    | some l => (evalLs r e1).bind fun xs e2 => .ok (l ++ xs) e2
    | none => .stuck)
def evalI : TI → En → Res (List D)
  | .seq a, e => (evalE a e).bind fun x e1 => ofOpt x.items e1
  | .rng1 a, e => (evalE a e).bind fun x e1 => (match x with
    | .int j => if smallI j then .ok (rangeD 0 j) e1 else .stuck
    | _ => .stuck)
  | .rng2 a b, e => (evalE a e).bind fun x e1 => (evalE b e1).bind fun y e2 => (match x, y with
    | .int i, .int j => if smallI i && smallI j then .ok (rangeD i j) e2 else .stuck
    | _, _ => .stuck)
  | .enum a, e => (evalE a e).bind fun x e1 => (match x with
    | .lst xs => .ok (enumD xs) e1
    | _ => .stuck)
  | .zip a b st, e => (evalE a e).bind fun x e1 => (evalE b e1).bind fun y e2 => ofOpt ((seqD x).bind fun xs => (seqD y).bind fun ys => if st && xs.length != ys.length then none else some (zipD xs ys)) e2
def evalF : TF → En → Res (List D)
  | .lst es, e => evalLs es e
  | .comp elt tg it ifs own, e => (evalI it e).bind fun ds e1 => noExc (loopC (fun d e => match bindT tg d e with
      | none => .stuck
      | some e => (evalIfs ifs e).bind fun b e => if b then (evalE elt e).bind fun x e => .ok (some x) (wipeE e own) else .ok none (wipeE e own)) ds (wipeE e1 own))
  | .cat a b, e => (evalP a e).bind fun x e1 => (evalP b e1).bind fun y e2 => ofOpt ((x.list e2).bind fun xs => (y.list e2).bind fun ys => if xs.length + ys.length ≤ listLine then some (xs ++ ys) else none) e2
  | .rep a n, e => (evalP a e).bind fun x e1 => (evalE n e1).bind fun n e2 => ofOpt ((x.list e2).bind fun xs => (intD n).bind fun n => if smallI n && decide (xs.length * n.toNat ≤ listLine) then some (List.replicate n.toNat xs).flatten else none) e2
  | .slice a lo hi, e => (evalP a e).bind fun x e1 => (evalOpt lo e1).bind fun l e2 => (evalOpt hi e2).bind fun h e3 => ofOpt ((x.listS e3).map fun xs => cutD xs l h) e3
  | .list_ it, e => evalI it e
  | .sorted a, e => (evalP a e).bind fun x e1 => ofOpt ((x.list e1).bind sortD) e1
  | .sumL a, e => (evalP a e).bind fun x e1 => ofOpt ((x.list e1).bind fun xs => (sumL xs).bind fun ys => if ys.length ≤ listLine then some ys else none) e1
def evalOpt : Option TE → En → Res (Option Int)
  | none, e => .ok none e
  | some a, e => (evalE a e).bind fun x e1 => (match x with
    | .int i => .ok (some i) e1
    | _ => .stuck)
def evalIfs : List TE → En → Res Bool
  | [], e => .ok true e
  | a :: r, e => (evalE a e).bind fun x e1 => (match x with
    | .bl true => evalIfs r e1
    | .bl false => .ok false e1
    | _ => .stuck)
def evalO : TO → En → Res O
  | .e a, e => (evalE a e).bind fun x e1 => .ok (.frz x) e1
  | .f t, e => (evalF t e).bind fun xs e1 => .ok (.lst (xs.map .frz)) e1
  | .lst es, e => (evalOs es e).bind fun xs e1 => .ok (.lst xs) e1
  | .tup es, e => (evalOs es e).bind fun xs e1 => .ok (.tup xs) e1
  | .mv k, e => (match e.at k with
    | some o => .ok o (e.set k none)
    | none => .stuck)
  | .comp elt tg it ifs own, e => (evalI it e).bind fun ds e1 => (noExc (loopC (fun d e => match bindT tg d e with
      | none => .stuck
      | some e => (evalIfs ifs e).bind fun b e => if b then (evalO elt e).bind fun x e => .ok (some x) (wipeE e own) else .ok none (wipeE e own)) ds (wipeE e1 own))).bind fun xs e2 => .ok (.lst xs) e2
  | .call f as perm, e => (evalAs as e).bind fun vs e1 => doCall C f vs e1
  | .ife t a b, e => (evalE t e).bind fun x e1 => (match x with
    | .bl true => evalO a e1
    | .bl false => evalO b e1
    | _ => .stuck)
def evalOs : List TO → En → Res (List O)
  | [], e => .ok [] e
  | a :: r, e => (evalO a e).bind fun x e1 => (evalOs r e1).bind fun xs e2 => .ok (x :: xs) e2
end
/-! ### statements -/
def FRes.bind (r : FRes) (f : En → FRes) : FRes := match r with
  | .next e => f e
  | r => r
def Res.st {α : Type} (r : Res α) (f : α → En → FRes) : FRes := match r with
  | .ok a e => f a e
  | .exc c d e => .exc c d e
  | .stuck => .stuck
def loopF (f : D → En → FRes) : List D → En → FRes
  | [], e => .next e
  | d :: ds, e => (f d e).bind (loopF f ds)
def loopW (c : En → Res D) (f : En → FRes) : Nat → En → FRes
  | 0, _ => .stuck
  | n + 1, e => (c e).st fun x e1 => (match x with
    | .bl true => (f e1).bind (loopW c f n)
    | .bl false => .next e1
    | _ => .stuck)
def optF (o : Option En) : FRes := match o with
  | some e => .next e
  | none => .stuck
def isLstAt (e : En) (k : Nat) : Bool := match e.at k with
  | some (.lst _) => true
  | _ => false
def putAll : List Nat → List O → En → Option En
  | [], [], e => some e
  | k :: ks, x :: xs, e => putAll ks xs (e.put k x)
  | _, _, _ => none
mutual
def exec : TS → En → FRes
  | .asg k a, e => (evalO C a e).st fun x e1 => .next (e1.put k x)
  | .asgT t a, e => (evalE C a e).st fun x e1 => optF (bindT t x e1)
  | .par ks es, e => (evalOs C es e).st fun xs e1 => optF (putAll ks xs e1)
  | .store k path i a, e => (evalO C a e).st fun x e1 => if isLstAt e1 k then (evalEs C path e1).st fun p e2 => (evalE C i e2).st fun i e3 => optF ((En.modAt (setO i x) k p e3).map (·.1)) else .stuck
  | .aug k op a, e => (match e.at k with
    | some (.frz x) => (evalE C a e).st fun y e1 => optF ((opB op x y).map fun z => e1.put k (.frz z))
    | _ => .stuck)
  | .augS k i op a, e => (evalE C i e).st fun i e1 => (match (PV.r k).sub i e1 with
    | some x => (evalE C a e1).st fun y e2 => optF ((opB op x y).bind fun z => (En.modAt (setO i (.frz z)) k [] e2).map (·.1))
    | none => .stuck)
  | .app k path a, e => if isLstAt e k then (evalEs C path e).st fun p e1 => (evalO C a e1).st fun x e2 => optF ((En.modAt (appO x) k p e2).map (·.1)) else .stuck
  | .expr a, e => (evalE C a e).st fun _ e1 => .next e1
  | .for_ t it body, e => (evalI C it e).st fun ds e1 => loopF (fun d e => match bindT t d e with
    | some e => execs body e
    | none => .stuck) ds e1
  | .while_ c body, e => C.loop (evalE C c) (execs body) e
  | .if_ c a b, e => (evalE C c e).st fun x e1 => (match x with
    | .bl true => execs a e1
    | .bl false => execs b e1
    | _ => .stuck)
  | .ret a, e => (evalO C a e).st fun x e1 => .ret x e1
  | .retN, e => .ret (.frz .non) e
  | .raise c a, e => (match a with
    | none => .exc c .non e
    | some a => (evalE C a e).st fun x e1 => .exc c x e1)
  | .try_ body c k suite, e => (match execs body e with
    | .exc c' d e1 => if c == 0 || c == c' then (execs suite (e1.put k (.frz (.exc c' d)))).bind fun e2 => .next (e2.set k none) else .exc c' d e1
    | r => r)
  | .pass, e => .next e
  | .bad, e => .stuck
def execs : List TS → En → FRes
  | [], e => .next e
  | a :: r, e => (exec a e).bind (execs r)
end
/-! ### defs -/
structure TDef where
  np : Nat
  nv : Nat
  bor : List Bool
  body : List TS
  ext : Option (List O → CRes) := none
/-- what the lent parameters are at the end -/
def outsOf : List Bool → En → List (Option O)
  | [], _ => []
  | _ :: bs, [] => none :: outsOf bs []
  | b :: bs, x :: e => (if b then x else none) :: outsOf bs e
/-- what the names hold at the start -/
def frzL : List Bool → List O → En
  | b :: bs, o :: os => some (if b then o else .frz o.toD) :: frzL bs os
  | _, _ => []
def startE (d : TDef) (os : List O) : En := frzL d.bor os ++ List.replicate (d.nv - d.np) none
def runDef (C : Cfg) (d : TDef) (os : List O) : CRes := match d.ext with
  | some g => g os
  | none => if os.length = d.np ∧ d.bor.length = d.np then (match execs C d.body (startE d os) with
    | .next e => .ok (.frz .non) (outsOf d.bor e)
    | .ret x e => .ok x (outsOf d.bor e)
    | .exc c v e => .exc c v (outsOf d.bor e)
    | .stuck => .stuck) else .stuck
/-- the calls at a depth -/
def callT (P : List TDef) (gl : Nat → Option D) (n : (En → Res D) → (En → FRes) → En → FRes) : Nat → Nat → List O → CRes
  | 0, _, _ => .stuck
  | k + 1, f, os => match P[f]? with
    | some d => runDef ⟨callT P gl n k, gl, n⟩ d os
    | none => .stuck
/-- a while that ends: after as many turns as it takes -/
noncomputable def loopU (c : En → Res D) (f : En → FRes) (e : En) : FRes := by
  classical
  exact if h : ∃ n, loopW c f n e ≠ .stuck then loopW c f h.choose e else .stuck
def LoopOk (lp : (En → Res D) → (En → FRes) → En → FRes) : Prop := ∀ c f e, lp c f e = .stuck ∨ ∃ n, lp c f e = loopW c f n e
theorem loopU_ok : LoopOk loopU := fun c f e => by
  unfold loopU
  by_cases h : ∃ n, loopW c f n e ≠ .stuck
  · exact .inr ⟨h.choose, by simp only [h, dite_true]⟩
  · exact .inl (by simp only [h, dite_false])
theorem loopW_up {c : En → Res D} {f : En → FRes} : ∀ {n : Nat} {e : En}, loopW c f n e ≠ .stuck → loopW c f (n + 1) e = loopW c f n e
  | 0, e, h => absurd rfl h
  | n + 1, e, h => by
    rw [loopW] at h ⊢
    conv => rhs; rw [loopW]
    cases q : c e with
    | ok x e1 =>
      rw [q] at h
      simp only [Res.st] at h ⊢
      cases x with
      | bl b =>
        cases b with
        | true =>
          simp only at h ⊢
          cases q2 : f e1 with
          | next e2 =>
            rw [q2] at h
            exact loopW_up (n := n) (e := e2) h
          | ret o e2 => rfl
          | exc c d e2 => rfl
          | stuck => rfl
        | false => rfl
      | _ => rfl
    | exc => rfl
    | stuck => rfl
theorem loopW_le {c : En → Res D} {f : En → FRes} {n m : Nat} {e : En} (h : loopW c f n e ≠ .stuck) (hm : n ≤ m) : loopW c f m e = loopW c f n e := by
  induction m with
  | zero => obtain rfl : n = 0 := by omega
            rfl
  | succ m ih =>
    by_cases e1 : n = m + 1
    · rw [e1]
    · have := ih (by omega)
      rw [← this]
      exact loopW_up (by rw [this]; exact h)
theorem loopU_of {c : En → Res D} {f : En → FRes} {n : Nat} {e : En} (h : loopW c f n e ≠ .stuck) : loopU c f e = loopW c f n e := by
  have hx : ∃ n, loopW c f n e ≠ .stuck := ⟨n, h⟩
  unfold loopU
  simp only [hx, dite_true]
  have h2 := hx.choose_spec
  by_cases le : n ≤ hx.choose
  · exact loopW_le h le
  · exact (loopW_le h2 (by omega)).symm
/-- one turn of a while -/
theorem loopU_eq (c : En → Res D) (f : En → FRes) (e : En) : loopU c f e = (c e).st fun x e1 => (match x with
    | .bl true => (f e1).bind (loopU c f)
    | .bl false => .next e1
    | _ => .stuck) := by
  by_cases h : ∃ n, loopW c f n e ≠ .stuck
  · obtain ⟨n, h⟩ := h
    rw [loopU_of h]
    cases n with
    | zero => exact absurd rfl h
    | succ n =>
      rw [loopW] at h ⊢
      cases q : c e with
      | ok x e1 =>
        rw [q] at h
        simp only [Res.st] at h ⊢
        cases x with
        | bl b =>
          cases b with
          | true =>
            simp only at h ⊢
            cases q2 : f e1 with
            | next e2 =>
              rw [q2] at h
              exact (loopU_of (n := n) (e := e2) h).symm
            | ret o e2 => rfl
            | exc c d e2 => rfl
            | stuck => rfl
          | false => rfl
        | _ => rfl
      | exc => rfl
      | stuck => rfl
  · have hl : loopU c f e = .stuck := by unfold loopU; simp only [h, dite_false]
    rw [hl]
    have all : ∀ n, loopW c f n e = .stuck := fun n => Classical.byContradiction fun z => h ⟨n, z⟩
    cases q : c e with
    | ok x e1 =>
      simp only [Res.st]
      cases x with
      | bl b =>
        cases b with
        | true =>
          simp only
          cases q2 : f e1 with
          | next e2 =>
            show _ = loopU c f e2
            have : ¬ ∃ n, loopW c f n e2 ≠ .stuck := fun ⟨n, hn⟩ => by
              have := all (n + 1)
              rw [loopW, q] at this
              simp only [Res.st, q2] at this
              exact hn this
            unfold loopU; simp only [this, dite_false]
          | ret o e2 => have := all 1; rw [loopW, q] at this; simp only [Res.st, q2] at this; cases this
          | exc c d e2 => have := all 1; rw [loopW, q] at this; simp only [Res.st, q2] at this; cases this
          | stuck => rfl
        | false => have := all 1; rw [loopW, q] at this; simp only [Res.st] at this; cases this
      | _ => rfl
    | exc c' d' e' => have := all 1; rw [loopW, q] at this; simp only [Res.st] at this; cases this
    | stuck => rfl
end TL

set_option maxRecDepth 100000
namespace TL
open PySem PySem.Spec PyProof.Rows L2
/-! ### what stands for a tree -/
/-- an error of the class at C, its own dict at dd -/
def excHO (C dd a : Addr) : HO := .ext fun h => ∃ (oe : Obj) (vs : Array Value), h.get? a = some oe ∧ Zc (.ref C) (some dd) oe ∧ oe.data = .fields vs
section
variable (K : PySem.W.Frag) (fa ca : Nat → Addr)
mutual
def repD (H : Hp) : D → V → Prop
  | .non => fun v => v = .non
  | .bl b => fun v => v = .bl b
  | .int i => fun v => v = .int i
  | .str s => fun v => v = .str s
  | .lst xs => fun v => ∃ a vs, v = .ref a ∧ H a = some (.lst vs) ∧ xs.length ≤ sizeLine ∧ repDs H xs vs
  | .tup xs => fun v => ∃ a vs, v = .ref a ∧ SqT K H a vs ∧ xs.length ≤ sizeLine ∧ repDs H xs vs
  | .dic => fun v => ∃ a, v = .ref a ∧ H a = some (.dK [])
  | .fn k => fun v => v = .ref (fa k)
  | .exc c d => fun v => ∃ a dd w, v = .ref a ∧ H a = some (excHO (ca c) dd a) ∧ H dd = some (.xd [("value", w)]) ∧ repD H d w
  | .scr ns => fun v => ∃ a, v = .ref a ∧ SqL K H a (ns.map V.int) ∧ ns.length ≤ sizeLine
def repDs (H : Hp) : List D → List V → Prop
  | [] => fun vs => vs = []
  | x :: xs => fun vs => ∃ v r, vs = v :: r ∧ repD H x v ∧ repDs H xs r
end
mutual
/-- .. for what is owned: Hf what is read alone, F the places of the owned lists -/
def repO (Hf H : Hp) : O → V → List Addr → Prop
  | .frz d => fun v F => F = [] ∧ repD K fa ca Hf d v
  | .lst xs => fun v F => ∃ a vs F', v = .ref a ∧ H a = some (.lst vs) ∧ F = a :: F' ∧ xs.length ≤ sizeLine ∧ repOs Hf H xs vs F'
  | .tup xs => fun v F => ∃ a vs, v = .ref a ∧ SqT K Hf a vs ∧ xs.length ≤ sizeLine ∧ repOs Hf H xs vs F
def repOs (Hf H : Hp) : List O → List V → List Addr → Prop
  | [] => fun vs F => vs = [] ∧ F = []
  | x :: xs => fun vs F => ∃ v r F1 F2, vs = v :: r ∧ F = F1 ++ F2 ∧ repO Hf H x v F1 ∧ repOs Hf H xs r F2
end
/-- the names -/
def relE (Hf H : Hp) : En → L2.St → List Addr → Prop
  | [], [], F => F = []
  | none :: e, _ :: σ, F => relE Hf H e σ F
  | some o :: e, x :: σ, F => ∃ v F1 F2, x = some v ∧ F = F1 ++ F2 ∧ repO K fa ca Hf H o v F1 ∧ relE Hf H e σ F2
  | _, _, _ => False
end
end TL

set_option maxRecDepth 100000
namespace TL
open PySem PySem.Spec PyProof.Rows L2
section
variable {K : PySem.W.Frag} {fa ca : Nat → Addr} {Hf Hf' H H' : Hp} {σ : L2.St}
theorem seqT {a : Addr} {xs : List V} (e : Same H H') (h : SqT K H a xs) : SqT K H' a xs := by
  rcases h with (h | ⟨o, h⟩) | h
  · exact .inl (.inl (e _ _ h))
  · exact .inl (.inr ⟨o, e _ _ h⟩)
  · exact .inr h
mutual
theorem repD_mono (e : Same H H') : ∀ {d : D} {v : V}, repD K fa ca H d v → repD K fa ca H' d v
  | .non, _, h => h
  | .bl _, _, h => h
  | .int _, _, h => h
  | .str _, _, h => h
  | .lst xs, _, ⟨a, vs, h1, h2, h3, h4⟩ => ⟨a, vs, h1, e _ _ h2, h3, repDs_mono e h4⟩
  | .tup xs, _, ⟨a, vs, h1, h2, h3, h4⟩ => ⟨a, vs, h1, seqT e h2, h3, repDs_mono e h4⟩
  | .dic, _, ⟨a, h1, h2⟩ => ⟨a, h1, e _ _ h2⟩
  | .fn _, _, h => h
  | .exc c d, _, ⟨a, dd, w, h1, h2, h3, h4⟩ => ⟨a, dd, w, h1, e _ _ h2, e _ _ h3, repD_mono e h4⟩
  | .scr ns, _, ⟨a, h1, h2, h3⟩ => ⟨a, h1, e.seq h2, h3⟩
theorem repDs_mono (e : Same H H') : ∀ {ds : List D} {vs : List V}, repDs K fa ca H ds vs → repDs K fa ca H' ds vs
  | [], _, h => h
  | _ :: _, _, ⟨v, r, h1, h2, h3⟩ => ⟨v, r, h1, repD_mono e h2, repDs_mono e h3⟩
end
mutual
theorem repO_frame (e : Same Hf Hf') : ∀ {o : O} {v : V} {F : List Addr}, (∀ a ∈ F, H' a = H a) → repO K fa ca Hf H o v F → repO K fa ca Hf' H' o v F
  | .frz d, _, _, _, ⟨h1, h2⟩ => ⟨h1, repD_mono e h2⟩
  | .lst xs, _, _, k, ⟨a, vs, F', h1, h2, h3, h4, h5⟩ => by
    subst h3
    exact ⟨a, vs, F', h1, (k a (List.mem_cons_self ..)).trans h2, rfl, h4, repOs_frame e (fun b hb => k b (List.mem_cons_of_mem _ hb)) h5⟩
  | .tup xs, _, _, k, ⟨a, vs, h1, h2, h3, h4⟩ => ⟨a, vs, h1, seqT e h2, h3, repOs_frame e k h4⟩
theorem repOs_frame (e : Same Hf Hf') : ∀ {os : List O} {vs : List V} {F : List Addr}, (∀ a ∈ F, H' a = H a) → repOs K fa ca Hf H os vs F → repOs K fa ca Hf' H' os vs F
  | [], _, _, _, h => h
  | _ :: _, _, _, k, ⟨v, r, F1, F2, h1, h2, h3, h4⟩ => by
    subst h2
    exact ⟨v, r, F1, F2, h1, rfl, repO_frame e (fun b hb => k b (List.mem_append_left _ hb)) h3, repOs_frame e (fun b hb => k b (List.mem_append_right _ hb)) h4⟩
end
mutual
theorem repO_mem : ∀ {o : O} {v : V} {F : List Addr}, repO K fa ca Hf H o v F → ∀ a ∈ F, ∃ vs, H a = some (.lst vs)
  | .frz d, _, _, ⟨h1, h2⟩, a, ha => by subst h1; exact absurd ha (by simp)
  | .lst xs, _, _, ⟨b, vs, F', h1, h2, h3, h4, h5⟩, a, ha => by
    subst h3
    rcases List.mem_cons.mp ha with rfl | ha
    · exact ⟨vs, h2⟩
    · exact repOs_mem h5 a ha
  | .tup xs, _, _, ⟨b, vs, h1, h2, h3, h4⟩, a, ha => repOs_mem h4 a ha
theorem repOs_mem : ∀ {os : List O} {vs : List V} {F : List Addr}, repOs K fa ca Hf H os vs F → ∀ a ∈ F, ∃ vs, H a = some (.lst vs)
  | [], _, _, ⟨_, h⟩, a, ha => by subst h; exact absurd ha (by simp)
  | _ :: _, _, _, ⟨v, r, F1, F2, h1, h2, h3, h4⟩, a, ha => by
    subst h2
    rcases List.mem_append.mp ha with ha | ha
    · exact repO_mem h3 a ha
    · exact repOs_mem h4 a ha
end
mutual
theorem repO_freeze (e : Same Hf Hf') : ∀ {o : O} {v : V} {F : List Addr}, (∀ a ∈ F, Hf' a = H a) → repO K fa ca Hf H o v F → repD K fa ca Hf' o.toD v
  | .frz d, _, _, _, ⟨h1, h2⟩ => repD_mono e h2
  | .lst xs, _, _, k, ⟨a, vs, F', h1, h2, h3, h4, h5⟩ => by
    subst h3
    refine ⟨a, vs, h1, (k a (List.mem_cons_self ..)).trans h2, ?_, repOs_freeze e (fun b hb => k b (List.mem_cons_of_mem _ hb)) h5⟩
    rw [toDs_len]
    exact h4
  | .tup xs, _, _, k, ⟨a, vs, h1, h2, h3, h4⟩ => ⟨a, vs, h1, seqT e h2, by rw [toDs_len]; exact h3, repOs_freeze e k h4⟩
theorem repOs_freeze (e : Same Hf Hf') : ∀ {os : List O} {vs : List V} {F : List Addr}, (∀ a ∈ F, Hf' a = H a) → repOs K fa ca Hf H os vs F → repDs K fa ca Hf' (O.toDs os) vs
  | [], _, _, _, h => h.1
  | _ :: _, _, _, k, ⟨v, r, F1, F2, h1, h2, h3, h4⟩ => by
    subst h2
    exact ⟨v, r, h1, repO_freeze e (fun b hb => k b (List.mem_append_left _ hb)) h3, repOs_freeze e (fun b hb => k b (List.mem_append_right _ hb)) h4⟩
theorem toDs_len : ∀ os : List O, (O.toDs os).length = os.length
  | [] => rfl
  | _ :: r => congrArg (· + 1) (toDs_len r)
end
theorem repO_view (e : Same Hf H) {o : O} {v : V} {F : List Addr} (h : repO K fa ca Hf H o v F) : repD K fa ca H o.toD v := repO_freeze e (fun _ _ => rfl) h
theorem repDs_len : ∀ {ds : List D} {vs : List V}, repDs K fa ca H ds vs → ds.length = vs.length
  | [], _, h => by cases h; rfl
  | _ :: _, _, ⟨v, r, h1, h2, h3⟩ => by subst h1; exact congrArg (· + 1) (repDs_len h3)
theorem repOs_len : ∀ {os : List O} {vs : List V} {F : List Addr}, repOs K fa ca Hf H os vs F → os.length = vs.length
  | [], _, _, h => by cases h.1; rfl
  | _ :: _, _, _, ⟨v, r, F1, F2, h1, h2, h3, h4⟩ => by subst h1; exact congrArg (· + 1) (repOs_len h4)
theorem repDs_get : ∀ {ds : List D} {vs : List V}, repDs K fa ca H ds vs → ∀ {i : Nat} {d : D}, ds[i]? = some d → ∃ v, vs[i]? = some v ∧ repD K fa ca H d v
  | [], _, h, i, d, e => by simp at e
  | x :: xs, _, ⟨v, r, h1, h2, h3⟩, i, d, e => by
    subst h1
    cases i with
    | zero => simp at e; subst e; exact ⟨v, rfl, h2⟩
    | succ i => simpa using repDs_get h3 (i := i) (by simpa using e)
theorem repDs_get' : ∀ {ds : List D} {vs : List V}, repDs K fa ca H ds vs → ∀ {i : Nat} {v : V}, vs[i]? = some v → ∃ d, ds[i]? = some d ∧ repD K fa ca H d v
  | [], _, h, i, d, e => by cases h; simp at e
  | x :: xs, _, ⟨v, r, h1, h2, h3⟩, i, d, e => by
    subst h1
    cases i with
    | zero => simp at e; subst e; exact ⟨x, rfl, h2⟩
    | succ i => simpa using repDs_get' h3 (i := i) (by simpa using e)
theorem repDs_append : ∀ {ds es : List D} {vs ws : List V}, repDs K fa ca H ds vs → repDs K fa ca H es ws → repDs K fa ca H (ds ++ es) (vs ++ ws)
  | [], _, _, _, h, h' => by cases h; exact h'
  | _ :: _, _, _, _, ⟨v, r, h1, h2, h3⟩, h' => by subst h1; exact ⟨v, r ++ _, rfl, h2, repDs_append h3 h'⟩
theorem repDs_take : ∀ {ds : List D} {vs : List V} (n : Nat), repDs K fa ca H ds vs → repDs K fa ca H (ds.take n) (vs.take n)
  | _, _, 0, _ => rfl
  | [], _, n + 1, h => by cases h; rfl
  | _ :: _, _, n + 1, ⟨v, r, h1, h2, h3⟩ => by subst h1; exact ⟨v, r.take n, rfl, h2, repDs_take n h3⟩
theorem repDs_drop : ∀ {ds : List D} {vs : List V} (n : Nat), repDs K fa ca H ds vs → repDs K fa ca H (ds.drop n) (vs.drop n)
  | _, _, 0, h => h
  | [], _, n + 1, h => by cases h; rfl
  | _ :: _, _, n + 1, ⟨v, r, h1, h2, h3⟩ => by subst h1; exact repDs_drop n h3
theorem repDs_rep {ds : List D} {vs : List V} (h : repDs K fa ca H ds vs) : ∀ k : Nat, repDs K fa ca H (List.replicate k ds).flatten (List.replicate k vs).flatten
  | 0 => rfl
  | k + 1 => by simp only [List.replicate_succ, List.flatten_cons]; exact repDs_append h (repDs_rep h k)
/-- frozen items: nothing is owned -/
theorem allFrz_rep : ∀ {os : List O} {ds : List D} {vs : List V} {F : List Addr}, allFrz os = some ds → repOs K fa ca Hf H os vs F → F = [] ∧ repDs K fa ca Hf ds vs
  | [], ds, _, _, e, h => by
    have : ds = [] := by simpa [allFrz] using e.symm
    subst this; exact ⟨h.2, h.1⟩
  | .frz d :: r, ds, _, _, e, ⟨v, rr, F1, F2, h1, h2, h3, h4⟩ => by
    simp only [allFrz, Option.map_eq_some_iff] at e
    obtain ⟨es, e1, e2⟩ := e
    subst e2 h1 h2
    obtain ⟨q1, q2⟩ := allFrz_rep e1 h4
    exact ⟨by rw [h3.1, q1]; rfl, v, rr, rfl, h3.2, q2⟩
  | .lst _ :: r, ds, _, _, e, _ => by simp [allFrz] at e
  | .tup _ :: r, ds, _, _, e, _ => by simp [allFrz] at e
theorem allFrz_map (ds : List D) : allFrz (ds.map O.frz) = some ds := by
  induction ds with
  | nil => rfl
  | cons d ds ih => simp [allFrz, ih]
theorem repOs_frz : ∀ {ds : List D} {vs : List V}, repDs K fa ca Hf ds vs → repOs K fa ca Hf H (ds.map O.frz) vs []
  | [], _, h => ⟨h, rfl⟩
  | _ :: _, _, ⟨v, r, h1, h2, h3⟩ => ⟨v, r, [], [], h1, rfl, ⟨rfl, h2⟩, repOs_frz h3⟩
/-! ### places -/
theorem repOs_at : ∀ {os : List O} {vs : List V} {F : List Addr}, repOs K fa ca Hf H os vs F → ∀ {j : Nat} {o : O}, os[j]? = some o → ∃ v Fl F1 Fr, vs[j]? = some v ∧ F = Fl ++ (F1 ++ Fr) ∧ repO K fa ca Hf H o v F1 ∧
    ∀ {o' : O} {v' : V} {F1' : List Addr} {Hf' H' : Hp}, Same Hf Hf' → (∀ a ∈ Fl ++ Fr, H' a = H a) → repO K fa ca Hf' H' o' v' F1' → repOs K fa ca Hf' H' (os.set j o') (vs.set j v') (Fl ++ (F1' ++ Fr))
  | [], _, _, _, j, o, e => by simp at e
  | x :: xs, _, _, ⟨v, r, F1, F2, h1, h2, h3, h4⟩, 0, o, e => by
    subst h1 h2
    simp at e; subst e
    refine ⟨v, [], F1, F2, rfl, rfl, h3, fun {o' v' F1' Hf' H'} sm k ho => ?_⟩
    exact ⟨v', r, F1', F2, rfl, rfl, ho, repOs_frame sm (fun a ha => k a (by simpa using ha)) h4⟩
  | x :: xs, _, _, ⟨v, r, F1, F2, h1, h2, h3, h4⟩, j + 1, o, e => by
    subst h1 h2
    obtain ⟨w, Fl, G1, Fr, e1, e2, e3, e4⟩ := repOs_at h4 (j := j) (o := o) (by simpa using e)
    subst e2
    refine ⟨w, F1 ++ Fl, G1, Fr, by simpa using e1, by simp, e3, fun {o' v' F1' Hf' H'} sm k ho => ?_⟩
    refine ⟨v, r.set j v', F1, Fl ++ (F1' ++ Fr), rfl, by simp, repO_frame sm (fun a ha => k a (by simp [ha])) h3, e4 sm (fun a ha => k a ?_) ho⟩
    rcases List.mem_append.mp ha with z | z <;> simp [z]
theorem relE_len : ∀ {e : En} {σ : L2.St} {F : List Addr}, relE K fa ca Hf H e σ F → e.length = σ.length
  | [], [], _, _ => rfl
  | none :: e, _ :: σ, _, h => congrArg (· + 1) (relE_len (e := e) h)
  | some o :: e, x :: σ, _, ⟨v, F1, F2, h1, h2, h3, h4⟩ => congrArg (· + 1) (relE_len (e := e) h4)
  | [], _ :: _, _, h => h.elim
  | none :: _, [], _, h => h.elim
  | some _ :: _, [], _, h => h.elim
theorem relE_frame (sm : Same Hf Hf') : ∀ {e : En} {σ : L2.St} {F : List Addr}, (∀ a ∈ F, H' a = H a) → relE K fa ca Hf H e σ F → relE K fa ca Hf' H' e σ F
  | [], [], _, _, h => h
  | none :: e, _ :: σ, _, k, h => relE_frame (e := e) (σ := σ) sm k h
  | some o :: e, x :: σ, _, k, ⟨v, F1, F2, h1, h2, h3, h4⟩ => by
    subst h2
    exact ⟨v, F1, F2, h1, rfl, repO_frame sm (fun a ha => k a (List.mem_append_left _ ha)) h3, relE_frame (e := e) (σ := σ) sm (fun a ha => k a (List.mem_append_right _ ha)) h4⟩
  | [], _ :: _, _, _, h => h.elim
  | none :: _, [], _, _, h => h.elim
  | some _ :: _, [], _, _, h => h.elim
theorem relE_mem : ∀ {e : En} {σ : L2.St} {F : List Addr}, relE K fa ca Hf H e σ F → ∀ a ∈ F, ∃ vs, H a = some (.lst vs)
  | [], [], _, h, a, ha => by cases h; exact absurd ha (by simp)
  | none :: e, _ :: σ, _, h, a, ha => relE_mem (e := e) (σ := σ) h a ha
  | some o :: e, x :: σ, _, ⟨v, F1, F2, h1, h2, h3, h4⟩, a, ha => by
    subst h2
    rcases List.mem_append.mp ha with ha | ha
    · exact repO_mem h3 a ha
    · exact relE_mem (e := e) (σ := σ) h4 a ha
  | [], _ :: _, _, h, _, _ => h.elim
  | none :: _, [], _, h, _, _ => h.elim
  | some _ :: _, [], _, h, _, _ => h.elim
/-- a name's thing, and what may stand in its place -/
theorem relE_at : ∀ {e : En} {σ : L2.St} {F : List Addr}, relE K fa ca Hf H e σ F → ∀ {k : Nat} {o : O}, e.at k = some o → ∃ v Fl F1 Fr, σ[k]? = some (some v) ∧ F = Fl ++ (F1 ++ Fr) ∧ repO K fa ca Hf H o v F1 ∧
    ∀ {Hf' H' : Hp}, Same Hf Hf' → (∀ a ∈ Fl ++ Fr, H' a = H a) → (∀ {o' : O} {v' : V} {F1' : List Addr}, repO K fa ca Hf' H' o' v' F1' → relE K fa ca Hf' H' (e.put k o') (σ.set k (some v')) (Fl ++ (F1' ++ Fr))) ∧
      relE K fa ca Hf' H' (e.set k none) σ (Fl ++ Fr)
  | [], [], _, _, k, o, e => by simp [En.at] at e
  | none :: e, x :: σ, _, h, 0, o, q => by simp [En.at] at q
  | none :: e, x :: σ, _, h, k + 1, o, q => by
    obtain ⟨v, Fl, F1, Fr, e1, e2, e3, e4⟩ := relE_at (e := e) (σ := σ) h (k := k) (o := o) (by simpa [En.at] using q)
    exact ⟨v, Fl, F1, Fr, by simpa using e1, e2, e3, fun sm k' => ⟨fun ho => (e4 sm k').1 ho, (e4 sm k').2⟩⟩
  | some o0 :: e, x :: σ, _, ⟨v, F1, F2, h1, h2, h3, h4⟩, 0, o, q => by
    subst h2 h1
    have : o0 = o := by simpa [En.at] using q
    subst this
    refine ⟨v, [], F1, F2, rfl, rfl, h3, fun sm k' => ⟨fun {o' v' F1'} ho => ⟨v', F1', F2, rfl, rfl, ho, relE_frame sm (fun a ha => k' a (by simpa using ha)) h4⟩, ?_⟩⟩
    exact relE_frame (e := e) sm (fun a ha => k' a (by simpa using ha)) h4
  | some o0 :: e, x :: σ, _, ⟨v, F1, F2, h1, h2, h3, h4⟩, k + 1, o, q => by
    subst h2 h1
    obtain ⟨w, Fl, G1, Fr, e1, e2, e3, e4⟩ := relE_at (e := e) (σ := σ) h4 (k := k) (o := o) (by simpa [En.at] using q)
    subst e2
    refine ⟨w, F1 ++ Fl, G1, Fr, by simpa using e1, by simp, e3, fun {Hf' H'} sm k' => ?_⟩
    have k2 : ∀ a ∈ Fl ++ Fr, H' a = H a := fun a ha => k' a (by rcases List.mem_append.mp ha with z | z <;> simp [z])
    have f1 := repO_frame sm (fun a ha => k' a (by simp [ha])) h3
    refine ⟨fun {o' v' F1'} ho => ⟨v, F1, Fl ++ (F1' ++ Fr), rfl, by simp, f1, (e4 sm k2).1 ho⟩, ?_⟩
    exact ⟨v, F1, Fl ++ Fr, rfl, by simp, f1, (e4 sm k2).2⟩
  | [], _ :: _, _, h, _, _, _ => h.elim
  | none :: _, [], _, h, _, _, _ => h.elim
  | some _ :: _, [], _, h, _, _, _ => h.elim
/-- a name is stored: what stood there is dropped -/
theorem relE_put : ∀ {e : En} {σ : L2.St} {F : List Addr}, relE K fa ca Hf H e σ F → ∀ {k : Nat}, k < e.length → ∃ Fl Fx Fr, F = Fl ++ (Fx ++ Fr) ∧
    ∀ {Hf' H' : Hp}, Same Hf Hf' → (∀ a ∈ Fl ++ Fr, H' a = H a) → (∀ {o' : O} {v' : V} {F1' : List Addr}, repO K fa ca Hf' H' o' v' F1' → relE K fa ca Hf' H' (e.put k o') (σ.set k (some v')) (Fl ++ (F1' ++ Fr))) ∧
      (∀ x : Option V, relE K fa ca Hf' H' (e.set k none) (σ.set k x) (Fl ++ Fr))
  | [], [], _, _, k, q => by simp at q
  | none :: e, x :: σ, F, h, 0, q => ⟨[], [], F, rfl, fun sm k' => ⟨fun {o' v' F1'} ho => ⟨v', F1', F, rfl, rfl, ho, relE_frame (e := e) sm (fun a ha => k' a (by simpa using ha)) h⟩, fun _ => relE_frame (e := e) sm (fun a ha => k' a (by simpa using ha)) h⟩⟩
  | none :: e, x :: σ, _, h, k + 1, q => by
    obtain ⟨Fl, F1, Fr, e2, e4⟩ := relE_put (e := e) (σ := σ) h (k := k) (by simpa using q)
    exact ⟨Fl, F1, Fr, e2, fun sm k' => ⟨fun ho => (e4 sm k').1 ho, fun x => (e4 sm k').2 x⟩⟩
  | some o0 :: e, x :: σ, _, ⟨v, F1, F2, h1, h2, h3, h4⟩, 0, q => by
    subst h2 h1
    refine ⟨[], F1, F2, rfl, fun sm k' => ⟨fun {o' v' F1'} ho => ⟨v', F1', F2, rfl, rfl, ho, relE_frame sm (fun a ha => k' a (by simpa using ha)) h4⟩, fun _ => ?_⟩⟩
    exact relE_frame (e := e) sm (fun a ha => k' a (by simpa using ha)) h4
  | some o0 :: e, x :: σ, _, ⟨v, F1, F2, h1, h2, h3, h4⟩, k + 1, q => by
    subst h2 h1
    obtain ⟨Fl, G1, Fr, e2, e4⟩ := relE_put (e := e) (σ := σ) h4 (k := k) (by simpa using q)
    subst e2
    refine ⟨F1 ++ Fl, G1, Fr, by simp, fun {Hf' H'} sm k' => ?_⟩
    have k2 : ∀ a ∈ Fl ++ Fr, H' a = H a := fun a ha => k' a (by rcases List.mem_append.mp ha with z | z <;> simp [z])
    have f1 := repO_frame sm (fun a ha => k' a (by simp [ha])) h3
    refine ⟨fun {o' v' F1'} ho => ⟨v, F1, Fl ++ (F1' ++ Fr), rfl, by simp, f1, (e4 sm k2).1 ho⟩, fun x => ?_⟩
    exact ⟨v, F1, Fl ++ Fr, rfl, by simp, f1, (e4 sm k2).2 x⟩
  | [], _ :: _, _, h, _, _ => h.elim
  | none :: _, [], _, h, _, _ => h.elim
  | some _ :: _, [], _, h, _, _ => h.elim
end
end TL

set_option maxRecDepth 100000
namespace TL
open PySem PySem.Spec PyProof.Rows L2
section
variable (K : PySem.W.Frag) (fa ca : Nat → Addr)
/-- the state: what is frozen, the names, what they own -/
structure Stt (Hf H : Hp) (σ : L2.St) (e : En) (F : List Addr) : Prop where
  sub : Same Hf H
  rel : relE K fa ca Hf H e σ F
  nd : F.Nodup
  dis : ∀ a ∈ F, Hf a = none
/-- from one state to a later one; F' also holds what a result owns -/
structure Ext (Hf H : Hp) (F : List Addr) (Hf' H' : Hp) (F' : List Addr) : Prop where
  fz : Same Hf Hf'
  keep : ∀ a o, H a = some o → a ∉ F → H' a = some o
  new : ∀ a, (a ∈ F' ∨ Hf' a ≠ none) → a ∈ F ∨ Hf a ≠ none ∨ H a = none
/-- an end with a result: beside the names' F' it owns Fv -/
structure Fin (Hf H : Hp) (F : List Addr) (Hf' H' : Hp) (σ : L2.St) (e : En) (F' Fv : List Addr) : Prop where
  st : Stt K fa ca Hf' H' σ e F'
  nd : (F' ++ Fv).Nodup
  dis : ∀ a ∈ Fv, Hf' a = none
  ext : Ext Hf H F Hf' H' (F' ++ Fv)
/-- what is wanted of a step that ends in r -/
def Go {α β : Type} (W : WX) (R : Hp → Hp → α → β → List Addr → Prop) (r : Res α) (Hf H : Hp) (F : List Addr) (σ : L2.St) (Q : β → Hp → Prop) : Prop := match r with
  | .ok a e' => ∀ b Hf' H' F' Fv, Fin K fa ca Hf H F Hf' H' σ e' F' Fv → R Hf' H' a b Fv → Q b H'
  | .exc c d e' => ∀ dd w Hf' H' F', Fin K fa ca Hf H F Hf' H' σ e' F' [] → Hf' dd = some (.xd [("value", w)]) → repD K fa ca Hf' d w → W (.ref (ca c)) (some dd) σ H'
  | .stuck => False
/-- a reading made of it -/
def tG {α β : Type} (W : WX) (R : Hp → Hp → α → β → List Addr → Prop) (ev : En → Res α) : L2.St → Hp → (β → Hp → Prop) → Prop := fun σ H Q =>
  ∃ Hf e F, Stt K fa ca Hf H σ e F ∧ Go K fa ca W R (ev e) Hf H F σ Q
/-- the results' readings -/
def RD (Hf H : Hp) (d : D) (v : V) (Fv : List Addr) : Prop := Fv = [] ∧ repD K fa ca Hf d v
def RDs (Hf H : Hp) (ds : List D) (vs : List V) (Fv : List Addr) : Prop := Fv = [] ∧ repDs K fa ca Hf ds vs
def RO (Hf H : Hp) (o : O) (v : V) (Fv : List Addr) : Prop := repO K fa ca Hf H o v Fv
def ROs (Hf H : Hp) (os : List O) (vs : List V) (Fv : List Addr) : Prop := repOs K fa ca Hf H os vs Fv
end
section
variable {K : PySem.W.Frag} {fa ca : Nat → Addr} {Hf H Hf1 H1 Hf2 H2 : Hp} {F F1 F2 Fv : List Addr} {σ : L2.St} {e e1 : En} {W : WX}
theorem Ext.refl (Hf H : Hp) (F : List Addr) (h : ∀ a ∈ F, Hf a = none) : Ext Hf H F Hf H F := ⟨Same.refl _, fun _ _ h _ => h, fun a h => h.elim .inl (fun z => .inr (.inl z))⟩
theorem Stt.fin (s : Stt K fa ca Hf H σ e F) : Fin K fa ca Hf H F Hf H σ e F [] := ⟨s, by simpa using s.nd, by simp, by simpa using Ext.refl Hf H F s.dis⟩
/-- what stood and was not the names' own stays -/
theorem Fin.trans {F1 Fv1 : List Addr} {F2 Fv2 : List Addr} {σ' : L2.St} (a : Fin K fa ca Hf H F Hf1 H1 σ e F1 Fv1) (b : Ext Hf1 H1 F1 Hf2 H2 F2) : Ext Hf H F Hf2 H2 F2 := by
  refine ⟨a.ext.fz.trans b.fz, fun p o h n => ?_, fun p h => ?_⟩
  · refine b.keep p o (a.ext.keep p o h n) fun hp => ?_
    rcases a.ext.new p (.inl (List.mem_append_left _ hp)) with z | z | z
    · exact n z
    · obtain ⟨o', ho⟩ := Option.ne_none_iff_exists'.mp z
      have := a.ext.fz _ _ ho
      rw [a.st.dis p hp] at this
      cases this
    · rw [h] at z; cases z
  · rcases b.new p h with z | z | z
    · exact a.ext.new p (.inl (List.mem_append_left _ z))
    · exact a.ext.new p (.inr z)
    · by_cases hF : p ∈ F
      · exact .inl hF
      · refine .inr (.inr ?_)
        cases q : H p with
        | none => rfl
        | some o =>
          have := a.ext.keep p o q hF
          rw [z] at this; cases this
/-- what is held meanwhile -/
theorem Fin.hold {Fv1 : List Addr} (a : Fin K fa ca Hf H F Hf1 H1 σ e F1 Fv1) (b : Ext Hf1 H1 F1 Hf2 H2 F2) (own : ∀ p ∈ Fv1, ∃ o, H1 p = some o) : (∀ p ∈ Fv1, H2 p = H1 p) ∧ (∀ p ∈ Fv1, Hf2 p = none) ∧ ∀ p ∈ Fv1, p ∉ F2 := by
  have nd := List.nodup_append.mp a.nd
  have nF : ∀ p ∈ Fv1, p ∉ F1 := fun p hp hq => nd.2.2 p hq p hp rfl
  have no : ∀ p ∈ Fv1, ¬ (p ∈ F2 ∨ Hf2 p ≠ none) := fun p hp z => by
    rcases b.new p z with z | z | z
    · exact nF p hp z
    · exact z (a.dis p hp)
    · obtain ⟨o, ho⟩ := own p hp
      rw [ho] at z; cases z
  refine ⟨fun p hp => ?_, fun p hp => ?_, fun p hp z => no p hp (.inl z)⟩
  · obtain ⟨o, ho⟩ := own p hp
    rw [ho]
    exact b.keep p o ho (nF p hp)
  · cases q : Hf2 p with
    | none => rfl
    | some o => exact (no p hp (.inr (by rw [q]; simp))).elim
theorem Go.mono {α β : Type} {R : Hp → Hp → α → β → List Addr → Prop} {r : Res α} {Q Q' : β → Hp → Prop} (h : Go K fa ca W R r Hf H F σ Q) (k : ∀ b H, Q b H → Q' b H) : Go K fa ca W R r Hf H F σ Q' := by
  cases r with
  | ok a e => exact fun b Hf' H' F' Fv f r => k _ _ (h b Hf' H' F' Fv f r)
  | exc c d e => exact h
  | stuck => exact h
/-- one step behind another -/
theorem Go.bind {α β γ δ : Type} {R1 : Hp → Hp → α → γ → List Addr → Prop} {R : Hp → Hp → β → δ → List Addr → Prop} {r : Res α} {k : α → En → Res β} {Q : δ → Hp → Prop} (h : Go K fa ca W R (r.bind k) Hf H F σ Q) :
    Go K fa ca W R1 r Hf H F σ (fun b H1 => ∃ a e1 Hf1 F1 Fv, r = .ok a e1 ∧ Fin K fa ca Hf H F Hf1 H1 σ e1 F1 Fv ∧ R1 Hf1 H1 a b Fv ∧ Go K fa ca W R (k a e1) Hf1 H1 F1 σ Q) := by
  cases r with
  | ok a e1 =>
    intro b Hf1 H1 F1 Fv f r1
    refine ⟨a, e1, Hf1, F1, Fv, rfl, f, r1, ?_⟩
    have h : Go K fa ca W R (k a e1) Hf H F σ Q := h
    cases q : k a e1 with
    | ok a2 e2 =>
      rw [q] at h
      exact fun b2 Hf2 H2 F2 Fv2 f2 r2 => h b2 Hf2 H2 F2 Fv2 ⟨f2.st, f2.nd, f2.dis, f.trans (σ' := σ) (Fv2 := Fv2) f2.ext⟩ r2
    | exc c d e2 =>
      rw [q] at h
      exact fun dd w Hf2 H2 F2 f2 h1 h2 => h dd w Hf2 H2 F2 ⟨f2.st, f2.nd, f2.dis, f.trans (σ' := σ) (Fv2 := []) f2.ext⟩ h1 h2
    | stuck => rw [q] at h; exact h
  | exc c d e1 => exact h
  | stuck => exact h
theorem Go.opt {α β : Type} {R : Hp → Hp → α → β → List Addr → Prop} {o : Option α} {Q : β → Hp → Prop} (h : Go K fa ca W R (ofOpt o e) Hf H F σ Q) : ∃ a, o = some a ∧ ∀ b Hf' H' F' Fv, Fin K fa ca Hf H F Hf' H' σ e F' Fv → R Hf' H' a b Fv → Q b H' := by
  cases o with
  | none => exact h.elim
  | some a => exact ⟨a, rfl, h⟩
/-- a new thing at p, frozen -/
theorem Stt.new (s : Stt K fa ca Hf H σ e F) {p : Addr} {o : HO} (hp : H p = none) : Fin K fa ca Hf H F (upd Hf p o) (upd H p o) σ e F [] := by
  have nF : ∀ a ∈ F, a ≠ p := fun a ha z => by
    obtain ⟨vs, hv⟩ := relE_mem s.rel a ha
    rw [z, hp] at hv; cases hv
  have nf : Hf p = none := by
    cases q : Hf p with
    | none => rfl
    | some o => rw [s.sub _ _ q] at hp; cases hp
  have sm : Same Hf (upd Hf p o) := fun a o' h => by rw [upd_ne (ne_of_none h nf)]; exact h
  refine ⟨⟨fun a o' h => ?_, relE_frame sm (fun a ha => upd_ne (nF a ha)) s.rel, s.nd, fun a ha => by rw [upd_ne (nF a ha)]; exact s.dis a ha⟩, by simpa using s.nd, by simp, sm, fun a o' h _ => ?_, fun a h => ?_⟩
  · by_cases hb : a = p
    · subst hb; rw [upd_same] at h; rw [upd_same]; exact h
    · rw [upd_ne hb] at h; rw [upd_ne hb]; exact s.sub _ _ h
  · rw [upd_ne (ne_of_none h hp)]; exact h
  · by_cases hb : a = p
    · subst hb; exact .inr (.inr hp)
    · rcases h with h | h
      · exact .inl (by simpa using h)
      · rw [upd_ne hb] at h; exact .inr (.inl h)
/-- a new list at p that is owned, its items hold Fi -/
theorem Fin.own {Hf0 H0 : Hp} {F0 : List Addr} (s : Fin K fa ca Hf0 H0 F0 Hf H σ e F Fv) {p : Addr} {vs : List V} (hp : H p = none) (own : ∀ a ∈ Fv, ∃ o, H a = some o) : Fin K fa ca Hf0 H0 F0 Hf (upd H p (.lst vs)) σ e F (p :: Fv) := by
  have nF : ∀ a ∈ F, a ≠ p := fun a ha z => by
    obtain ⟨vs, hv⟩ := relE_mem s.st.rel a ha
    rw [z, hp] at hv; cases hv
  have nV : ∀ a ∈ Fv, a ≠ p := fun a ha z => by
    obtain ⟨vs, hv⟩ := own a ha
    rw [z, hp] at hv; cases hv
  have nf : Hf p = none := by
    cases q : Hf p with
    | none => rfl
    | some o => rw [s.st.sub _ _ q] at hp; cases hp
  have sm : Same Hf (upd H p (.lst vs)) := fun a o' h => by rw [upd_ne (ne_of_none h nf)]; exact s.st.sub _ _ h
  refine ⟨⟨sm, relE_frame (Same.refl _) (fun a ha => upd_ne (nF a ha)) s.st.rel, s.st.nd, s.st.dis⟩, ?_, fun a ha => ?_, s.ext.fz, fun a o' h n => ?_, fun a h => ?_⟩
  · have nd := List.nodup_append.mp s.nd
    refine List.nodup_append.mpr ⟨nd.1, List.nodup_cons.mpr ⟨fun z => nV p z rfl, nd.2.1⟩, fun a ha b hb => ?_⟩
    rcases List.mem_cons.mp hb with z | z
    · rw [z]; exact nF a ha
    · exact nd.2.2 a ha b z
  · rcases List.mem_cons.mp ha with z | z
    · rw [z]; exact nf
    · exact s.dis a z
  · have q := s.ext.keep a o' h n
    rw [upd_ne (ne_of_none q hp)]; exact q
  · have free : p ∈ F0 ∨ Hf0 p ≠ none ∨ H0 p = none := by
      by_cases hF : p ∈ F0
      · exact .inl hF
      · refine .inr (.inr ?_)
        cases q : H0 p with
        | none => rfl
        | some o => rw [s.ext.keep p o q hF] at hp; cases hp
    rcases h with h | h
    · rcases List.mem_append.mp h with h | h
      · exact s.ext.new a (.inl (List.mem_append_left _ h))
      · rcases List.mem_cons.mp h with z | z
        · rw [z]; exact free
        · exact s.ext.new a (.inl (List.mem_append_right _ z))
    · exact s.ext.new a (.inr h)
end
end TL

set_option maxRecDepth 100000
namespace TL
open PySem PySem.Spec PyProof.Rows L2
/-! ### the text against the program's own -/
structure GT where
  N : List Str
  fns : List (Str × List Str)
  globs : List Str
  clss : List Str
  /-- the lent parameters, which keep their values -/
  P : List Nat := []
def isVis (sc : Scope) (x : Str) : Bool := match sc.names.lookup x with
  | some .local => true | some .cell => true | some .free => true | _ => false
def isOwn (sc : Scope) (x : Str) : Bool := match sc.names.lookup x with
  | some .local => true | some .cell => true | _ => false
def isGlo (sc : Scope) (x : Str) : Bool := match sc.names.lookup x with
  | some .globalImplicit => true | _ => false
def okN (x : Str) : Bool := !(x == ("__debug__" : Str)) && !(x == ("__classdict__" : Str))
def chkV (G : GT) (sc : Scope) (k : Nat) (x : Str) : Bool := decide (G.N[k]? = some x) && isVis sc x && okN x
def chkG (sc : Scope) (x y : Str) : Bool := decide (x = y) && isGlo sc y && okN y
def notStar : Expr → Bool
  | .Starred _ _ => false
  | _ => true
def notSet : Expr → Bool
  | .Set _ _ _ => false
  | _ => true
def opOf : BOp → Operator
  | .add => .Add | .sub => .Sub | .mul => .Mult | .fdiv => .FloorDiv | .mod => .Mod | .pow => .Pow
def copOf : COp → CmpOp
  | .eq => .Eq | .ne => .NotEq | .lt => .Lt | .le => .LtE | .gt => .Gt | .ge => .GtE | .is_ => .Is | .isnot => .IsNot | .in_ => .In | .notin => .NotIn
def bltName : Blt → Str
  | .len => "len" | .abs => "abs" | .max2 => "max" | .min2 => "min" | .sum => "sum" | .sum2 => "sum" | .all => "all" | .any => "any" | .int => "int" | .bool => "bool" | .str => "str" | .ord => "ord" | .repr => "repr"
def mthName : Mth → Str
  | .count => "count" | .index => "index" | .bits => "bit_length" | .join => "join" | .split => "split"
def chkTy (G : GT) (sc : Scope) : Ty → Expr → Bool
  | .int, .Name x _ => chkG sc "int" x
  | .bool, .Name x _ => chkG sc "bool" x
  | .str, .Name x _ => chkG sc "str" x
  | .list, .Name x _ => chkG sc "list" x
  | .tuple, .Name x _ => chkG sc "tuple" x
  | .cls c, .Name x _ => decide (G.clss[c]? = some x) && isGlo sc x && okN x
  | _, _ => false
def bltTyB : Ty → Bool
  | .cls _ => false
  | _ => true
def chkTys (G : GT) (sc : Scope) : List Ty → List Expr → Bool
  | [], [] => true
  | t :: ts, e :: es => chkTy G sc t e && chkTys G sc ts es
  | _, _ => false
mutual
def chkT (G : GT) (sc : Scope) : TT → Expr → Bool
  | .n k, .Name x _ => decide (G.N[k]? = some x) && isOwn sc x
  | .t ts, .Tuple es _ _ => chkTs G sc ts es
  | _, _ => false
def chkTs (G : GT) (sc : Scope) : List TT → List Expr → Bool
  | [], [] => true
  | t :: ts, e :: es => chkT G sc t e && notStar e && chkTs G sc ts es
  | _, _ => false
end
mutual
/-- the names of a target -/
def tvars : TT → List Nat
  | .n k => [k]
  | .t ts => tvarss ts
def tvarss : List TT → List Nat
  | [] => []
  | t :: ts => tvars t ++ tvarss ts
end
def isTupE : Expr → Bool
  | .Tuple _ _ _ => true
  | _ => false
def isPlain (e : Expr) : Bool := match e with
  | .Slice _ _ none _ => false
  | _ => true
def chkIsi (G : GT) (sc : Scope) : List Ty → Expr → Bool
  | [t], .Name z p => chkTy G sc t (.Name z p) && bltTyB t
  | t :: ts, .Tuple zs _ _ => chkTys G sc (t :: ts) zs && (t :: ts).all bltTyB && decide (ts.length < 20)
  | _, _ => false
mutual
/-- what may be asked as a test -/
def isTst : TE → Bool
  | .cmp _ _ _ => true
  | .chain _ _ _ _ _ => true
  | .and_ es => isTsts es
  | .or_ es => isTsts es
  | .not_ a => isTst a
  | .var _ => true
  | .call _ _ _ => true
  | .blt _ _ => true
  | .isi _ _ => true
  | .sub _ _ => true
  | .bl _ => true
  | .bad => true
  | _ => false
def isTsts : List TE → Bool
  | [] => true
  | a :: r => isTst a && isTsts r
end
mutual
def chkE (G : GT) (sc : Scope) : TE → Expr → Bool
  | .var k, .Name x _ => chkV G sc k x
  | .int i, .Constant (.int j) _ _ => decide (i = j)
  | .str s, .Constant (.str x) _ _ => decide (s = x)
  | .bl b, .Constant (.bool c) _ _ => decide (b = c)
  | .non, .Constant .none _ _ => true
  | .glob g, .Name x _ => decide (G.globs[g]? = some x) && isGlo sc x && okN x
  | .fn f, .Name x _ => decide (G.fns[f]?.map (·.1) = some x) && isGlo sc x && okN x
  | .bin op a b, .BinOp x o y _ => decide (o = opOf op) && chkP G sc a x && chkP G sc b y
  | .neg a, .UnaryOp .USub x _ => chkE G sc a x
  | .cmp op a b, .Compare x [o] [y] _ => decide (o = copOf op) && chkP G sc a x && chkP G sc b y && notSet y
  | .chain p q a b c, .Compare x [o, o'] [y, z] _ => decide (o = copOf p) && decide (o' = copOf q) && chkP G sc a x && chkP G sc b y && chkP G sc c z && notSet y && notSet z
  | .and_ es, .BoolOp .And xs _ => chkEs G sc es xs
  | .or_ es, .BoolOp .Or xs _ => chkEs G sc es xs
  | .not_ a, .UnaryOp .Not x _ => chkE G sc a x
  | .ife t a b, .IfExp x y z _ => isTst t && chkE G sc t x && chkE G sc a y && chkE G sc b z
  | .call f as _, .Call (.Name x _) (y :: xs) [] _ => (match G.fns[f]? with
    | some (n, ps) => decide (n = x) && isGlo sc x && okN x && chkAs G sc as (y :: xs) && decide (xs.length + 1 = ps.length)
    | none => false)
  | .blt b as, .Call (.Name x _) (y :: xs) [] _ => chkG sc (bltName b) x && chkPs G sc as (y :: xs)
  | .isi a ts, .Call (.Name x _) [y, z] [] _ => chkG sc "isinstance" x && chkP G sc a y && notStar y && chkIsi G sc ts z
  | .meth .bits (.e a) [], .Call (.Attribute (.Name x px) n ap) [] [] cp => decide (n = ("bit_length" : Str)) && chkE G sc a (.Name x px) && (ap.endLine == cp.line)
  | .tup es, .Tuple xs _ _ => decide (es.length ≤ 1000) && chkLs G sc es xs
  | .sub a i, .Subscript x y _ => chkP G sc a x && chkE G sc i y && isPlain y
  | .f t, e => chkF G sc t e
  | .bad, _ => true
  | _, _ => false
def chkEs (G : GT) (sc : Scope) : List TE → List Expr → Bool
  | [], [] => true
  | a :: as, x :: xs => chkE G sc a x && notStar x && chkEs G sc as xs
  | _, _ => false
def chkP (G : GT) (sc : Scope) : TP → Expr → Bool
  | .e a, x => chkE G sc a x
  | .pk k, .Name x _ => chkV G sc k x
  | _, _ => false
def chkPs (G : GT) (sc : Scope) : List TP → List Expr → Bool
  | [], [] => true
  | a :: as, x :: xs => chkP G sc a x && notStar x && chkPs G sc as xs
  | _, _ => false
def chkA (G : GT) (sc : Scope) : TA → Expr → Bool
  | .d a, x => chkE G sc a x
  | .b k, .Name x _ => chkV G sc k x
  | _, _ => false
def chkAs (G : GT) (sc : Scope) : List TA → List Expr → Bool
  | [], [] => true
  | a :: as, x :: xs => chkA G sc a x && notStar x && chkAs G sc as xs
  | _, _ => false
def chkLs (G : GT) (sc : Scope) : List TL → List Expr → Bool
  | [], [] => true
  | .e a :: as, x :: xs => chkE G sc a x && notStar x && chkLs G sc as xs
  | _, _ => false
def chkF (G : GT) (sc : Scope) : TF → Expr → Bool
  | .lst es, .List xs _ => decide (es.length ≤ 1000) && chkLs G sc es xs
  | .comp elt tg it ifs own, .ListComp x [⟨t, i, fs, a⟩] scope _ => decide (a = 0) && chkI G sc it t i && notSet i && blkC G.N sc scope (own.map fun k => ((G.N[k]?).getD (Str.empty), k)) && chkT G scope tg t && (tvars tg).all (fun k => own.contains k) && chkEs1 G scope ifs fs && chkE G scope elt x
  | .cat a b, .BinOp x .Add y _ => chkP G sc a x && chkP G sc b y
  | .rep a n, .BinOp x .Mult y _ => chkP G sc a x && chkE G sc n y
  | .slice a lo hi, .Subscript x (.Slice l h none _) _ => chkP G sc a x && chkOpt G sc lo l && chkOpt G sc hi h
  | .list_ (.seq a), .Call (.Name x _) [y] [] _ => chkG sc "list" x && chkE G sc a y && notStar y
  | .list_ (.rng1 a), .Call (.Name x _) [.Call (.Name y _) [z] [] _] [] _ => chkG sc "list" x && chkG sc "range" y && chkE G sc a z && notStar z
  | .sorted a, .Call (.Name x _) [y] [] _ => chkG sc "sorted" x && chkP G sc a y && notStar y
  | .sumL a, .Call (.Name x _) [y, .List [] _] [] _ => chkG sc "sum" x && chkP G sc a y && notStar y
  | _, _ => false
def chkEs1 (G : GT) (sc : Scope) : List TE → List Expr → Bool
  | [], [] => true
  | [a], [x] => isTst a && chkE G sc a x
  | _, _ => false
def chkOpt (G : GT) (sc : Scope) : Option TE → Option Expr → Bool
  | none, none => true
  | some a, some x => chkE G sc a x
  | _, _ => false
def chkI (G : GT) (sc : Scope) : TI → Expr → Expr → Bool
  | .rng1 a, _, .Call (.Name y _) [z] [] _ => chkG sc "range" y && chkE G sc a z && notStar z
  | .rng2 a b, _, .Call (.Name y _) [z, w] [] _ => chkG sc "range" y && chkE G sc a z && notStar z && chkE G sc b w && notStar w
  | .enum a, t, .Call (.Name y _) [z] [] _ => isTupE t && chkG sc "enumerate" y && chkE G sc a z && notStar z
  | .zip a b false, t, .Call (.Name y _) [z, w] [] _ => isTupE t && chkG sc "zip" y && chkE G sc a z && notStar z && chkE G sc b w && notStar w
  | .zip a b true, t, .Call (.Name y _) [z, w] [⟨some n, .Constant (.bool true) _ _, _⟩] _ => isTupE t && chkG sc "zip" y && chkE G sc a z && notStar z && chkE G sc b w && notStar w && decide (n = ("strict" : Str))
  | .seq a, _, e => chkE G sc a e
  | _, _, _ => false
def chkO (G : GT) (sc : Scope) : TO → Expr → Bool
  | .e a, x => chkE G sc a x
  | .f t, x => chkF G sc t x
  | .lst es, .List xs _ => decide (es.length ≤ 1000) && chkOs G sc es xs
  | .tup es, .Tuple xs _ _ => decide (es.length ≤ 1000) && chkOs G sc es xs
  | .mv k, .Name x _ => chkV G sc k x
  | .comp elt tg it ifs own, .ListComp x [⟨t, i, fs, a⟩] scope _ => decide (a = 0) && chkI G sc it t i && notSet i && blkC G.N sc scope (own.map fun k => ((G.N[k]?).getD (Str.empty), k)) && chkT G scope tg t && (tvars tg).all (fun k => own.contains k) && chkEs1 G scope ifs fs && chkO G scope elt x
  | .call f as _, .Call (.Name x _) (y :: xs) [] _ => (match G.fns[f]? with
    | some (n, ps) => decide (n = x) && isGlo sc x && okN x && chkAs G sc as (y :: xs) && decide (xs.length + 1 = ps.length)
    | none => false)
  | .ife t a b, .IfExp x y z _ => isTst t && chkE G sc t x && chkO G sc a y && chkO G sc b z
  | _, _ => false
def chkOs (G : GT) (sc : Scope) : List TO → List Expr → Bool
  | [], [] => true
  | a :: as, x :: xs => chkO G sc a x && notStar x && chkOs G sc as xs
  | _, _ => false
end
/-! ### statements -/
def isComp : Expr → Bool
  | .ListComp _ _ _ _ => true
  | .SetComp _ _ _ _ => true
  | .DictComp _ _ _ _ _ => true
  | _ => false
def isLoc (sc : Scope) (x : Str) : Bool := match sc.names.lookup x with
  | some .local => true | _ => false
/-- a name is stored: a new list from a comprehension goes its own way -/
def okSet (sc : Scope) (x : Str) (px : Pos) : Expr → Bool
  | .ListComp _ _ scope pe => isLoc sc x && (px.line == pe.line) && !(scope.names.any fun (n, k) => n == x && (k == .local || k == .cell)) || !isLoc sc x
  | e => !isComp e
def isTupT : Expr → Bool
  | .Tuple _ _ _ => true
  | .List _ _ => true
  | _ => false
/-- the pair (triple) itself is built, then taken apart from the left -/
def okTup (sc : Scope) (es : List Expr) (e : Expr) : Bool := !isTupT e || es.any fun x => (match x with | .Name y _ => !isLoc sc y | _ => false)
def isFC : TO → Bool
  | .f _ => true
  | .comp _ _ _ _ _ => true
  | _ => false
mutual
def chkS (G : GT) (sc : Scope) : TS → Stmt → Bool
  | .asg k a, .Assign [.Name x px] e _ => !G.P.contains k && decide (G.N[k]? = some x) && isOwn sc x && chkO G sc a e && okSet sc x px e && (!isComp e || isFC a)
  | .asgT (.t ts) a, .Assign [.Tuple es k p] e _ => (tvars (.t ts)).all (fun k => !G.P.contains k) && chkT G sc (.t ts) (.Tuple es k p) && chkE G sc a e && !isComp e && okTup sc es e
  | .par [i, j] [a, b], .Assign [.Tuple [.Name x px, .Name y py] _ _] (.Tuple [u, v] _ _) _ => !G.P.contains i && !G.P.contains j && decide (G.N[i]? = some x) && decide (G.N[j]? = some y) && decide (i ≠ j) && isLoc sc x && isLoc sc y && chkO G sc a u && chkO G sc b v && notStar u && notStar v && (px.line == py.line) && !(foldedForSure 8 u && foldedForSure 8 v) && !(constantsAlone 8 u && constantsAlone 8 v)
  | .par [i, j, l] [a, b, c], .Assign [.Tuple [.Name x px, .Name y py, .Name z pz] _ _] (.Tuple [u, v, w] _ _) _ => !G.P.contains i && !G.P.contains j && !G.P.contains l && decide (G.N[i]? = some x) && decide (G.N[j]? = some y) && decide (G.N[l]? = some z) && decide (i ≠ j) && decide (i ≠ l) && decide (j ≠ l) && isLoc sc x && isLoc sc y && isLoc sc z && chkO G sc a u && chkO G sc b v && chkO G sc c w && notStar u && notStar v && notStar w && (px.line == py.line) && (px.line == pz.line) && !(foldedForSure 8 u && foldedForSure 8 v && foldedForSure 8 w) && !(constantsAlone 8 u && constantsAlone 8 v && constantsAlone 8 w)
  | .store k [] i a, .Assign [.Subscript (.Name x px) y p] e _ => decide (G.N[k]? = some x) && isVis sc x && okN x && chkE G sc i y && isPlain y && chkO G sc a e && !isComp e
  | .app k [] a, .Expr (.Call (.Attribute (.Name x px) n ap) [e] [] cp) _ => decide (G.N[k]? = some x) && isVis sc x && okN x && decide (n = ("append" : Str)) && chkO G sc a e && notStar e && (ap.endLine == cp.line)
  | .expr a, .Expr e _ => chkE G sc a e && !isComp e
  | .for_ t it body, .For tg i b [] _ => (tvars t).all (fun k => !G.P.contains k) && chkI G sc it tg i && notSet i && chkT G sc t tg && chkSs G sc body b
  | .while_ c body, .While e b [] _ => isTst c && chkE G sc c e && chkSs G sc body b
  | .if_ c a b, .If e x y _ => isTst c && chkE G sc c e && chkSs G sc a x && chkSs G sc b y
  | .ret a, .Return (some e) _ => chkO G sc a e
  | .retN, .Return none _ => true
  | .pass, .Pass _ => true
  | .bad, _ => true
  | _, _ => false
def chkSs (G : GT) (sc : Scope) : List TS → List Stmt → Bool
  | [], [] => true
  | a :: as, x :: xs => chkS G sc a x && chkSs G sc as xs
  | _, _ => false
end
end TL

set_option maxRecDepth 100000
namespace TL
open PySem PySem.Spec PyProof.Rows L2
/-! ### what a def promises -/
/-- a call: os the arguments, the outs what the lent ones are behind it -/
def spC (K : PySem.W.Frag) (fa ca : Nat → Addr) (np : Nat) (g : List O → CRes) : Sp := fun vs H Q E => vs.length = np ∧ ∃ Hf os F, Stt K fa ca Hf H (vs.map some) (os.map some) F ∧ match g os with
  | .ok o outs => ∀ v Hf' H' Fo Fv, Fin K fa ca Hf H F Hf' H' (vs.map some) outs Fo Fv → repO K fa ca Hf' H' o v Fv → Q v H'
  | .exc c d outs => ∀ dd w Hf' H' Fo, Fin K fa ca Hf H F Hf' H' (vs.map some) outs Fo [] → Hf' dd = some (.xd [("value", w)]) → repD K fa ca Hf' d w → E (.ref (ca c)) (some dd) H'
  | .stuck => False
/-! ### the surroundings -/
structure SC (sc : Scope) (X : Cx) : Prop where
  vis : ∀ x, isVis sc x = true → Vis X.env.scope x
  glo : ∀ x, isGlo sc x = true → Gl X x
  own : ∀ x, isOwn sc x = true → Loc X.env.scope x ∧ (X.fn x = true ∨ X.env.scope.names.lookup x = some .local)
  cap : ∀ x, (sc.names.lookup x = some .cell ∨ sc.names.lookup x = some .free) → X.env.scope.names.lookup x = some .cell ∨ X.env.scope.names.lookup x = some .free
  loc : ∀ x, X.env.scope.names.lookup x = some .local ↔ sc.names.lookup x = some .local
  fnk : X.env.scope.kind = .function
def bltNames : List Str := ["len", "abs", "max", "min", "sum", "all", "any", "int", "bool", "str", "ord", "repr", "isinstance", "list", "tuple", "range", "enumerate", "zip", "sorted"]
structure GX (G : GT) (C : Cfg) (fa ca : Nat → Addr) (W : WX) (X : Cx) : Prop where
  N : X.N = G.N
  nd : X.N.Nodup
  calm : X.calm = true
  room : Room 0 X.A
  lp : LoopOk C.loop
  takes : Takes X W
  blt : ∀ x ∈ bltNames, X.mg x = none
  fn : ∀ f x ps, G.fns[f]? = some (x, ps) → X.mg x = some (.ref (fa f)) ∧ PySem.W.keepIn X.K (.ref (fa f)) = true ∧
    ∃ k fd, FnOk X.prog X.w X.K X.mg X.base (L2.CX X.prog X.w) k (fa f) fd ps (spC X.K fa ca ps.length (C.call f)) ∧ Room k X.A ∧ Binds X.K fd ps []
  glob : ∀ g x, G.globs[g]? = some x → ∃ d u v, C.glob g = some d ∧ X.mg x = some u ∧ RelV v u ∧ ∀ H, repD X.K fa ca H d v
theorem _root_.L2.PE.weak {X : Cx} {e : Expr} {t t' : L2.TE} (h : PE X e t) (k : ∀ σ H Q, t' σ H Q → t σ H Q) : PE X e t' := ⟨fun pins s σ H Q I q => h.run pins s σ H Q I (k σ H Q q)⟩
theorem _root_.L2.PA.weak {X : Cx} {e : List Expr} {t t' : L2.TA} (h : PA X e t) (k : ∀ σ H Q, t' σ H Q → t σ H Q) : PA X e t' := ⟨fun pos pins s σ H Q I q => h.run pos pins s σ H Q I (k σ H Q q)⟩
theorem _root_.L2.PT.weak {X : Cx} {e : Expr} {t t' : L2.TT} (h : PT X e t) (k : ∀ σ H Q, t' σ H Q → t σ H Q) : PT X e t' := ⟨fun pins s σ H Q I q => h.run pins s σ H Q I (k σ H Q q)⟩
theorem chkG_ok {sc : Scope} {x y : Str} {X : Cx} (S : SC sc X) (h : chkG sc x y = true) : y = x ∧ Gl X x ∧ (x == ("__debug__" : Str)) = false := by
  unfold chkG okN at h
  simp only [Bool.and_eq_true, decide_eq_true_eq, Bool.not_eq_true'] at h
  obtain ⟨⟨rfl, h2⟩, h3, _⟩ := h
  exact ⟨rfl, S.glo _ h2, h3⟩
theorem okN_ok {x : Str} (h : okN x = true) : (x == ("__debug__" : Str)) = false ∧ (x == ("__classdict__" : Str)) = false := by
  unfold okN at h
  simpa using h
theorem starEach_of {e : Expr} {es : List Expr} {env : Env} (h : notStar e = true) : starEach (e :: es) env = (false, eval e env) :: starEach es env := by
  cases e <;> first | rfl | (simp [notStar] at h)
theorem plain_of {pos : Pos} {env : Env} : ∀ {es : List Expr}, (es.all notStar) = true → (backTo pos (starEach es env)).any (·.1) = false
  | [], _ => rfl
  | e :: es, h => by
    simp only [List.all_cons, Bool.and_eq_true] at h
    rw [starEach_of h.1]
    show (false || (backTo pos (starEach es env)).any (·.1)) = false
    rw [plain_of h.2]; rfl
theorem folded_of {e : Expr} {env : Env} (h : notSet e = true) (x : Value) : foldedSetIterable e env x = pure x := by
  cases e <;> first | rfl | (simp [notSet] at h)
theorem mark_of {op : CmpOp} {e : Expr} (h : notSet e = true) : behindInMarks op e = false := by
  cases e <;> first | rfl | (simp [notSet] at h)
/-! ### values' operators -/
section
variable {K : PySem.W.Frag} {fa ca : Nat → Addr} {H : Hp}
mutual
theorem dp_of : ∀ {n : Nat} {d : D} {v : V}, d.ok n = true → repD K fa ca H d v → Dp K H v d.py
  | _, .non, _, _, h => by cases h; exact .non
  | _, .bl b, _, _, h => by cases h; exact .bl b
  | _, .int i, _, _, h => by cases h; exact .int i
  | _, .str x, _, _, h => by cases h; exact .str x
  | n + 1, .lst xs, _, o, ⟨a, vs, h1, h2, h3, h4⟩ => by subst h1; exact .lst (SqL.of h2) (dps_of (n := n) (by simpa [D.ok] using o) h4)
  | n + 1, .tup xs, _, o, ⟨a, vs, h1, h2, h3, h4⟩ => by subst h1; exact .tup h2 (dps_of (n := n) (by simpa [D.ok] using o) h4)
  | 0, .lst _, _, o, _ => by simp [D.ok] at o
  | 0, .tup _, _, o, _ => by simp [D.ok] at o
  | 0, .dic, _, o, _ => by simp [D.ok] at o
  | n + 1, .dic, _, o, _ => by simp [D.ok] at o
  | 0, .fn _, _, o, _ => by simp [D.ok] at o
  | n + 1, .fn _, _, o, _ => by simp [D.ok] at o
  | 0, .exc _ _, _, o, _ => by simp [D.ok] at o
  | n + 1, .exc _ _, _, o, _ => by simp [D.ok] at o
  | 0, .scr _, _, o, _ => by simp [D.ok] at o
  | n + 1, .scr _, _, o, _ => by simp [D.ok] at o
theorem dps_of : ∀ {n : Nat} {ds : List D} {vs : List V}, D.oks n ds = true → repDs K fa ca H ds vs → DpAll K H vs (D.pys ds)
  | _, [], _, _, h => by cases h; exact .nil
  | n, x :: xs, _, o, ⟨v, r, h1, h2, h3⟩ => by
    subst h1
    have o' : x.ok n = true ∧ D.oks n xs = true := by simpa [D.oks] using o
    exact .cons (dp_of o'.1 h2) (dps_of o'.2 h3)
end
mutual
theorem lay_of : ∀ {n : Nat} {d : D}, d.ok n = true → d.py.canLay0 = true ∧ d.py.depth ≤ n
  | n, .non, _ => ⟨by simp [D.py, PyData.canLay0], by simp [D.py, PyData.depth]⟩
  | n, .bl b, _ => ⟨by simp [D.py, PyData.canLay0], by simp [D.py, PyData.depth]⟩
  | n, .int i, _ => ⟨by simp [D.py, PyData.canLay0], by simp [D.py, PyData.depth]⟩
  | n, .str x, o => ⟨by simpa [D.py, PyData.canLay0, D.ok] using o, by simp [D.py, PyData.depth]⟩
  | n + 1, .lst xs, o => by
    obtain ⟨h1, h2⟩ := lays_of (n := n) (ds := xs) (by simpa [D.ok] using o)
    exact ⟨by simpa [D.py, PyData.canLay0] using h1, by simp only [D.py, PyData.depth]; omega⟩
  | n + 1, .tup xs, o => by
    obtain ⟨h1, h2⟩ := lays_of (n := n) (ds := xs) (by simpa [D.ok] using o)
    exact ⟨by simpa [D.py, PyData.canLay0] using h1, by simp only [D.py, PyData.depth]; omega⟩
  | 0, .lst _, o => by simp [D.ok] at o
  | 0, .tup _, o => by simp [D.ok] at o
  | 0, .dic, o => by simp [D.ok] at o
  | n + 1, .dic, o => by simp [D.ok] at o
  | 0, .fn _, o => by simp [D.ok] at o
  | n + 1, .fn _, o => by simp [D.ok] at o
  | 0, .exc _ _, o => by simp [D.ok] at o
  | n + 1, .exc _ _, o => by simp [D.ok] at o
  | 0, .scr _, o => by simp [D.ok] at o
  | n + 1, .scr _, o => by simp [D.ok] at o
theorem lays_of : ∀ {n : Nat} {ds : List D}, D.oks n ds = true → PyData.canLayAll0 (D.pys ds) = true ∧ PyData.depthAll (D.pys ds) ≤ n
  | n, [], _ => ⟨by simp [D.pys, PyData.canLayAll0], by simp [D.pys, PyData.depthAll]⟩
  | n, x :: xs, o => by
    have o' : x.ok n = true ∧ D.oks n xs = true := by simpa [D.oks] using o
    obtain ⟨h1, h2⟩ := lay_of o'.1
    obtain ⟨h3, h4⟩ := lays_of o'.2
    exact ⟨by simp [D.pys, PyData.canLayAll0, h1, h3], by simp only [D.pys, PyData.depthAll]; omega⟩
end
theorem shaped_of {n : Nat} {d : D} (o : d.ok n = true) (h : n ≤ 64) : SeqAt.shaped d.py = true := by
  obtain ⟨h1, h2⟩ := lay_of o
  unfold SeqAt.shaped
  simp [h1]
  omega
mutual
theorem eq_py : ∀ {n m : Nat} (a b : D), a.ok n = true → b.ok m = true → PyData.eqv a.py b.py = D.eq a b := by
  intro n m a b ha hb
  cases a with
  | lst xs =>
    cases n with
    | zero => simp [D.ok] at ha
    | succ n =>
      cases b with
      | lst ys =>
        cases m with
        | zero => simp [D.ok] at hb
        | succ m => simpa [D.py, D.eq, PyData.eqv] using eqs_py xs ys (by simpa [D.ok] using ha) (by simpa [D.ok] using hb)
      | _ => first | (cases m <;> simp [D.ok] at hb; done) | simp [D.py, D.eq, PyData.eqv]
  | tup xs =>
    cases n with
    | zero => simp [D.ok] at ha
    | succ n =>
      cases b with
      | tup ys =>
        cases m with
        | zero => simp [D.ok] at hb
        | succ m => simpa [D.py, D.eq, PyData.eqv] using eqs_py xs ys (by simpa [D.ok] using ha) (by simpa [D.ok] using hb)
      | _ => first | (cases m <;> simp [D.ok] at hb; done) | simp [D.py, D.eq, PyData.eqv]
  | dic => cases n <;> simp [D.ok] at ha
  | fn => cases n <;> simp [D.ok] at ha
  | exc => cases n <;> simp [D.ok] at ha
  | scr => cases n <;> simp [D.ok] at ha
  | _ => cases b <;> first | (cases m <;> simp [D.ok] at hb; done) | simp [D.py, D.eq, PyData.eqv]
theorem eqs_py : ∀ {n m : Nat} (as bs : List D), D.oks n as = true → D.oks m bs = true → PyData.eqvAll (D.pys as) (D.pys bs) = D.eqs as bs
  | _, _, [], [], _, _ => by simp [D.pys, D.eqs, PyData.eqvAll]
  | _, _, [], _ :: _, _, _ => by simp [D.pys, D.eqs, PyData.eqvAll]
  | _, _, _ :: _, [], _, _ => by simp [D.pys, D.eqs, PyData.eqvAll]
  | n, m, a :: as, b :: bs, ha, hb => by
    have ha' : a.ok n = true ∧ D.oks n as = true := by simpa [D.oks] using ha
    have hb' : b.ok m = true ∧ D.oks m bs = true := by simpa [D.oks] using hb
    simp only [D.pys, D.eqs, PyData.eqvAll]
    rw [eq_py a b ha'.1 hb'.1, eqs_py as bs ha'.2 hb'.2]
end
end
end TL

set_option maxRecDepth 100000
set_option maxHeartbeats 1000000
set_option exponentiation.threshold 10000
namespace TL
open PySem PySem.Spec PyProof.Rows L2
section
variable {X : Cx} {fa ca : Nat → Addr}
theorem opR_imp {f : Value → Value → Sem Value} {r r' : R2} (h : OpR X f r) (k : ∀ x y H Q, r' x y H Q → r x y H Q) : OpR X f r' := fun pins s σ H x y v u Q I rx ry q => h pins s σ H x y v u Q I rx ry (k _ _ _ _ q)
theorem callR_imp {f : Value} {r r' : List V → Hp → VK → Prop} (h : CallR X f r) (k : ∀ xs H Q, r' xs H Q → r xs H Q) : CallR X f r' := fun pins s σ H xs us Q I rx q => h pins s σ H xs us Q I rx (k _ _ _ q)
theorem listLine_eq : listLine = sizeLine := by rw [sizeLine_eq]; rfl
theorem log_lt {n k : Nat} (h : n.log2 < k) : n < 2 ^ k := by
  by_cases hn : n = 0
  · subst hn; exact Nat.two_pow_pos k
  · exact (Nat.log2_lt hn).mp h
/-- i ** j -/
theorem op_powW : OpR X (binaryOp .Pow) (rI (fun i j => powOk i j = true) fun i j => .int (i ^ j.toNat)) := opI fun i j _ _ _ _ _ hc q => by
  simp only [powOk, Bool.and_eq_true, decide_eq_true_eq] at hc
  obtain ⟨⟨h0, h1⟩, h2⟩ := hc
  refine pow_int h0 ?_ q
  have hb : Builtin.Int.intBits i ≤ 300 := intBits_le (log_lt h2)
  have h3 : (Builtin.Int.intBits i : Int) * j ≤ 300 * j := Int.mul_le_mul_of_nonneg_right (by omega) h0
  omega
def rB (K : PySem.W.Frag) (fa ca : Nat → Addr) (op : BOp) : R2 := fun x y H Q => ∃ a b d, opB op a b = some d ∧ repD K fa ca H a x ∧ repD K fa ca H b y ∧ ∀ v, (∀ H', repD K fa ca H' d v) → Q v H
theorem opB_ok (op : BOp) : OpR X (binaryOp (opOf op)) (rB X.K fa ca op) := by
  intro pins s σ H x y v u Q I rx ry ⟨a, b, d, e, ha, hb, k⟩
  cases op with
  | add =>
    cases a <;> cases b <;> simp only [opB, reduceCtorEq] at e
    · cases ha; cases hb
      have e := Option.some.inj e; subst e
      exact op_add pins s σ H _ _ v u Q I rx ry ⟨_, _, rfl, rfl, k _ fun _ => rfl⟩
    · cases ha; cases hb
      split at e
      · have e := Option.some.inj e; subst e
        rename_i hl
        exact op_add_str pins s σ H _ _ v u Q I rx ry ⟨_, _, rfl, rfl, by rw [← listLine_eq]; exact hl, k _ fun _ => rfl⟩
      · cases e
  | sub =>
    cases a <;> cases b <;> simp only [opB, reduceCtorEq] at e
    cases ha; cases hb
    have e := Option.some.inj e; subst e
    exact op_sub pins s σ H _ _ v u Q I rx ry ⟨_, _, rfl, rfl, k _ fun _ => rfl⟩
  | mul =>
    cases a <;> cases b <;> simp only [opB, reduceCtorEq] at e
    cases ha; cases hb
    split at e
    · have e := Option.some.inj e; subst e
      rename_i hl
      exact op_mulW pins s σ H _ _ v u Q I rx ry ⟨_, _, rfl, rfl, (by simp only [mulOk, decide_eq_true_eq] at hl; exact hl), k _ fun _ => rfl⟩
    · cases e
  | fdiv =>
    cases a <;> cases b <;> simp only [opB, reduceCtorEq] at e
    cases ha; cases hb
    split at e
    · have e := Option.some.inj e; subst e
      rename_i hl
      exact op_fdivW pins s σ H _ _ v u Q I rx ry ⟨_, _, rfl, rfl, (by simp only [divOk, Bool.and_eq_true, decide_eq_true_eq] at hl; exact hl), k _ fun _ => rfl⟩
    · cases e
  | mod =>
    cases a <;> cases b <;> simp only [opB, reduceCtorEq] at e
    cases ha; cases hb
    split at e
    · have e := Option.some.inj e; subst e
      rename_i hl
      exact op_mod pins s σ H _ _ v u Q I rx ry ⟨_, _, rfl, rfl, hl, k _ fun _ => rfl⟩
    · cases e
  | pow =>
    cases a <;> cases b <;> simp only [opB, reduceCtorEq] at e
    cases ha; cases hb
    split at e
    · have e := Option.some.inj e; subst e
      rename_i hl
      exact op_powW pins s σ H _ _ v u Q I rx ry ⟨_, _, rfl, rfl, hl, k _ fun _ => rfl⟩
    · cases e
def rC (K : PySem.W.Frag) (fa ca : Nat → Addr) (op : COp) : R2 := fun x y H Q => ∃ a b d, opC op a b = some d ∧ repD K fa ca H a x ∧ repD K fa ca H b y ∧ Q (.bl d) H
theorem isNon {K : PySem.W.Frag} {H : Hp} {a : D} {x : V} (h : repD K fa ca H a x) : decide (x = V.non) = isNonD a := by
  cases a with
  | non => cases h; rfl
  | bl => cases h; rfl
  | int => cases h; rfl
  | str => cases h; rfl
  | fn => cases h; rfl
  | lst => obtain ⟨_, _, rfl, _⟩ := h; rfl
  | tup => obtain ⟨_, _, rfl, _⟩ := h; rfl
  | dic => obtain ⟨_, rfl, _⟩ := h; rfl
  | exc => obtain ⟨_, _, _, rfl, _⟩ := h; rfl
  | scr => obtain ⟨_, rfl, _⟩ := h; rfl
theorem any_py (a : D) : ∀ {xs : List D}, a.ok 50 = true → D.oks 50 xs = true → ((D.pys xs).any fun z => PyData.eqv z a.py) = xs.any fun z => D.eq z a
  | [], _, _ => rfl
  | x :: xs, h1, h2 => by
    have h2' : x.ok 50 = true ∧ D.oks 50 xs = true := by simpa [D.oks] using h2
    simp only [D.pys, List.any_cons]
    rw [eq_py x a h2'.1 h1, any_py a h1 h2'.2]
theorem opC_ok (hu : X.A.units + 65 < cLine) (op : COp) : OpR X (compareOp (copOf op)) (rC X.K fa ca op) := by
  intro pins s σ H x y v u Q I rx ry ⟨a, b, d, e, ha, hb, k⟩
  cases op with
  | eq =>
    simp only [opC] at e
    split at e
    · rename_i hk
      simp only [Bool.and_eq_true] at hk
      have e := Option.some.inj e; subst e
      rw [← eq_py a b hk.1 hk.2] at k
      exact op_eqD (by omega) pins s σ H _ _ v u Q I rx ry ⟨_, _, dp_of hk.1 ha, dp_of hk.2 hb, shaped_of hk.1 (by decide), shaped_of hk.2 (by decide), k⟩
    · cases e
  | ne =>
    simp only [opC] at e
    split at e
    · rename_i hk
      simp only [Bool.and_eq_true] at hk
      have e := Option.some.inj e; subst e
      rw [← eq_py a b hk.1 hk.2] at k
      exact op_neD (by omega) pins s σ H _ _ v u Q I rx ry ⟨_, _, dp_of hk.1 ha, dp_of hk.2 hb, shaped_of hk.1 (by decide), shaped_of hk.2 (by decide), k⟩
    · cases e
  | lt =>
    cases a <;> cases b <;> simp only [opC, reduceCtorEq] at e
    cases ha; cases hb
    have e := Option.some.inj e; subst e
    exact op_lt pins s σ H _ _ v u Q I rx ry ⟨_, _, rfl, rfl, k⟩
  | le =>
    cases a <;> cases b <;> simp only [opC, reduceCtorEq] at e
    cases ha; cases hb
    have e := Option.some.inj e; subst e
    exact op_le pins s σ H _ _ v u Q I rx ry ⟨_, _, rfl, rfl, k⟩
  | gt =>
    cases a <;> cases b <;> simp only [opC, reduceCtorEq] at e
    cases ha; cases hb
    have e := Option.some.inj e; subst e
    exact op_gt pins s σ H _ _ v u Q I rx ry ⟨_, _, rfl, rfl, k⟩
  | ge =>
    cases a <;> cases b <;> simp only [opC, reduceCtorEq] at e
    cases ha; cases hb
    have e := Option.some.inj e; subst e
    exact op_ge pins s σ H _ _ v u Q I rx ry ⟨_, _, rfl, rfl, k⟩
  | is_ =>
    cases b <;> simp only [opC, reduceCtorEq] at e
    cases hb
    have e := Option.some.inj e; subst e
    rw [← isNon ha] at k
    exact op_isN pins s σ H _ _ v u Q I rx ry ⟨rfl, k⟩
  | isnot =>
    cases b <;> simp only [opC, reduceCtorEq] at e
    cases hb
    have e := Option.some.inj e; subst e
    rw [← isNon ha] at k
    exact op_notN pins s σ H _ _ v u Q I rx ry ⟨rfl, k⟩
  | in_ =>
    cases b <;> simp only [opC, reduceCtorEq] at e
    split at e
    · rename_i xs hk
      simp only [Bool.and_eq_true] at hk
      have e := Option.some.inj e; subst e
      rw [← any_py a hk.1 hk.2] at k
      obtain ⟨p, vs, rfl, h2, h3, h4⟩ := hb
      refine op_inD hu pins s σ H _ _ v u Q I rx ry ⟨_, _, dp_of hk.1 ha, .lst (SqL.of h2) (dps_of hk.2 h4), shaped_of hk.1 (by decide), ?_, k⟩
      exact shaped_of (n := 51) (d := .lst xs) (by simpa [D.ok] using hk.2) (by decide)
    · cases e
  | notin =>
    cases b <;> simp only [opC, reduceCtorEq] at e
    split at e
    · rename_i xs hk
      simp only [Bool.and_eq_true] at hk
      have e := Option.some.inj e; subst e
      rw [← any_py a hk.1 hk.2] at k
      obtain ⟨p, vs, rfl, h2, h3, h4⟩ := hb
      refine op_notInD hu pins s σ H _ _ v u Q I rx ry ⟨_, _, dp_of hk.1 ha, .lst (SqL.of h2) (dps_of hk.2 h4), shaped_of hk.1 (by decide), ?_, k⟩
      exact shaped_of (n := 51) (d := .lst xs) (by simpa [D.ok] using hk.2) (by decide)
    · cases e
end
end TL

set_option maxRecDepth 100000
set_option maxHeartbeats 1000000
namespace TL
open PySem PySem.Spec PyProof.Rows L2
/-! ### readings -/
def RP (K : PySem.W.Frag) (fa ca : Nat → Addr) (σ : L2.St) (Hf H : Hp) (p : PV) (v : V) (Fv : List Addr) : Prop := Fv = [] ∧ match p with
  | .v d => repD K fa ca Hf d v
  | .r k => σ[k]? = some (some v)
def RPs (K : PySem.W.Frag) (fa ca : Nat → Addr) (σ : L2.St) (Hf H : Hp) : List PV → List V → List Addr → Prop
  | [], vs, Fv => vs = [] ∧ Fv = []
  | p :: ps, vs, Fv => ∃ v r, vs = v :: r ∧ RP K fa ca σ Hf H p v [] ∧ RPs K fa ca σ Hf H ps r [] ∧ Fv = []
section
variable (K : PySem.W.Frag) (fa ca : Nat → Addr) (C : Cfg) (W : WX)
def rE (t : TE) : L2.TE := tG K fa ca W (RD K fa ca) (evalE C t)
def rP (t : TP) : L2.TE := fun σ H Q => tG K fa ca W (RP K fa ca σ) (evalP C t) σ H Q
def rPs (t : List TP) : L2.TA := fun σ H Q => tG K fa ca W (RPs K fa ca σ) (evalPs C t) σ H Q
def rEs (t : List TE) : L2.TA := tG K fa ca W (RDs K fa ca) (evalEs C t)
def rLs (t : List TL) : L2.TA := tG K fa ca W (RDs K fa ca) (evalLs C t)
def rO (t : TO) : L2.TE := tG K fa ca W (RO K fa ca) (evalO C t)
def rOs (t : List TO) : L2.TA := tG K fa ca W (ROs K fa ca) (evalOs C t)
/-- a new list at the value's address, not yet told to anybody: where it will be, its items -/
def RF (Hf H : Hp) (xs : List D) (b : Addr × List V) (Fv : List Addr) : Prop := Fv = [] ∧ repDs K fa ca Hf xs b.2 ∧ xs.length ≤ sizeLine ∧ H b.1 = none
def rF (t : TF) : L2.TE := fun σ H Q => tG K fa ca W (RF K fa ca) (evalF C t) σ H fun b H' => Q (.ref b.1) (upd H' b.1 (.lst b.2))
end
section
variable {K : PySem.W.Frag} {fa ca : Nat → Addr} {C : Cfg} {W : WX} {Hf H Hf1 H1 Hf2 H2 : Hp} {F F1 F2 Fv : List Addr} {σ : L2.St} {e e1 : En}
theorem RP.get {p : PV} {v : V} {d : D} (r : RP K fa ca σ Hf1 H1 p v Fv) (sm : Same Hf1 Hf) (s : Stt K fa ca Hf H σ e F) (g : p.get e = some d) : repD K fa ca H d v := by
  obtain ⟨_, r⟩ := r
  cases p with
  | v d' =>
    have : d' = d := Option.some.inj g
    subst this
    exact repD_mono (sm.trans s.sub) r
  | r k =>
    simp only [PV.get, Option.map_eq_some_iff] at g
    obtain ⟨o, g1, g2⟩ := g
    subst g2
    obtain ⟨v', Fl, F1, Fr, e1, e2, e3, _⟩ := relE_at s.rel g1
    have r : σ[k]? = some (some v) := r
    rw [e1] at r
    have : v' = v := Option.some.inj (Option.some.inj r)
    subst this
    exact repO_view s.sub e3
theorem RPs.get : ∀ {ps : List PV} {vs : List V} {ds : List D} {Fv : List Addr}, RPs K fa ca σ Hf1 H1 ps vs Fv → Same Hf1 Hf → Stt K fa ca Hf H σ e F → getAll (fun v => PV.get v e) ps = some ds → repDs K fa ca H ds vs
  | [], _, ds, _, r, _, _, g => by
    have : ds = [] := by simpa [getAll] using g.symm
    subst this; exact r.1
  | p :: ps, _, ds, _, ⟨v, r, h1, h2, h3, _⟩, sm, s, g => by
    subst h1
    simp only [getAll, Option.bind_eq_some_iff, Option.map_eq_some_iff] at g
    obtain ⟨d, g1, ds', g2, g3⟩ := g
    subst g3
    exact ⟨v, r, rfl, h2.get sm s g1, RPs.get h3 sm s g2⟩
/-- what a name owns is given away, to be read alone -/
theorem Stt.freeze (s : Stt K fa ca Hf H σ e F) {k : Nat} {o : O} (g : e.at k = some o) : ∃ v Hf' F', σ[k]? = some (some v) ∧ Fin K fa ca Hf H F Hf' H σ (e.put k (.frz o.toD)) F' [] ∧ repD K fa ca Hf' o.toD v := by
  obtain ⟨v, Fl, F1, Fr, e1, e2, e3, e4⟩ := relE_at s.rel g
  subst e2
  have nd := s.nd
  have hF1 : ∀ a ∈ F1, Hf a = none := fun a ha => s.dis a (by simp [ha])
  let Hf' : Hp := fun a => if a ∈ F1 then H a else Hf a
  have sm : Same Hf Hf' := fun a o' h => by
    show (if a ∈ F1 then H a else Hf a) = _
    by_cases ha : a ∈ F1
    · rw [hF1 a ha] at h; cases h
    · rw [if_neg ha]; exact h
  have sub : Same Hf' H := fun a o' h => by
    have h : (if a ∈ F1 then H a else Hf a) = some o' := h
    by_cases ha : a ∈ F1
    · rw [if_pos ha] at h; exact h
    · rw [if_neg ha] at h; exact s.sub _ _ h
  have fz : repD K fa ca Hf' o.toD v := repO_freeze sm (fun a ha => if_pos ha) e3
  have nd' : (Fl ++ Fr).Nodup := by
    have h1 := List.nodup_append.mp nd
    have h2 := List.nodup_append.mp h1.2.1
    exact List.nodup_append.mpr ⟨h1.1, h2.2.1, fun a ha b hb => h1.2.2 a ha b (List.mem_append_right _ hb)⟩
  have dj : ∀ a ∈ Fl ++ Fr, a ∉ F1 := fun a ha hf => by
    have h1 := List.nodup_append.mp nd
    have h2 := List.nodup_append.mp h1.2.1
    rcases List.mem_append.mp ha with z | z
    · exact h1.2.2 a z a (List.mem_append_left _ hf) rfl
    · exact h2.2.2 a hf a z rfl
  have rel := (e4 (Hf' := Hf') (H' := H) sm (fun _ _ => rfl)).1 (o' := .frz o.toD) (v' := v) (F1' := []) ⟨rfl, fz⟩
  have eσ : σ.set k (some v) = σ := by
    obtain ⟨hk, hv⟩ := List.getElem?_eq_some_iff.mp e1
    rw [← hv]; exact List.set_getElem_self hk
  rw [eσ] at rel
  refine ⟨v, Hf', Fl ++ Fr, e1, ⟨⟨sub, rel, nd', fun a ha => ?_⟩, by simpa using nd', by simp, sm, fun a o' h _ => h, fun a h => ?_⟩, fz⟩
  · show (if a ∈ F1 then H a else Hf a) = none
    rw [if_neg (dj a ha)]
    exact s.dis a (by rcases List.mem_append.mp ha with z | z <;> simp [z])
  · rcases h with h | h
    · refine .inl ?_
      have h : a ∈ Fl ++ Fr := by simpa using h
      rcases List.mem_append.mp h with z | z <;> simp [z]
    · have h : (if a ∈ F1 then H a else Hf a) ≠ none := h
      by_cases ha : a ∈ F1
      · exact .inl (by simp [ha])
      · rw [if_neg ha] at h; exact .inr (.inl h)
end
/-! ### expressions -/
section
variable {X : Cx} {fa ca : Nat → Addr} {C : Cfg} {W : WX} {x y z : Expr} {pos : Pos}
theorem s_var {k : Nat} {n : Str} (hN : X.N[k]? = some n) (hv : Vis X.env.scope n) (hd : (n == ("__debug__" : Str)) = false) (hcd : (n == ("__classdict__" : Str)) = false) : PE X (.Name n pos) (rE X.K fa ca C W (.var k)) := by
  refine (pe_var (i := k) hN hv hd hcd).weak ?_
  rintro σ H Q ⟨Hf, e, F, S, h⟩
  simp only [evalE] at h
  cases q : e.at k with
  | none => rw [q] at h; exact h.elim
  | some o =>
    rw [q] at h
    obtain ⟨v, Hf', F', e1, f, r⟩ := S.freeze q
    exact ⟨v, e1, h v Hf' H F' [] f ⟨rfl, r⟩⟩
theorem s_pk {k : Nat} {n : Str} (hN : X.N[k]? = some n) (hv : Vis X.env.scope n) (hd : (n == ("__debug__" : Str)) = false) (hcd : (n == ("__classdict__" : Str)) = false) : PE X (.Name n pos) (rP X.K fa ca C W (.pk k)) := by
  refine (pe_var (i := k) hN hv hd hcd).weak ?_
  rintro σ H Q ⟨Hf, e, F, S, h⟩
  simp only [evalP] at h
  cases q : e.at k with
  | none => rw [q] at h; exact h.elim
  | some o =>
    rw [q] at h
    obtain ⟨v, Fl, F1, Fr, e1, _⟩ := relE_at S.rel q
    exact ⟨v, e1, h v Hf H F [] S.fin ⟨rfl, e1⟩⟩
theorem s_pe {a : TE} (h : PE X x (rE X.K fa ca C W a)) : PE X x (rP X.K fa ca C W (.e a)) := by
  refine h.weak ?_
  rintro σ H Q ⟨Hf, e, F, S, h⟩
  refine ⟨Hf, e, F, S, Go.mono (Go.bind (R1 := RD X.K fa ca) (r := evalE C a e) h) ?_⟩
  rintro v H1 ⟨d, e1, Hf1, F1, Fv, q1, f1, ⟨rfl, r1⟩, h1⟩
  exact h1 v Hf1 H1 F1 [] f1.st.fin ⟨rfl, r1⟩
theorem s_const {c : Const} {k : Nat} {t : TE} {d : D} {v : V} (ev : ∀ e, evalE C t e = .ok d e) (hp : PE X (.Constant c k pos) (tC v)) (r : ∀ H, repD X.K fa ca H d v) : PE X (.Constant c k pos) (rE X.K fa ca C W t) := by
  refine hp.weak ?_
  rintro σ H Q ⟨Hf, e, F, S, h⟩
  rw [ev] at h
  exact h v Hf H F [] S.fin ⟨rfl, r _⟩
theorem s_glob {n : Str} {g : Nat} {d : D} {u : Value} {v : V} (hg : Gl X n) (hm : X.mg n = some u) (rv : RelV v u) (hd : (n == ("__debug__" : Str)) = false) (hc : C.glob g = some d) (r : ∀ H, repD X.K fa ca H d v) : PE X (.Name n pos) (rE X.K fa ca C W (.glob g)) := by
  refine (pe_glob hg hm rv hd).weak ?_
  rintro σ H Q ⟨Hf, e, F, S, h⟩
  simp only [evalE, hc, ofOpt] at h
  exact h v Hf H F [] S.fin ⟨rfl, r _⟩
theorem s_fn {n : Str} {f : Nat} (hg : Gl X n) (hm : X.mg n = some (.ref (fa f))) (hd : (n == ("__debug__" : Str)) = false) : PE X (.Name n pos) (rE X.K fa ca C W (.fn f)) := by
  refine (pe_glob (v := .ref (fa f)) hg hm rfl hd).weak ?_
  rintro σ H Q ⟨Hf, e, F, S, h⟩
  exact h (.ref (fa f)) Hf H F [] S.fin ⟨rfl, rfl⟩
theorem s_bin {op : BOp} {a b : TP} (ha : PE X x (rP X.K fa ca C W a)) (hb : PE X y (rP X.K fa ca C W b)) : PE X (.BinOp x (opOf op) y pos) (rE X.K fa ca C W (.bin op a b)) := by
  refine (pe_op (opB_ok (fa := fa) (ca := ca) op) ha hb).weak ?_
  rintro σ H Q ⟨Hf, e, F, S, h⟩
  refine ⟨Hf, e, F, S, Go.mono (Go.bind (R1 := RP X.K fa ca σ) (r := evalP C a e) h) ?_⟩
  rintro v1 H1 ⟨p1, e1, Hf1, F1, Fv1, q1, f1, r1, h1⟩
  refine ⟨Hf1, e1, F1, f1.st, Go.mono (Go.bind (R1 := RP X.K fa ca σ) (r := evalP C b e1) h1) ?_⟩
  rintro v2 H2 ⟨p2, e2, Hf2, F2, Fv2, q2, f2, r2, h2⟩
  obtain ⟨d, ed, k⟩ := h2.opt
  simp only [Option.bind_eq_some_iff] at ed
  obtain ⟨a', g1, b', g2, g3⟩ := ed
  exact ⟨a', b', d, g3, r1.get f2.ext.fz f2.st g1, r2.get (Same.refl _) f2.st g2, fun v hv => k v Hf2 H2 F2 [] f2.st.fin ⟨rfl, hv _⟩⟩
theorem s_cmp (hu : X.A.units + 65 < cLine) {op : COp} {a b : TP} (ha : PE X x (rP X.K fa ca C W a)) (hb : PE X y (rP X.K fa ca C W b)) (hn : notSet y = true) : PE X (.Compare x [copOf op] [y] pos) (rE X.K fa ca C W (.cmp op a b)) := by
  refine (pe_cmpR (opC_ok (fa := fa) (ca := ca) hu op) ha hb (mark_of hn)).weak ?_
  rintro σ H Q ⟨Hf, e, F, S, h⟩
  refine ⟨Hf, e, F, S, Go.mono (Go.bind (R1 := RP X.K fa ca σ) (r := evalP C a e) h) ?_⟩
  rintro v1 H1 ⟨p1, e1, Hf1, F1, Fv1, q1, f1, r1, h1⟩
  refine ⟨Hf1, e1, F1, f1.st, Go.mono (Go.bind (R1 := RP X.K fa ca σ) (r := evalP C b e1) h1) ?_⟩
  rintro v2 H2 ⟨p2, e2, Hf2, F2, Fv2, q2, f2, r2, h2⟩
  obtain ⟨d, ed, k⟩ := h2.opt
  simp only [Option.bind_eq_some_iff, Option.map_eq_some_iff] at ed
  obtain ⟨a', g1, b', g2, c, g3, g4⟩ := ed
  subst g4
  exact ⟨a', b', c, g3, r1.get f2.ext.fz f2.st g1, r2.get (Same.refl _) f2.st g2, k (.bl c) Hf2 H2 F2 [] f2.st.fin ⟨rfl, rfl⟩⟩
theorem s_chain (hu : X.A.units + 65 < cLine) {o1 o2 : COp} {a b c : TP} (ha : PE X x (rP X.K fa ca C W a)) (hb : PE X y (rP X.K fa ca C W b)) (hc : PE X z (rP X.K fa ca C W c)) (hn : notSet y = true) (hn' : notSet z = true) :
    PE X (.Compare x [copOf o1, copOf o2] [y, z] pos) (rE X.K fa ca C W (.chain o1 o2 a b c)) := by
  refine (pe_chain (opC_ok (fa := fa) (ca := ca) hu o1) (opC_ok (fa := fa) (ca := ca) hu o2) ha hb hc (mark_of hn')).weak ?_
  rintro σ H Q ⟨Hf, e, F, S, h⟩
  refine ⟨Hf, e, F, S, Go.mono (Go.bind (R1 := RP X.K fa ca σ) (r := evalP C a e) h) ?_⟩
  rintro v1 H1 ⟨p1, e1, Hf1, F1, Fv1, q1, f1, r1, h1⟩
  refine ⟨Hf1, e1, F1, f1.st, Go.mono (Go.bind (R1 := RP X.K fa ca σ) (r := evalP C b e1) h1) ?_⟩
  rintro v2 H2 ⟨p2, e2, Hf2, F2, Fv2, q2, f2, r2, h2⟩
  cases q : (p1.get e2).bind fun x => (p2.get e2).bind fun y => opC o1 x y with
  | none => rw [q] at h2; exact h2.elim
  | some t =>
    rw [q] at h2
    simp only [Option.bind_eq_some_iff] at q
    obtain ⟨a', g1, b', g2, g3⟩ := q
    refine ⟨a', b', t, g3, r1.get f2.ext.fz f2.st g1, r2.get (Same.refl _) f2.st g2, t, rfl, ?_⟩
    cases t with
    | false => exact h2 (.bl false) Hf2 H2 F2 [] f2.st.fin ⟨rfl, rfl⟩
    | true =>
      refine ⟨Hf2, e2, F2, f2.st, Go.mono (Go.bind (R1 := RP X.K fa ca σ) (r := evalP C c e2) h2) ?_⟩
      rintro v3 H3 ⟨p3, e3, Hf3, F3, Fv3, q3, f3, r3, h3⟩
      obtain ⟨d, ed, k⟩ := h3.opt
      simp only [Option.bind_eq_some_iff, Option.map_eq_some_iff] at ed
      obtain ⟨b2, g4, c', g5, c2, g6, g7⟩ := ed
      subst g7
      exact ⟨b2, c', c2, g6, r2.get f3.ext.fz f3.st g4, r3.get (Same.refl _) f3.st g5, k (.bl c2) Hf3 H3 F3 [] f3.st.fin ⟨rfl, rfl⟩⟩
theorem s_neg {a : TE} (ha : PE X x (rE X.K fa ca C W a)) : PE X (.UnaryOp .USub x pos) (rE X.K fa ca C W (.neg a)) := by
  refine (pe_un un_neg ha).weak ?_
  rintro σ H Q ⟨Hf, e, F, S, h⟩
  refine ⟨Hf, e, F, S, Go.mono (Go.bind (R1 := RD X.K fa ca) (r := evalE C a e) h) ?_⟩
  rintro v1 H1 ⟨d, e1, Hf1, F1, Fv1, q1, f1, ⟨rfl, r1⟩, h1⟩
  cases d with
  | int i => cases r1; exact ⟨i, rfl, h1 (.int (-i)) Hf1 H1 F1 [] f1.st.fin ⟨rfl, rfl⟩⟩
  | _ => exact h1.elim
theorem s_not {a : TE} (ha : PE X x (rE X.K fa ca C W a)) : PE X (.UnaryOp .Not x pos) (rE X.K fa ca C W (.not_ a)) := by
  refine (pe_not ha).weak ?_
  rintro σ H Q ⟨Hf, e, F, S, h⟩
  refine ⟨Hf, e, F, S, Go.mono (Go.bind (R1 := RD X.K fa ca) (r := evalE C a e) h) ?_⟩
  rintro v1 H1 ⟨d, e1, Hf1, F1, Fv1, q1, f1, ⟨rfl, r1⟩, h1⟩
  cases d with
  | bl b => cases r1; exact ⟨b, rfl, h1 (.bl (!b)) Hf1 H1 F1 [] f1.st.fin ⟨rfl, rfl⟩⟩
  | _ => exact h1.elim
theorem s_and1 {a : TE} (ha : PE X x (rE X.K fa ca C W a)) : PE X (.BoolOp .And [x] pos) (rE X.K fa ca C W (.and_ [a])) := (pe_one ha).weak fun _ _ _ h => h
theorem s_or1 {a : TE} (ha : PE X x (rE X.K fa ca C W a)) : PE X (.BoolOp .Or [x] pos) (rE X.K fa ca C W (.or_ [a])) := (pe_one ha).weak fun _ _ _ h => h
theorem s_and {a b : TE} {r : List TE} {xs : List Expr} (ha : PE X x (rE X.K fa ca C W a)) (hb : PE X (.BoolOp .And (y :: xs) pos) (rE X.K fa ca C W (.and_ (b :: r)))) : PE X (.BoolOp .And (x :: y :: xs) pos) (rE X.K fa ca C W (.and_ (a :: b :: r))) := by
  refine (pe_and ha hb).weak ?_
  rintro σ H Q ⟨Hf, e, F, S, h⟩
  refine ⟨Hf, e, F, S, Go.mono (Go.bind (R1 := RD X.K fa ca) (r := evalE C a e) h) ?_⟩
  rintro v1 H1 ⟨d, e1, Hf1, F1, Fv1, q1, f1, ⟨rfl, r1⟩, h1⟩
  cases d with
  | bl t =>
    cases r1
    refine ⟨t, rfl, ?_⟩
    cases t with
    | false => exact h1 (.bl false) Hf1 H1 F1 [] f1.st.fin ⟨rfl, rfl⟩
    | true => exact ⟨Hf1, e1, F1, f1.st, h1⟩
  | _ => exact h1.elim
theorem s_or {a b : TE} {r : List TE} {xs : List Expr} (ha : PE X x (rE X.K fa ca C W a)) (hb : PE X (.BoolOp .Or (y :: xs) pos) (rE X.K fa ca C W (.or_ (b :: r)))) : PE X (.BoolOp .Or (x :: y :: xs) pos) (rE X.K fa ca C W (.or_ (a :: b :: r))) := by
  refine (pe_or ha hb).weak ?_
  rintro σ H Q ⟨Hf, e, F, S, h⟩
  refine ⟨Hf, e, F, S, Go.mono (Go.bind (R1 := RD X.K fa ca) (r := evalE C a e) h) ?_⟩
  rintro v1 H1 ⟨d, e1, Hf1, F1, Fv1, q1, f1, ⟨rfl, r1⟩, h1⟩
  cases d with
  | bl t =>
    cases r1
    refine ⟨t, rfl, ?_⟩
    cases t with
    | true => exact h1 (.bl true) Hf1 H1 F1 [] f1.st.fin ⟨rfl, rfl⟩
    | false => exact ⟨Hf1, e1, F1, f1.st, h1⟩
  | _ => exact h1.elim
theorem s_ife {t a b : TE} (ht : PT X x (L2.tB (rE X.K fa ca C W t))) (ha : PE X y (rE X.K fa ca C W a)) (hb : PE X z (rE X.K fa ca C W b)) : PE X (.IfExp x y z pos) (rE X.K fa ca C W (.ife t a b)) := by
  refine (pe_ifExp ht ha hb).weak ?_
  rintro σ H Q ⟨Hf, e, F, S, h⟩
  refine ⟨Hf, e, F, S, Go.mono (Go.bind (R1 := RD X.K fa ca) (r := evalE C t e) h) ?_⟩
  rintro v1 H1 ⟨d, e1, Hf1, F1, Fv1, q1, f1, ⟨rfl, r1⟩, h1⟩
  cases d with
  | bl t => cases r1; cases t <;> exact ⟨_, rfl, Hf1, e1, F1, f1.st, h1⟩
  | _ => exact h1.elim
/-! ### tests -/
theorem t_not {a : TE} (ha : PT X x (L2.tB (rE X.K fa ca C W a))) : PT X (.UnaryOp .Not x pos) (L2.tB (rE X.K fa ca C W (.not_ a))) := by
  refine (pt_not ha).weak ?_
  rintro σ H Q ⟨Hf, e, F, S, h⟩
  refine ⟨Hf, e, F, S, Go.mono (Go.bind (R1 := RD X.K fa ca) (r := evalE C a e) h) ?_⟩
  rintro v1 H1 ⟨d, e1, Hf1, F1, Fv1, q1, f1, ⟨rfl, r1⟩, h1⟩
  cases d with
  | bl b =>
    cases r1
    obtain ⟨c, ec, q⟩ := h1 (.bl (!b)) Hf1 H1 F1 [] f1.st.fin ⟨rfl, rfl⟩
    cases ec
    exact ⟨b, rfl, q⟩
  | _ => exact h1.elim
theorem t_and1 {a : TE} (ha : PT X x (L2.tB (rE X.K fa ca C W a))) : PW X (.BoolOp .And [x] pos) (L2.tB (rE X.K fa ca C W (.and_ [a]))) := ⟨fun wh pins s σ H Q I h => (pw_and1 ha).run wh pins s σ H Q I h⟩
theorem t_or1 {a : TE} (ha : PT X x (L2.tB (rE X.K fa ca C W a))) : PW X (.BoolOp .Or [x] pos) (L2.tB (rE X.K fa ca C W (.or_ [a]))) := ⟨fun wh pins s σ H Q I h => (pw_or1 ha).run wh pins s σ H Q I h⟩
theorem t_and {a b : TE} {r : List TE} {xs : List Expr} (ha : PT X x (L2.tB (rE X.K fa ca C W a))) (hb : PW X (.BoolOp .And (y :: xs) pos) (L2.tB (rE X.K fa ca C W (.and_ (b :: r))))) : PW X (.BoolOp .And (x :: y :: xs) pos) (L2.tB (rE X.K fa ca C W (.and_ (a :: b :: r)))) := by
  refine ⟨fun wh pins s σ H Q I h => (pw_and ha hb).run wh pins s σ H Q I ?_⟩
  obtain ⟨Hf, e, F, S, h⟩ := h
  refine ⟨Hf, e, F, S, Go.mono (Go.bind (R1 := RD X.K fa ca) (r := evalE C a e) h) ?_⟩
  rintro v1 H1 ⟨d, e1, Hf1, F1, Fv1, q1, f1, ⟨rfl, r1⟩, h1⟩
  cases d with
  | bl t =>
    cases r1
    refine ⟨t, rfl, ?_⟩
    cases t with
    | false =>
      obtain ⟨c, ec, q⟩ := h1 (.bl false) Hf1 H1 F1 [] f1.st.fin ⟨rfl, rfl⟩
      cases ec
      exact q
    | true => exact ⟨Hf1, e1, F1, f1.st, h1⟩
  | _ => exact h1.elim
theorem t_or {a b : TE} {r : List TE} {xs : List Expr} (ha : PT X x (L2.tB (rE X.K fa ca C W a))) (hb : PW X (.BoolOp .Or (y :: xs) pos) (L2.tB (rE X.K fa ca C W (.or_ (b :: r))))) : PW X (.BoolOp .Or (x :: y :: xs) pos) (L2.tB (rE X.K fa ca C W (.or_ (a :: b :: r)))) := by
  refine ⟨fun wh pins s σ H Q I h => (pw_or ha hb).run wh pins s σ H Q I ?_⟩
  obtain ⟨Hf, e, F, S, h⟩ := h
  refine ⟨Hf, e, F, S, Go.mono (Go.bind (R1 := RD X.K fa ca) (r := evalE C a e) h) ?_⟩
  rintro v1 H1 ⟨d, e1, Hf1, F1, Fv1, q1, f1, ⟨rfl, r1⟩, h1⟩
  cases d with
  | bl t =>
    cases r1
    refine ⟨t, rfl, ?_⟩
    cases t with
    | true =>
      obtain ⟨c, ec, q⟩ := h1 (.bl true) Hf1 H1 F1 [] f1.st.fin ⟨rfl, rfl⟩
      cases ec
      exact q
    | false => exact ⟨Hf1, e1, F1, f1.st, h1⟩
  | _ => exact h1.elim
theorem t_cmp (hu : X.A.units + 65 < cLine) {op : COp} {a b : TP} (ha : PE X x (rP X.K fa ca C W a)) (hb : PE X y (rP X.K fa ca C W b)) (hn : notSet y = true) : PT X (.Compare x [copOf op] [y] pos) (L2.tB (rE X.K fa ca C W (.cmp op a b))) := by
  refine (pt_cmpR (opC_ok (fa := fa) (ca := ca) hu op) ha hb (mark_of hn)).weak ?_
  rintro σ H Q ⟨Hf, e, F, S, h⟩
  refine ⟨Hf, e, F, S, Go.mono (Go.bind (R1 := RP X.K fa ca σ) (r := evalP C a e) h) ?_⟩
  rintro v1 H1 ⟨p1, e1, Hf1, F1, Fv1, q1, f1, r1, h1⟩
  refine ⟨Hf1, e1, F1, f1.st, Go.mono (Go.bind (R1 := RP X.K fa ca σ) (r := evalP C b e1) h1) ?_⟩
  rintro v2 H2 ⟨p2, e2, Hf2, F2, Fv2, q2, f2, r2, h2⟩
  obtain ⟨d, ed, k⟩ := h2.opt
  simp only [Option.bind_eq_some_iff, Option.map_eq_some_iff] at ed
  obtain ⟨a', g1, b', g2, c, g3, g4⟩ := ed
  subst g4
  refine ⟨a', b', c, g3, r1.get f2.ext.fz f2.st g1, r2.get (Same.refl _) f2.st g2, ?_⟩
  obtain ⟨c', ec, q⟩ := k (.bl c) Hf2 H2 F2 [] f2.st.fin ⟨rfl, rfl⟩
  cases ec
  exact ⟨c, rfl, q⟩
end
end TL

set_option maxRecDepth 100000
set_option maxHeartbeats 1000000
namespace TL
open PySem PySem.Spec PyProof.Rows L2
section
variable {K : PySem.W.Frag} {fa ca : Nat → Addr} {C : Cfg} {W : WX} {Hf H Hf1 H1 Hf2 H2 : Hp} {F F1 F2 Fv : List Addr} {σ : L2.St} {e e1 : En}
theorem RP.mono {p : PV} {v : V} (r : RP K fa ca σ Hf H p v Fv) (sm : Same Hf Hf1) : RP K fa ca σ Hf1 H1 p v Fv := by
  obtain ⟨h, r⟩ := r
  refine ⟨h, ?_⟩
  cases p with
  | v d => exact repD_mono sm r
  | r k => exact r
theorem ixAt_eq (n : Nat) (i : Int) : ixAt n i = ixN n i := rfl
/-- a thing at a place -/
theorem RP.sub {p : PV} {v w : V} {i d : D} (r : RP K fa ca σ Hf1 H1 p v Fv) (sm : Same Hf1 Hf) (s : Stt K fa ca Hf H σ e F) (ri : repD K fa ca H i w) (g : p.sub i e = some d) {Q : VK} (k : ∀ u, repD K fa ca Hf d u → Q u H) : rIx K v w H Q := by
  have lst : ∀ {os : List O} {xs : List V} {F' : List Addr} {a : Addr} {j : Int}, H a = some (.lst xs) → repOs K fa ca Hf H os xs F' → ((ixAt os.length j).bind fun j => (os[j]?).bind fun o => (match o with | .frz d => some d | _ => none)) = some d → rIx K (.ref a) (.int j) H Q := fun {os xs F' a j} h1 h2 h3 => by
    simp only [Option.bind_eq_some_iff] at h3
    obtain ⟨m, h3, o, h4, h5⟩ := h3
    obtain ⟨u, Fl, G1, Fr, h6, _, h7, _⟩ := repOs_at h2 h4
    cases o with
    | frz d' =>
      have : d' = d := Option.some.inj h5
      subst this
      refine .inl ⟨a, xs, j, u, rfl, rfl, SqL.of h1, ?_, k u h7.2⟩
      unfold atI
      rw [← repOs_len h2, ← ixAt_eq, h3]
      exact h6
    | _ => cases h5
  have tup : ∀ {os : List O} {xs : List V} {F' : List Addr} {a : Addr} {j : Int}, SqT K Hf a xs → repOs K fa ca Hf H os xs F' → ((ixAt os.length j).bind fun j => (os[j]?).bind fun o => (match o with | .frz d => some d | _ => none)) = some d → rIx K (.ref a) (.int j) H Q := fun {os xs F' a j} h1 h2 h3 => by
    simp only [Option.bind_eq_some_iff] at h3
    obtain ⟨m, h3, o, h4, h5⟩ := h3
    obtain ⟨u, Fl, G1, Fr, h6, _, h7, _⟩ := repOs_at h2 h4
    cases o with
    | frz d' =>
      have : d' = d := Option.some.inj h5
      subst this
      refine .inr (.inl ⟨a, xs, j, u, rfl, rfl, seqT s.sub h1, ?_, k u h7.2⟩)
      unfold atI
      rw [← repOs_len h2, ← ixAt_eq, h3]
      exact h6
    | _ => cases h5
  have dat : ∀ {d0 : D}, repD K fa ca Hf d0 v → subD d0 i = some d → rIx K v w H Q := fun {d0} h1 h2 => by
    cases i with
    | int j =>
      cases ri
      cases d0 with
      | lst xs =>
        obtain ⟨a, vs, rfl, h3, h4, h5⟩ := h1
        simp only [subD, Option.bind_eq_some_iff] at h2
        obtain ⟨m, h2, h6⟩ := h2
        obtain ⟨u, h7, h8⟩ := repDs_get h5 h6
        refine .inl ⟨a, vs, j, u, rfl, rfl, SqL.of (s.sub _ _ h3), ?_, k u h8⟩
        unfold atI
        rw [← repDs_len h5, ← ixAt_eq, h2]
        exact h7
      | tup xs =>
        obtain ⟨a, vs, rfl, h3, _, h5⟩ := h1
        simp only [subD, Option.bind_eq_some_iff] at h2
        obtain ⟨m, h2, h6⟩ := h2
        obtain ⟨u, h7, h8⟩ := repDs_get h5 h6
        refine .inr (.inl ⟨a, vs, j, u, rfl, rfl, seqT s.sub h3, ?_, k u h8⟩)
        unfold atI
        rw [← repDs_len h5, ← ixAt_eq, h2]
        exact h7
      | scr ns =>
        obtain ⟨a, rfl, h3, h5⟩ := h1
        simp only [subD, Option.bind_eq_some_iff, Option.map_eq_some_iff] at h2
        obtain ⟨m, h2, n, h6, h7⟩ := h2
        subst h7
        refine .inl ⟨a, _, j, .int n, rfl, rfl, s.sub.seq h3, ?_, k _ rfl⟩
        unfold atI
        rw [List.length_map, ← ixAt_eq, h2]
        show (ns.map V.int)[m]? = _
        rw [List.getElem?_map, h6]; rfl
      | _ => cases h2
    | _ => cases d0 <;> cases h2
  obtain ⟨_, r⟩ := r
  cases p with
  | v d0 => exact dat (repD_mono sm r) g
  | r n =>
    simp only [PV.sub, Option.bind_eq_some_iff] at g
    obtain ⟨o, g1, g2⟩ := g
    obtain ⟨v', Fl, G1, Fr, e1, e2, e3, _⟩ := relE_at s.rel g1
    have r : σ[n]? = some (some v) := r
    rw [e1] at r
    have : v' = v := Option.some.inj (Option.some.inj r)
    subst this
    cases o with
    | frz d0 => exact dat e3.2 g2
    | lst os =>
      obtain ⟨a, xs, F', rfl, h1, h2, h3, h4⟩ := e3
      cases i with
      | int j => cases ri; exact lst h1 h4 g2
      | _ => cases g2
    | tup os =>
      obtain ⟨a, xs, rfl, h1, _, h4⟩ := e3
      cases i with
      | int j => cases ri; exact tup h1 h4 g2
      | _ => cases g2
/-- the items of a list that is looked at -/
theorem RP.list {p : PV} {v : V} {xs : List D} (r : RP K fa ca σ Hf1 H1 p v Fv) (sm : Same Hf1 Hf) (s : Stt K fa ca Hf H σ e F) (g : p.list e = some xs) : ∃ a vs, v = .ref a ∧ H a = some (.lst vs) ∧ xs.length ≤ sizeLine ∧ repDs K fa ca Hf xs vs := by
  obtain ⟨_, r⟩ := r
  cases p with
  | v d0 =>
    cases d0 with
    | lst ys =>
      have : ys = xs := Option.some.inj g
      subst this
      obtain ⟨a, vs, rfl, h1, h2, h3⟩ := r
      exact ⟨a, vs, rfl, s.sub _ _ (sm _ _ h1), h2, repDs_mono sm h3⟩
    | _ => cases g
  | r n =>
    simp only [PV.list, Option.bind_eq_some_iff] at g
    obtain ⟨o, g1, g2⟩ := g
    obtain ⟨v', Fl, G1, Fr, e1, e2, e3, _⟩ := relE_at s.rel g1
    have r : σ[n]? = some (some v) := r
    rw [e1] at r
    have : v' = v := Option.some.inj (Option.some.inj r)
    subst this
    cases o with
    | frz d0 =>
      cases d0 with
      | lst ys =>
        have : ys = xs := Option.some.inj g2
        subst this
        obtain ⟨_, a, vs, rfl, h1, h2, h3⟩ := e3
        exact ⟨a, vs, rfl, s.sub _ _ h1, h2, h3⟩
      | _ => cases g2
    | lst os =>
      obtain ⟨a, vs, F', rfl, h1, h2, h3, h4⟩ := e3
      obtain ⟨_, q⟩ := allFrz_rep g2 h4
      refine ⟨a, vs, rfl, h1, ?_, q⟩
      rw [repDs_len q, ← repOs_len h4]
      exact h3
    | tup os => cases g2
theorem repDs_ints : ∀ ns : List Int, repDs K fa ca Hf (ns.map D.int) (ns.map V.int)
  | [] => rfl
  | _ :: ns => ⟨_, _, rfl, rfl, repDs_ints ns⟩
theorem RP.listS {p : PV} {v : V} {xs : List D} (r : RP K fa ca σ Hf1 H1 p v Fv) (sm : Same Hf1 Hf) (s : Stt K fa ca Hf H σ e F) (g : p.listS e = some xs) : ∃ a vs, v = .ref a ∧ SqL K H a vs ∧ xs.length ≤ sizeLine ∧ repDs K fa ca Hf xs vs := by
  have old : p.list e = some xs → ∃ a vs, v = .ref a ∧ SqL K H a vs ∧ xs.length ≤ sizeLine ∧ repDs K fa ca Hf xs vs := fun g => by
    obtain ⟨a, vs, h1, h2, h3, h4⟩ := r.list sm s g
    exact ⟨a, vs, h1, SqL.of h2, h3, h4⟩
  cases p with
  | r n => exact old g
  | v d0 =>
    cases d0 with
    | scr ns =>
      have g : ns.map D.int = xs := Option.some.inj g
      subst g
      obtain ⟨_, a, rfl, h1, h2⟩ := r
      exact ⟨a, ns.map V.int, rfl, s.sub.seq (sm.seq h1), by simpa using h2, repDs_ints ns⟩
    | _ => exact old g
theorem evalLs_len : ∀ {es : List TL} {e e' : En} {ds : List D}, (∀ t ∈ es, ∃ a, t = TL.e a) → evalLs C es e = .ok ds e' → ds.length = es.length
  | [], e, e', ds, _, h => by
    simp only [evalLs, Res.ok.injEq] at h
    rw [← h.1]; rfl
  | t :: es, e, e', ds, ns, h => by
    obtain ⟨a, rfl⟩ := ns t (List.mem_cons_self ..)
    simp only [evalLs] at h
    cases q : evalE C a e with
    | ok x e1 =>
      rw [q] at h
      simp only [Res.bind] at h
      cases q2 : evalLs C es e1 with
      | ok xs e2 =>
        rw [q2] at h
        simp only [Res.ok.injEq] at h
        rw [← h.1]
        exact congrArg (· + 1) (evalLs_len (fun t ht => ns t (List.mem_cons_of_mem _ ht)) q2)
      | exc => rw [q2] at h; cases h
      | stuck => rw [q2] at h; cases h
    | exc => rw [q] at h; cases h
    | stuck => rw [q] at h; cases h
end
section
variable {X : Cx} {fa ca : Nat → Addr} {C : Cfg} {W : WX} {x y z : Expr} {xs : List Expr} {pos : Pos}
/-! ### argument lists -/
theorem s_ps_nil : PA X [] (rPs X.K fa ca C W []) := by
  refine pa_nil.weak ?_
  rintro σ H Q ⟨Hf, e, F, S, h⟩
  exact h [] Hf H F [] S.fin ⟨rfl, rfl⟩
theorem s_ps_cons {a : TP} {as : List TP} (ha : PE X x (rP X.K fa ca C W a)) (hr : PA X xs (rPs X.K fa ca C W as)) (hs : notStar x = true) : PA X (x :: xs) (rPs X.K fa ca C W (a :: as)) := by
  refine (pa_cons ha hr (starEach_of hs)).weak ?_
  rintro σ H Q ⟨Hf, e, F, S, h⟩
  refine ⟨Hf, e, F, S, Go.mono (Go.bind (R1 := RP X.K fa ca σ) (r := evalP C a e) h) ?_⟩
  rintro v1 H1 ⟨p1, e1, Hf1, F1, Fv1, q1, f1, r1, h1⟩
  refine ⟨Hf1, e1, F1, f1.st, Go.mono (Go.bind (R1 := RPs X.K fa ca σ) (r := evalPs C as e1) h1) ?_⟩
  rintro vs H2 ⟨ps, e2, Hf2, F2, Fv2, q2, f2, r2, h2⟩
  have z : Fv2 = [] := by cases ps with
    | nil => exact r2.2
    | cons => obtain ⟨_, _, _, _, _, z⟩ := r2; exact z
  subst z
  have z1 : Fv1 = [] := r1.1
  subst z1
  exact h2 (v1 :: vs) Hf2 H2 F2 [] f2.st.fin ⟨v1, vs, rfl, r1.mono f2.ext.fz, r2, rfl⟩
theorem s_ls_nil : PA X [] (rLs X.K fa ca C W []) := by
  refine pa_nil.weak ?_
  rintro σ H Q ⟨Hf, e, F, S, h⟩
  exact h [] Hf H F [] S.fin ⟨rfl, rfl⟩
theorem s_ls_cons {a : TE} {as : List TL} (ha : PE X x (rE X.K fa ca C W a)) (hr : PA X xs (rLs X.K fa ca C W as)) (hs : notStar x = true) : PA X (x :: xs) (rLs X.K fa ca C W (.e a :: as)) := by
  refine (pa_cons ha hr (starEach_of hs)).weak ?_
  rintro σ H Q ⟨Hf, e, F, S, h⟩
  refine ⟨Hf, e, F, S, Go.mono (Go.bind (R1 := RD X.K fa ca) (r := evalE C a e) h) ?_⟩
  rintro v1 H1 ⟨p1, e1, Hf1, F1, Fv1, q1, f1, ⟨rfl, r1⟩, h1⟩
  refine ⟨Hf1, e1, F1, f1.st, Go.mono (Go.bind (R1 := RDs X.K fa ca) (r := evalLs C as e1) h1) ?_⟩
  rintro vs H2 ⟨ps, e2, Hf2, F2, Fv2, q2, f2, ⟨rfl, r2⟩, h2⟩
  exact h2 (v1 :: vs) Hf2 H2 F2 [] f2.st.fin ⟨rfl, v1, vs, rfl, repD_mono f2.ext.fz r1, r2⟩
theorem s_es_nil : PA X [] (rEs X.K fa ca C W []) := by
  refine pa_nil.weak ?_
  rintro σ H Q ⟨Hf, e, F, S, h⟩
  exact h [] Hf H F [] S.fin ⟨rfl, rfl⟩
/-- what is new and frozen -/
theorem newD {Hf0 H0 Hf H : Hp} {F0 F : List Addr} {σ : L2.St} {e : En} {K : PySem.W.Frag} {p : Addr} {o : HO} (f : Fin K fa ca Hf0 H0 F0 Hf H σ e F []) (hp : H p = none) : Fin K fa ca Hf0 H0 F0 (upd Hf p o) (upd H p o) σ e F [] := by
  have g := f.st.new (o := o) hp
  exact ⟨g.st, g.nd, g.dis, f.trans (σ' := σ) (Fv2 := []) g.ext⟩
theorem s_tup {es : List TL} {k : Nat} (hl : es.length ≤ 1000) (ns : ∀ t ∈ es, ∃ a, t = TL.e a) (ha : PA X xs (rLs X.K fa ca C W es)) : PE X (.Tuple xs k pos) (rE X.K fa ca C W (.tup es)) := by
  refine (pe_tup ha).weak ?_
  rintro σ H Q ⟨Hf, e, F, S, h⟩
  refine ⟨Hf, e, F, S, Go.mono (Go.bind (R1 := RDs X.K fa ca) (r := evalLs C es e) h) ?_⟩
  rintro vs H1 ⟨ds, e1, Hf1, F1, Fv1, q1, f1, ⟨rfl, r1⟩, h1⟩
  have hlen := evalLs_len ns q1
  have hz : ds.length ≤ sizeLine := by rw [hlen, sizeLine_eq]; omega
  refine ⟨by rw [← repDs_len r1]; exact hz, fun p hp => ?_⟩
  have f := newD (o := .tup vs) f1.st.fin hp
  exact h1 (.ref p) _ _ _ _ f ⟨rfl, p, vs, rfl, SqT.of upd_same, hz, repDs_mono f.ext.fz r1⟩
theorem s_f {t : TF} (h : PE X x (rF X.K fa ca C W t)) : PE X x (rE X.K fa ca C W (.f t)) := by
  refine h.weak ?_
  rintro σ H Q ⟨Hf, e, F, S, h⟩
  refine ⟨Hf, e, F, S, Go.mono (Go.bind (R1 := RF X.K fa ca) (r := evalF C t e) h) ?_⟩
  rintro ⟨p, vs⟩ H1 ⟨ds, e1, Hf1, F1, Fv1, q1, f1, ⟨rfl, r, hl, hp⟩, h1⟩
  have g := newD (o := .lst vs) f1.st.fin hp
  exact h1 (.ref p) _ _ _ _ g ⟨rfl, p, vs, rfl, upd_same, hl, repDs_mono g.ext.fz r⟩
theorem s_lst {es : List TL} (hl : es.length ≤ 1000) (ns : ∀ t ∈ es, ∃ a, t = TL.e a) (ha : PA X xs (rLs X.K fa ca C W es)) : PE X (.List xs pos) (rF X.K fa ca C W (.lst es)) := by
  refine (pe_lst ha).weak ?_
  rintro σ H Q ⟨Hf, e, F, S, h⟩
  refine ⟨Hf, e, F, S, ?_⟩
  simp only [evalF] at h
  cases q : evalLs C es e with
  | ok ds e1 =>
    rw [q] at h
    rintro vs Hf' H' F' Fv f ⟨rfl, r⟩
    have hlen : ds.length ≤ sizeLine := by rw [evalLs_len ns q, sizeLine_eq]; omega
    exact ⟨by rw [← repDs_len r]; exact hlen, fun p hp => h (p, vs) Hf' H' F' [] f ⟨rfl, r, hlen, hp⟩⟩
  | exc => rw [q] at h; exact h
  | stuck => rw [q] at h; exact h
theorem plainIx_of (h : isPlain y = true) : PlainIx y := by
  intro o i
  cases y with
  | Slice l u s p => cases s with
    | none => simp [isPlain] at h
    | some _ => rfl
  | _ => rfl
theorem s_sub {a : TP} {i : TE} (ha : PE X x (rP X.K fa ca C W a)) (hi : PE X y (rE X.K fa ca C W i)) (hp : isPlain y = true) : PE X (.Subscript x y pos) (rE X.K fa ca C W (.sub a i)) := by
  refine (pe_ix ix_seq ha hi (plainIx_of hp)).weak ?_
  rintro σ H Q ⟨Hf, e, F, S, h⟩
  refine ⟨Hf, e, F, S, Go.mono (Go.bind (R1 := RP X.K fa ca σ) (r := evalP C a e) h) ?_⟩
  rintro v1 H1 ⟨p1, e1, Hf1, F1, Fv1, q1, f1, r1, h1⟩
  refine ⟨Hf1, e1, F1, f1.st, Go.mono (Go.bind (R1 := RD X.K fa ca) (r := evalE C i e1) h1) ?_⟩
  rintro v2 H2 ⟨d2, e2, Hf2, F2, Fv2, q2, f2, ⟨rfl, r2⟩, h2⟩
  obtain ⟨d, ed, k⟩ := h2.opt
  exact r1.sub f2.ext.fz f2.st (repD_mono f2.st.sub r2) ed fun u hu => k u Hf2 H2 F2 [] f2.st.fin ⟨rfl, hu⟩
end
end TL

set_option maxRecDepth 100000
set_option maxHeartbeats 1000000
namespace TL
open PySem PySem.Spec PyProof.Rows L2
/-! ### built-in functions -/
section
variable {K : PySem.W.Frag} {fa ca : Nat → Addr} {H : Hp}
theorem intsOf_map (ns : List Int) : intsOf (ns.map D.int) = some ns := by
  induction ns with
  | nil => rfl
  | cons n ns ih => simp [intsOf, ih]
theorem boolsOf_map (bs : List Bool) : boolsOf (bs.map D.bl) = some bs := by
  induction bs with
  | nil => rfl
  | cons n ns ih => simp [boolsOf, ih]
theorem sumI_map (ns : List Int) : sumI (ns.map D.int) = some ns.sum := by
  induction ns with
  | nil => rfl
  | cons n ns ih => simp [sumI, ih]
theorem intsOf_rep : ∀ {xs : List D} {ns : List Int} {vs : List V}, intsOf xs = some ns → repDs K fa ca H xs vs → vs = ns.map V.int ∧ xs = ns.map D.int
  | [], ns, vs, h, r => by
    have : ns = [] := by simpa [intsOf] using h.symm
    subst this; cases r; exact ⟨rfl, rfl⟩
  | .int i :: xs, ns, _, h, ⟨v, r, h1, h2, h3⟩ => by
    simp only [intsOf, Option.map_eq_some_iff] at h
    obtain ⟨ms, e1, e2⟩ := h
    subst e2 h1
    obtain ⟨q1, q2⟩ := intsOf_rep e1 h3
    cases h2
    exact ⟨by rw [q1]; rfl, by rw [q2]; rfl⟩
  | .non :: _, _, _, h, _ => by simp [intsOf] at h
  | .bl _ :: _, _, _, h, _ => by simp [intsOf] at h
  | .str _ :: _, _, _, h, _ => by simp [intsOf] at h
  | .lst _ :: _, _, _, h, _ => by simp [intsOf] at h
  | .tup _ :: _, _, _, h, _ => by simp [intsOf] at h
  | .dic :: _, _, _, h, _ => by simp [intsOf] at h
  | .fn _ :: _, _, _, h, _ => by simp [intsOf] at h
  | .exc _ _ :: _, _, _, h, _ => by simp [intsOf] at h
  | .scr _ :: _, _, _, h, _ => by simp [intsOf] at h
theorem sumI_ints : ∀ {xs : List D} {n : Int}, sumI xs = some n → ∃ ns, intsOf xs = some ns ∧ ns.sum = n
  | [], n, h => ⟨[], rfl, by simpa [sumI] using h⟩
  | .int i :: xs, n, h => by
    simp only [sumI, Option.map_eq_some_iff] at h
    obtain ⟨m, e1, e2⟩ := h
    obtain ⟨ns, q1, q2⟩ := sumI_ints e1
    exact ⟨i :: ns, by simp [intsOf, q1], by rw [List.sum_cons, q2]; exact e2⟩
  | .non :: _, _, h => by simp [sumI] at h
  | .bl _ :: _, _, h => by simp [sumI] at h
  | .str _ :: _, _, h => by simp [sumI] at h
  | .lst _ :: _, _, h => by simp [sumI] at h
  | .tup _ :: _, _, h => by simp [sumI] at h
  | .dic :: _, _, h => by simp [sumI] at h
  | .fn _ :: _, _, h => by simp [sumI] at h
  | .exc _ _ :: _, _, h => by simp [sumI] at h
  | .scr _ :: _, _, h => by simp [sumI] at h
theorem boolsOf_rep : ∀ {xs : List D} {bs : List Bool} {vs : List V}, boolsOf xs = some bs → repDs K fa ca H xs vs → vs = bs.map V.bl
  | [], ns, vs, h, r => by
    have : ns = [] := by simpa [boolsOf] using h.symm
    subst this; cases r; rfl
  | .bl i :: xs, ns, _, h, ⟨v, r, h1, h2, h3⟩ => by
    simp only [boolsOf, Option.map_eq_some_iff] at h
    obtain ⟨ms, e1, e2⟩ := h
    subst e2 h1
    cases h2
    rw [boolsOf_rep e1 h3]; rfl
  | .non :: _, _, _, h, _ => by simp [boolsOf] at h
  | .int _ :: _, _, _, h, _ => by simp [boolsOf] at h
  | .str _ :: _, _, _, h, _ => by simp [boolsOf] at h
  | .lst _ :: _, _, _, h, _ => by simp [boolsOf] at h
  | .tup _ :: _, _, _, h, _ => by simp [boolsOf] at h
  | .dic :: _, _, _, h, _ => by simp [boolsOf] at h
  | .fn _ :: _, _, _, h, _ => by simp [boolsOf] at h
  | .exc _ _ :: _, _, _, h, _ => by simp [boolsOf] at h
  | .scr _ :: _, _, _, h, _ => by simp [boolsOf] at h
end
/-- the function, or type, of a built-in name -/
def bltVal : Blt → Value
  | .len => .builtin "len" | .abs => .builtin "abs" | .max2 => .builtin "max" | .min2 => .builtin "min" | .sum => .builtin "sum" | .sum2 => .builtin "sum" | .all => .builtin "all" | .any => .builtin "any"
  | .int => .type "int" | .bool => .type "bool" | .str => .type "str" | .ord => .builtin "ord" | .repr => .builtin "repr"
section
variable {X : Cx} {fa ca : Nat → Addr} {C : Cfg} {W : WX} {x y z : Expr} {xs : List Expr} {pos p : Pos}
def rX (K : PySem.W.Frag) (fa ca : Nat → Addr) (b : Blt) : List V → Hp → VK → Prop := fun vs H Q => ∃ ds d, opX b ds = some d ∧ repDs K fa ca H ds vs ∧ ∀ v, (∀ H', repD K fa ca H' d v) → Q v H
theorem opX_ok (hc : X.calm = true) (b : Blt) : CallR X (bltVal b) (rX X.K fa ca b) := by
  intro pins s σ H vs us Q I r ⟨ds, d, e, rd, k⟩
  have one : ∀ {a : D}, repDs X.K fa ca H [a] vs → ∃ v, vs = [v] ∧ repD X.K fa ca H a v := fun {a} ⟨v, r, h1, h2, h3⟩ => by
    cases h3; exact ⟨v, h1, h2⟩
  have two : ∀ {a b : D}, repDs X.K fa ca H [a, b] vs → ∃ v w, vs = [v, w] ∧ repD X.K fa ca H a v ∧ repD X.K fa ca H b w := fun {a b} ⟨v, r, h1, h2, w, r', h3, h4, h5⟩ => by
    cases h5; subst h3; exact ⟨v, w, h1, h2, h4⟩
  cases b with
  | len =>
    rcases ds with _ | ⟨a, _ | ⟨b, r⟩⟩
    · cases e
    · obtain ⟨v, rfl, ra⟩ := one rd
      cases a with
      | lst xs =>
        have e := Option.some.inj e; subst e
        obtain ⟨q, ws, rfl, h1, h2, h3⟩ := ra
        refine call_len_seq pins s σ H _ us Q I r ⟨q, ws, rfl, .inl (SqL.of h1), ?_⟩
        rw [← repDs_len h3]; exact k _ fun _ => rfl
      | tup xs =>
        have e := Option.some.inj e; subst e
        obtain ⟨q, ws, rfl, h1, _, h3⟩ := ra
        refine call_len_seq pins s σ H _ us Q I r ⟨q, ws, rfl, .inr h1, ?_⟩
        rw [← repDs_len h3]; exact k _ fun _ => rfl
      | scr ns =>
        have e := Option.some.inj e; subst e
        obtain ⟨q, rfl, h1, h3⟩ := ra
        refine call_len_seq pins s σ H _ us Q I r ⟨q, _, rfl, .inl h1, ?_⟩
        rw [List.length_map]; exact k _ fun _ => rfl
      | _ => cases e
    · cases a <;> cases e
  | abs =>
    rcases ds with _ | ⟨a, _ | ⟨b, r⟩⟩
    · cases e
    · obtain ⟨v, rfl, ra⟩ := one rd
      cases a with
      | int i =>
        have e := Option.some.inj e; subst e
        cases ra
        exact call_abs pins s σ H _ us Q I r ⟨i, rfl, k _ fun _ => rfl⟩
      | _ => cases e
    · cases a <;> cases e
  | max2 =>
    rcases ds with _ | ⟨a, _ | ⟨b, _ | ⟨c, r⟩⟩⟩
    · cases e
    · cases a <;> cases e
    · obtain ⟨v, w, rfl, ra, rb⟩ := two rd
      cases a <;> cases b <;> simp only [opX, reduceCtorEq] at e
      have e := Option.some.inj e; subst e
      cases ra; cases rb
      exact call_max2 hc pins s σ H _ us Q I r ⟨_, _, rfl, k _ fun _ => rfl⟩
    · cases a <;> cases b <;> cases e
  | min2 =>
    rcases ds with _ | ⟨a, _ | ⟨b, _ | ⟨c, r⟩⟩⟩
    · cases e
    · cases a <;> cases e
    · obtain ⟨v, w, rfl, ra, rb⟩ := two rd
      cases a <;> cases b <;> simp only [opX, reduceCtorEq] at e
      have e := Option.some.inj e; subst e
      cases ra; cases rb
      exact call_min2 hc pins s σ H _ us Q I r ⟨_, _, rfl, k _ fun _ => rfl⟩
    · cases a <;> cases b <;> cases e
  | sum =>
    rcases ds with _ | ⟨a, _ | ⟨b, r⟩⟩
    · cases e
    · obtain ⟨v, rfl, ra⟩ := one rd
      cases a with
      | lst xs =>
        simp only [opX, Option.map_eq_some_iff] at e
        obtain ⟨n, e1, e2⟩ := e
        subst e2
        obtain ⟨ns, q1, q2⟩ := sumI_ints e1
        obtain ⟨q, ws, rfl, h1, h2, h3⟩ := ra
        obtain ⟨z1, z2⟩ := intsOf_rep q1 h3
        subst z1
        refine cr_sum hc pins s σ H _ us Q I r ⟨q, ns, rfl, SqL.of h1, ?_⟩
        rw [q2]; exact k _ fun _ => rfl
      | _ => cases e
    · cases a <;> cases e
  | sum2 => cases e
  | all =>
    rcases ds with _ | ⟨a, _ | ⟨b, r⟩⟩
    · cases e
    · obtain ⟨v, rfl, ra⟩ := one rd
      cases a with
      | lst xs =>
        simp only [opX, Option.map_eq_some_iff] at e
        obtain ⟨bs, e1, e2⟩ := e
        subst e2
        obtain ⟨q, ws, rfl, h1, h2, h3⟩ := ra
        have z1 := boolsOf_rep e1 h3
        subst z1
        exact cr_all hc pins s σ H _ us Q I r ⟨q, bs, rfl, SqL.of h1, k _ fun _ => rfl⟩
      | _ => cases e
    · cases a <;> cases e
  | any =>
    rcases ds with _ | ⟨a, _ | ⟨b, r⟩⟩
    · cases e
    · obtain ⟨v, rfl, ra⟩ := one rd
      cases a with
      | lst xs =>
        simp only [opX, Option.map_eq_some_iff] at e
        obtain ⟨bs, e1, e2⟩ := e
        subst e2
        obtain ⟨q, ws, rfl, h1, h2, h3⟩ := ra
        have z1 := boolsOf_rep e1 h3
        subst z1
        exact cr_any hc pins s σ H _ us Q I r ⟨q, bs, rfl, SqL.of h1, k _ fun _ => rfl⟩
      | _ => cases e
    · cases a <;> cases e
  | int =>
    rcases ds with _ | ⟨a, _ | ⟨b, r⟩⟩
    · cases e
    · obtain ⟨v, rfl, ra⟩ := one rd
      cases a with
      | int i =>
        have e := Option.some.inj e; subst e
        cases ra
        exact call_int1 pins s σ H _ us Q I r (.inl ⟨i, rfl, k _ fun _ => rfl⟩)
      | bl i =>
        have e := Option.some.inj e; subst e
        cases ra
        exact call_int1 pins s σ H _ us Q I r (.inr ⟨i, rfl, k _ fun _ => rfl⟩)
      | _ => cases e
    · cases a <;> cases e
  | bool => cases e
  | str => cases e
  | ord => cases e
  | repr => cases e
theorem pe_blt {r : List V → Hp → VK → Prop} {t : L2.TA} (b : Blt) (hc : CallR X (bltVal b) r) (hg : Gl X (bltName b)) (hm : X.mg (bltName b) = none) (ha : PA X (x :: xs) t) (hx : notStar x = true) (hxs : xs.all notStar = true) : PE X (.Call (.Name (bltName b) p) (x :: xs) [] pos) (tCB r t) := by
  cases b with
  | len => exact pe_callB hc hg hm boot_len ha (by decide) (by decide) (starEach_of hx) (plain_of hxs)
  | abs => exact pe_callB hc hg hm (by decide +kernel) ha (by decide) (by decide) (starEach_of hx) (plain_of hxs)
  | max2 => exact pe_callB hc hg hm boot_max ha (by decide) (by decide) (starEach_of hx) (plain_of hxs)
  | min2 => exact pe_callB hc hg hm boot_min ha (by decide) (by decide) (starEach_of hx) (plain_of hxs)
  | sum => exact pe_callB hc hg hm boot_sum ha (by decide) (by decide) (starEach_of hx) (plain_of hxs)
  | sum2 => exact pe_callB hc hg hm boot_sum ha (by decide) (by decide) (starEach_of hx) (plain_of hxs)
  | all => exact pe_callB hc hg hm (by decide +kernel) ha (by decide) (by decide) (starEach_of hx) (plain_of hxs)
  | any => exact pe_callB hc hg hm (by decide +kernel) ha (by decide) (by decide) (starEach_of hx) (plain_of hxs)
  | int => exact pe_callTy hc hg hm (by decide +kernel) ha (by decide) (by decide) (starEach_of hx) (plain_of hxs)
  | bool => exact pe_callTy hc hg hm (by decide +kernel) ha (by decide) (by decide) (starEach_of hx) (plain_of hxs)
  | str => exact pe_callTy hc hg hm (by decide +kernel) ha (by decide) (by decide) (starEach_of hx) (plain_of hxs)
  | ord => exact pe_callB hc hg hm (by decide +kernel) ha (by decide) (by decide) (starEach_of hx) (plain_of hxs)
  | repr => exact pe_callB hc hg hm (by decide +kernel) ha (by decide) (by decide) (starEach_of hx) (plain_of hxs)
theorem s_blt (hc : X.calm = true) {b : Blt} {as : List TP} (hg : Gl X (bltName b)) (hm : X.mg (bltName b) = none) (ha : PA X (x :: xs) (rPs X.K fa ca C W as)) (hx : notStar x = true) (hxs : xs.all notStar = true) :
    PE X (.Call (.Name (bltName b) p) (x :: xs) [] pos) (rE X.K fa ca C W (.blt b as)) := by
  refine (pe_blt b (opX_ok (fa := fa) (ca := ca) hc b) hg hm ha hx hxs).weak ?_
  rintro σ H Q ⟨Hf, e, F, S, h⟩
  refine ⟨Hf, e, F, S, Go.mono (Go.bind (R1 := RPs X.K fa ca σ) (r := evalPs C as e) h) ?_⟩
  rintro vs H1 ⟨ps, e1, Hf1, F1, Fv1, q1, f1, r1, h1⟩
  obtain ⟨d, ed, k⟩ := h1.opt
  simp only [Option.bind_eq_some_iff] at ed
  obtain ⟨ds, g1, g2⟩ := ed
  exact ⟨ds, d, g2, r1.get (Same.refl _) f1.st g1, fun v hv => k v Hf1 H1 F1 [] f1.st.fin ⟨rfl, hv _⟩⟩
/-! ### isinstance -/
def tyVal (ca : Nat → Addr) : Ty → V
  | .int => .ty "int" | .bool => .ty "bool" | .str => .ty "str" | .list => .ty "list" | .tuple => .ty "tuple" | .cls c => .ref (ca c)
def tyVal' (ca : Nat → Addr) : Ty → Value
  | .int => .type "int" | .bool => .type "bool" | .str => .type "str" | .list => .type "list" | .tuple => .type "tuple" | .cls c => .ref (ca c)
/-- of what class a tree is -/
def clsOf : D → Option Value
  | .non => some (.type "NoneType") | .bl _ => some (.type "bool") | .int _ => some (.type "int") | .str _ => some (.type "str") | .lst _ => some (.type "list") | .tup _ => some (.type "tuple") | .dic => some (.type "dict") | .scr _ => some (.type "list")
  | _ => none
abbrev bltTy : Ty → Bool := bltTyB
theorem tyX_of {K : PySem.W.Frag} {H : Hp} {d : D} {v : V} {t : Value} (r : repD K fa ca H d v) (h : clsOf d = some t) : TyX K H v t := by
  cases d with
  | non => cases r; cases h; exact .base .non
  | bl => cases r; cases h; exact .base (.bl _)
  | int => cases r; cases h; exact .base (.int _)
  | str => cases r; cases h; exact .base (.str _)
  | lst => obtain ⟨a, vs, rfl, h1, _⟩ := r; cases h; exact .base (.lst h1)
  | tup =>
    obtain ⟨a, vs, rfl, h1, _⟩ := r
    cases h
    rcases h1 with (h1 | ⟨o, h1⟩) | ⟨o, its, n, h1, h2, _⟩
    · exact .base (.tup h1)
    · exact .fTuple h1
    · exact .kTuple h1 h2
  | dic => obtain ⟨a, rfl, h1⟩ := r; cases h; exact .base (.dK h1)
  | scr =>
    obtain ⟨a, rfl, h1, _⟩ := r
    cases h
    rcases h1 with (h1 | ⟨o, h1⟩) | ⟨o, its, n, h1, h2, _⟩
    · exact .base (.lst h1)
    · exact .base (.frz h1)
    · exact .kList h1 h2
  | _ => cases h
theorem kit_all (K : PySem.W.Frag) : ∀ (d : D) (t : Ty), bltTy t = true → ∀ v, clsOf d = some v → PySem.W.kitOne K v (tyVal' ca t) = some (isTy t d) := by
  intro d t h v hv
  cases t with
  | cls c => cases h
  | _ => cases d <;> first | (cases hv; done) | (cases hv; first | rfl | decide +kernel | kernel_rfl)
end
end TL

set_option maxRecDepth 100000
set_option maxHeartbeats 1000000
namespace TL
open PySem PySem.Spec PyProof.Rows L2
section
variable {X : Cx} {fa ca : Nat → Addr} {C : Cfg} {W : WX} {x y z : Expr} {xs : List Expr} {pos p p2 p3 : Pos} {k2 : Nat}
def tyName : Ty → Str
  | .int => "int" | .bool => "bool" | .str => "str" | .list => "list" | .tuple => "tuple" | .cls _ => "list"
theorem boot_ty {t : Ty} (h : bltTy t = true) : bootBuiltins (tyName t) = some (tyVal' ca t) := by
  cases t with
  | cls => cases h
  | _ => show bootBuiltins _ = some (Value.type _); decide +kernel
/-- a built-in class by its name -/
theorem pe_ty {t : Ty} (h : bltTy t = true) (hg : Gl X (tyName t)) (hm : X.mg (tyName t) = none) (hd : (tyName t == ("__debug__" : Str)) = false) : PE X (.Name (tyName t) p) (tC (tyVal ca t)) :=
  pe_bltn hg hm (boot_ty (ca := ca) h) (by cases t <;> first | rfl | cases h) (by cases t <;> first | decide | cases h) hd
theorem clsV_of {t : Ty} (h : bltTy t = true) : ClsV (tyVal ca t) (tyVal' ca t) := by
  cases t <;> first | exact .ty _ | cases h
theorem isi_plain : ∀ {ts : List Ty} {d : D} {b : Bool}, ts ≠ [] → ts.all bltTy = true → isiD ts d = some b → ∃ v, clsOf d = some v
  | t :: ts, d, b, _, h, e => by
    simp only [isiD, Option.bind_eq_some_iff] at e
    obtain ⟨c, e1, _⟩ := e
    simp only [List.all_cons, Bool.and_eq_true] at h
    cases t with
    | cls c => cases h.1
    | _ => cases d <;> first | exact ⟨_, rfl⟩ | (simp [tyOpt, plainD] at e1)
theorem isi_kit (K : PySem.W.Frag) : ∀ {ts : List Ty} {d : D} {b : Bool} {v : Value}, ts.all bltTy = true → isiD ts d = some b → clsOf d = some v → PySem.W.kitAny K v (ts.map (tyVal' ca)) = some b
  | [], d, b, v, _, e, _ => by cases e; rfl
  | t :: ts, d, b, v, h, e, hv => by
    simp only [List.all_cons, Bool.and_eq_true] at h
    simp only [isiD, Option.bind_eq_some_iff] at e
    obtain ⟨c, e1, e2⟩ := e
    have q : tyOpt t d = some (isTy t d) := by
      cases t with
      | cls => cases h.1
      | _ => cases d <;> first | rfl | cases hv
    rw [q] at e1
    have e1 := Option.some.inj e1
    show (match PySem.W.kitOne K v (tyVal' ca t) with
      | some true => some true
      | some false => PySem.W.kitAny K v (ts.map (tyVal' ca))
      | none => none) = some b
    rw [kit_all K d t h.1 v hv, e1]
    cases c with
    | true => exact e2
    | false => exact isi_kit K h.2 e2 hv
theorem s_isi1 {a : TP} {t : Ty} (ht : bltTy t = true) (hg : Gl X "isinstance") (hm : X.mg "isinstance" = none) (ha : PE X x (rP X.K fa ca C W a)) (hx : notStar x = true) (hT : PE X (.Name (tyName t) p2) (tC (tyVal ca t))) :
    PE X (.Call (.Name "isinstance" p) [x, .Name (tyName t) p2] [] pos) (rE X.K fa ca C W (.isi a [t])) := by
  refine (pe_callB call_isi hg hm PyProof.Rows.boot_isinstance (pa_cons ha (pa_cons hT pa_nil) (starEach_of hx)) (by decide) (by decide) (starEach_of hx) rfl).weak ?_
  rintro σ H Q ⟨Hf, e, F, S, h⟩
  refine ⟨Hf, e, F, S, Go.mono (Go.bind (R1 := RP X.K fa ca σ) (r := evalP C a e) h) ?_⟩
  rintro v H1 ⟨p1, e1, Hf1, F1, Fv1, q1, f1, r1, h1⟩
  obtain ⟨d, ed, k⟩ := h1.opt
  simp only [Option.bind_eq_some_iff, Option.map_eq_some_iff] at ed
  obtain ⟨d', g1, b, g2, g3⟩ := ed
  subst g3
  have rd := r1.get (Same.refl _) f1.st g1
  obtain ⟨w, hw⟩ := isi_plain (by simp) (by simpa using ht) g2
  have hk := isi_kit (ca := ca) X.K (ts := [t]) (by simpa using ht) g2 hw
  refine ⟨v, tyVal ca t, w, tyVal' ca t, b, rfl, clsV_of ht, tyX_of rd hw, ?_, k (.bl b) Hf1 H1 F1 [] f1.st.fin ⟨rfl, rfl⟩⟩
  have hk : (match PySem.W.kitOne X.K w (tyVal' ca t) with
      | some true => some true
      | some false => some false
      | none => none) = some b := hk
  revert hk
  cases PySem.W.kitOne X.K w (tyVal' ca t) with
  | none => intro z; cases z
  | some c => cases c <;> exact id
/-- the classes of a tuple that is written -/
def tTys : List V → L2.TA := fun vs _ H Q => Q vs H
theorem pa_tys : ∀ {ts : List Ty} {es : List Expr}, (∀ (i : Nat) (t : Ty), ts[i]? = some t → ∃ e, es[i]? = some e ∧ notStar e = true ∧ PE X e (tC (tyVal ca t))) → es.length = ts.length → PA X es (tTys (ts.map (tyVal ca)))
  | [], [], _, _ => pa_nil.weak fun _ _ _ h => h
  | t :: ts, e :: es, h, hl => by
    obtain ⟨e', h1, h2, h3⟩ := h 0 t rfl
    have h1 : e = e' := Option.some.inj h1
    subst h1
    exact (pa_cons h3 (pa_tys (ts := ts) (es := es) (fun i t ht => h (i + 1) t ht) (by simpa using hl)) (starEach_of h2)).weak fun _ _ _ h => h
  | [], _ :: _, _, hl => by cases hl
  | _ :: _, [], _, hl => by cases hl
theorem paired_tys : ∀ {ts : List Ty}, ts.all bltTy = true → Paired ClsV (ts.map (tyVal ca)) (ts.map (tyVal' ca))
  | [], _ => .nil
  | t :: ts, h => by
    simp only [List.all_cons, Bool.and_eq_true] at h
    exact .cons (clsV_of h.1) (paired_tys h.2)
theorem s_isiT {a : TP} {ts : List Ty} {es : List Expr} (ht : ts.all bltTy = true) (hne : ts ≠ []) (hl : ts.length ≤ 20) (hg : Gl X "isinstance") (hm : X.mg "isinstance" = none) (ha : PE X x (rP X.K fa ca C W a)) (hx : notStar x = true) (hT : PA X es (tTys (ts.map (tyVal ca)))) :
    PE X (.Call (.Name "isinstance" p) [x, .Tuple es k2 p2] [] pos) (rE X.K fa ca C W (.isi a ts)) := by
  refine (pe_callB call_isiT hg hm PyProof.Rows.boot_isinstance (pa_cons ha (pa_cons (pe_tup hT) pa_nil) (starEach_of hx)) (by decide) (by decide) (starEach_of hx) rfl).weak ?_
  rintro σ H Q ⟨Hf, e, F, S, h⟩
  refine ⟨Hf, e, F, S, Go.mono (Go.bind (R1 := RP X.K fa ca σ) (r := evalP C a e) h) ?_⟩
  rintro v H1 ⟨p1, e1, Hf1, F1, Fv1, q1, f1, r1, h1⟩
  obtain ⟨d, ed, k⟩ := h1.opt
  simp only [Option.bind_eq_some_iff, Option.map_eq_some_iff] at ed
  obtain ⟨d', g1, b, g2, g3⟩ := ed
  subst g3
  have rd := r1.get (Same.refl _) f1.st g1
  obtain ⟨w, hw⟩ := isi_plain hne ht g2
  have hk := isi_kit (ca := ca) X.K ht g2 hw
  refine ⟨by rw [List.length_map, sizeLine_eq]; omega, fun q hq => ?_⟩
  have f := f1.st.new (o := .tup (ts.map (tyVal ca))) hq
  refine ⟨v, q, ts.map (tyVal ca), w, ts.map (tyVal' ca), b, rfl, upd_same, paired_tys ht, tyX_of (repD_mono (fun a o h => by rw [upd_ne (ne_of_none h hq)]; exact h) rd) hw, hk, k (.bl b) _ _ _ [] f ⟨rfl, rfl⟩⟩
/-! ### new lists -/
theorem s_cat {a b : TP} (ha : PE X x (rP X.K fa ca C W a)) (hb : PE X y (rP X.K fa ca C W b)) : PE X (.BinOp x .Add y pos) (rF X.K fa ca C W (.cat a b)) := by
  refine (pe_op op_cat ha hb).weak ?_
  rintro σ H Q ⟨Hf, e, F, S, h⟩
  refine ⟨Hf, e, F, S, Go.mono (Go.bind (R1 := RP X.K fa ca σ) (r := evalP C a e) h) ?_⟩
  rintro v1 H1 ⟨p1, e1, Hf1, F1, Fv1, q1, f1, r1, h1⟩
  refine ⟨Hf1, e1, F1, f1.st, Go.mono (Go.bind (R1 := RP X.K fa ca σ) (r := evalP C b e1) h1) ?_⟩
  rintro v2 H2 ⟨p2, e2, Hf2, F2, Fv2, q2, f2, r2, h2⟩
  obtain ⟨d, ed, k⟩ := h2.opt
  simp only [Option.bind_eq_some_iff] at ed
  obtain ⟨ds, g1, es, g2, g3⟩ := ed
  split at g3
  · rename_i hle
    have g3 := Option.some.inj g3
    subst g3
    obtain ⟨l, vs, rfl, z1, z2, z3⟩ := r1.list f2.ext.fz f2.st g1
    obtain ⟨m, ws, rfl, y1, y2, y3⟩ := r2.list (Same.refl _) f2.st g2
    have hle : ds.length + es.length ≤ sizeLine := by rw [← listLine_eq]; exact hle
    refine ⟨l, m, vs, ws, rfl, rfl, z1, y1, by rw [← repDs_len z3, ← repDs_len y3]; exact hle, fun p hp => ?_⟩
    exact k (p, vs ++ ws) Hf2 H2 F2 [] f2.st.fin ⟨rfl, repDs_append z3 y3, by rw [List.length_append]; exact hle, hp⟩
  · cases g3
theorem s_rep {a : TP} {n : TE} (ha : PE X x (rP X.K fa ca C W a)) (hb : PE X y (rE X.K fa ca C W n)) : PE X (.BinOp x .Mult y pos) (rF X.K fa ca C W (.rep a n)) := by
  refine (pe_op op_rep ha hb).weak ?_
  rintro σ H Q ⟨Hf, e, F, S, h⟩
  refine ⟨Hf, e, F, S, Go.mono (Go.bind (R1 := RP X.K fa ca σ) (r := evalP C a e) h) ?_⟩
  rintro v1 H1 ⟨p1, e1, Hf1, F1, Fv1, q1, f1, r1, h1⟩
  refine ⟨Hf1, e1, F1, f1.st, Go.mono (Go.bind (R1 := RD X.K fa ca) (r := evalE C n e1) h1) ?_⟩
  rintro v2 H2 ⟨d2, e2, Hf2, F2, Fv2, q2, f2, ⟨rfl, r2⟩, h2⟩
  obtain ⟨d, ed, k⟩ := h2.opt
  simp only [Option.bind_eq_some_iff] at ed
  obtain ⟨ds, g1, i, g2, g3⟩ := ed
  cases d2 with
  | int j =>
    have g2 := Option.some.inj g2
    subst g2
    split at g3
    · rename_i hle
      have g3 := Option.some.inj g3
      subst g3
      simp only [smallI, Bool.and_eq_true, decide_eq_true_eq] at hle
      obtain ⟨⟨s1, s2⟩, s3⟩ := hle
      obtain ⟨l, vs, rfl, z1, z2, z3⟩ := r1.list f2.ext.fz f2.st g1
      cases r2
      have hle : ds.length * j.toNat ≤ sizeLine := by rw [← listLine_eq]; exact s3
      refine ⟨l, j, vs, rfl, rfl, z1, by omega, by omega, by rw [← repDs_len z3]; exact hle, fun p hp => ?_⟩
      have q : repDs X.K fa ca Hf2 (List.replicate j.toNat ds).flatten (List.replicate j.toNat vs).flatten := repDs_rep z3 j.toNat
      refine k (p, _) Hf2 H2 F2 [] f2.st.fin ⟨rfl, q, ?_, hp⟩
      rw [PyProof.Rows.lm_len_rep_flat, Nat.mul_comm]; exact hle
    · cases g3
  | _ => cases g2
/-- a slice's part -/
def rOpt (K : PySem.W.Frag) (fa ca : Nat → Addr) (C : Cfg) (W : WX) (t : Option TE) : L2.TO := tG K fa ca W (fun _ _ a b Fv => Fv = [] ∧ a = b) (evalOpt C t)
theorem _root_.L2.PO.weak {X : Cx} {e : Option Expr} {t t' : L2.TO} (h : PO X e t) (k : ∀ σ H Q, t' σ H Q → t σ H Q) : PO X e t' := ⟨fun pins s σ H Q I q => h.run pins s σ H Q I (k σ H Q q)⟩
theorem s_opt_none : PO X none (rOpt X.K fa ca C W none) := by
  refine po_none.weak ?_
  rintro σ H Q ⟨Hf, e, F, S, h⟩
  exact h none Hf H F [] S.fin ⟨rfl, rfl⟩
theorem s_opt_some {a : TE} (ha : PE X x (rE X.K fa ca C W a)) : PO X (some x) (rOpt X.K fa ca C W (some a)) := by
  refine (po_some ha).weak ?_
  rintro σ H Q ⟨Hf, e, F, S, h⟩
  refine ⟨Hf, e, F, S, Go.mono (Go.bind (R1 := RD X.K fa ca) (r := evalE C a e) h) ?_⟩
  rintro v1 H1 ⟨d, e1, Hf1, F1, Fv1, q1, f1, ⟨rfl, r1⟩, h1⟩
  cases d with
  | int i => cases r1; exact ⟨i, rfl, h1 (some i) Hf1 H1 F1 [] f1.st.fin ⟨rfl, rfl⟩⟩
  | _ => exact h1.elim
theorem cutIx_eq (n d : Nat) (o : Option Int) : cutIx n d o = HT.sIx n d o := by
  cases o with
  | none => rfl
  | some v => rfl
theorem repDs_cut {K : PySem.W.Frag} {H : Hp} {xs : List D} {vs : List V} (r : repDs K fa ca H xs vs) (lo hi : Option Int) : repDs K fa ca H (cutD xs lo hi) (cutV vs lo hi) := by
  unfold cutD cutV
  simp only [cutIx_eq]
  rw [repDs_len r]
  exact repDs_take _ (repDs_drop _ r)
theorem cutD_len {α : Type} (xs : List α) (lo hi : Option Int) : (cutD xs lo hi).length ≤ xs.length := by
  unfold cutD
  rw [List.length_take, List.length_drop]
  omega
theorem s_slice {a : TP} {lo hi : Option TE} {l h : Option Expr} (ha : PE X x (rP X.K fa ca C W a)) (hl : PO X l (rOpt X.K fa ca C W lo)) (hh : PO X h (rOpt X.K fa ca C W hi)) :
    PE X (.Subscript x (.Slice l h none p2) pos) (rF X.K fa ca C W (.slice a lo hi)) := by
  refine (pe_slice sl_list ha hl hh).weak ?_
  rintro σ H Q ⟨Hf, e, F, S, h⟩
  refine ⟨Hf, e, F, S, Go.mono (Go.bind (R1 := RP X.K fa ca σ) (r := evalP C a e) h) ?_⟩
  rintro v1 H1 ⟨p1, e1, Hf1, F1, Fv1, q1, f1, r1, h1⟩
  refine ⟨Hf1, e1, F1, f1.st, Go.mono (Go.bind (R1 := fun _ _ a b Fv => Fv = [] ∧ a = b) (r := evalOpt C lo e1) h1) ?_⟩
  rintro o2 H2 ⟨d2, e2, Hf2, F2, Fv2, q2, f2, ⟨rfl, rfl⟩, h2⟩
  refine ⟨Hf2, e2, F2, f2.st, Go.mono (Go.bind (R1 := fun _ _ a b Fv => Fv = [] ∧ a = b) (r := evalOpt C hi e2) h2) ?_⟩
  rintro o3 H3 ⟨d3, e3, Hf3, F3, Fv3, q3, f3, ⟨rfl, rfl⟩, h3⟩
  obtain ⟨d, ed, k⟩ := h3.opt
  simp only [Option.map_eq_some_iff] at ed
  obtain ⟨xs, g1, g2⟩ := ed
  subst g2
  obtain ⟨p, vs, rfl, z1, z2, z3⟩ := r1.listS (f2.ext.fz.trans f3.ext.fz) f3.st g1
  exact ⟨p, vs, rfl, z1, fun q hq => k (q, _) Hf3 H3 F3 [] f3.st.fin ⟨rfl, repDs_cut z3 _ _, Nat.le_trans (cutD_len _ _ _) z2, hq⟩⟩
/-! ### list(..) -/
theorem s_list_seq {a : TE} (hg : Gl X "list") (hm : X.mg "list" = none) (ha : PE X x (rE X.K fa ca C W a)) (hx : notStar x = true) : PE X (.Call (.Name "list" p) [x] [] pos) (rF X.K fa ca C W (.list_ (.seq a))) := by
  refine (pe_callTy call_list_of hg hm PyProof.Rows.boot_list (pa_cons ha pa_nil (starEach_of hx)) (by decide) (by decide) (starEach_of hx) rfl).weak ?_
  rintro σ H Q ⟨Hf, e, F, S, h⟩
  refine ⟨Hf, e, F, S, Go.mono (Go.bind (R1 := RD X.K fa ca) (r := evalE C a e) h) ?_⟩
  rintro v1 H1 ⟨d, e1, Hf1, F1, Fv1, q1, f1, ⟨rfl, r1⟩, h1⟩
  obtain ⟨ds, ed, k⟩ := h1.opt
  cases d with
  | lst xs =>
    have ed := Option.some.inj ed
    subst ed
    obtain ⟨q, vs, rfl, z1, z2, z3⟩ := r1
    exact ⟨q, vs, rfl, .inl (SqL.of (f1.st.sub _ _ z1)), fun l hl => k (l, vs) Hf1 H1 F1 [] f1.st.fin ⟨rfl, z3, z2, hl⟩⟩
  | tup xs =>
    have ed := Option.some.inj ed
    subst ed
    obtain ⟨q, vs, rfl, z1, z2, z3⟩ := r1
    exact ⟨q, vs, rfl, .inr (seqT f1.st.sub z1), fun l hl => k (l, vs) Hf1 H1 F1 [] f1.st.fin ⟨rfl, z3, z2, hl⟩⟩
  | scr ns =>
    have ed := Option.some.inj ed
    subst ed
    obtain ⟨q, rfl, z1, z2⟩ := r1
    exact ⟨q, _, rfl, .inl (f1.st.sub.seq z1), fun l hl => k (l, _) Hf1 H1 F1 [] f1.st.fin ⟨rfl, repDs_ints ns, by simpa using z2, hl⟩⟩
  | _ => cases ed
theorem rangeD_rep {K : PySem.W.Frag} {H : Hp} (a b : Int) : repDs K fa ca H (rangeD a b) (rgV a b) := by
  have h : ∀ l : List Nat, repDs K fa ca H (l.map fun n => D.int (a + (n : Nat))) (l.map fun i => V.int (a + (i : Nat))) := by
    intro l
    induction l with
    | nil => rfl
    | cons n l ih => exact ⟨_, _, rfl, rfl, ih⟩
  exact h _
theorem s_list_rng {a : TE} (hc : X.calm = true) (hg : Gl X "list") (hm : X.mg "list" = none) (hg2 : Gl X "range") (hm2 : X.mg "range" = none) (ha : PE X x (rE X.K fa ca C W a)) (hx : notStar x = true) :
    PE X (.Call (.Name "list" p) [.Call (.Name "range" p2) [x] [] p3] [] pos) (rF X.K fa ca C W (.list_ (.rng1 a))) := by
  refine (pe_listRg hc hg hm (prg_1 hg2 hm2 ha (starEach_of hx)) rfl).weak ?_
  rintro σ H Q ⟨Hf, e, F, S, h⟩
  refine ⟨Hf, e, F, S, Go.mono (Go.bind (R1 := RD X.K fa ca) (r := evalE C a e) h) ?_⟩
  rintro v1 H1 ⟨d, e1, Hf1, F1, Fv1, q1, f1, ⟨rfl, r1⟩, h1⟩
  cases d with
  | int i =>
    cases r1
    by_cases hs : smallI i = true
    · have h1 : Go X.K fa ca W (RF X.K fa ca) (if smallI i = true then Res.ok (rangeD 0 i) e1 else .stuck) Hf1 H1 F1 σ (fun b H' => Q (V.ref b.1) (upd H' b.1 (HO.lst b.2))) := h1
      rw [if_pos hs] at h1
      simp only [smallI, Bool.and_eq_true, decide_eq_true_eq] at hs
      refine ⟨i, rfl, ⟨by omega, by omega, by omega, by omega, by omega⟩, fun q hq => h1 (q, rgV 0 i) Hf1 H1 F1 [] f1.st.fin ⟨rfl, rangeD_rep 0 i, ?_, hq⟩⟩
      rw [repDs_len (K := X.K) (fa := fa) (ca := ca) (H := H1) (rangeD_rep 0 i), rgV_length, sizeLine_eq]; omega
    · have h1 : Go X.K fa ca W (RF X.K fa ca) (if smallI i = true then Res.ok (rangeD 0 i) e1 else .stuck) Hf1 H1 F1 σ (fun b H' => Q (V.ref b.1) (upd H' b.1 (HO.lst b.2))) := h1
      rw [if_neg hs] at h1; exact h1.elim
  | _ => exact h1.elim
end
end TL

set_option maxRecDepth 100000
set_option maxHeartbeats 1000000
namespace TL
open PySem PySem.Spec PyProof.Rows L2
/-! ### what is walked -/
structure Wk (K : PySem.W.Frag) (fa ca : Nat → Addr) (J : It) (ds : List D) (Hf : Hp) : Prop where
  go : ∀ i H, Same Hf H → i < ds.length → J.go i H
  yld : ∀ i H x H' d, Same Hf H → ds[i]? = some d → J.yld i H x H' → (H' = H ∧ repD K fa ca Hf d x) ∨ ∃ T vs, H T = none ∧ H' = upd H T (.tup vs) ∧ ∀ Hg, Same Hf Hg → Hg T = none → repD K fa ca (upd Hg T (.tup vs)) d x
  stop : ∀ i H, Same Hf H → ds.length ≤ i → J.stop i H
def RW (K : PySem.W.Frag) (fa ca : Nat → Addr) (Hf H : Hp) (ds : List D) (J : It) (Fv : List Addr) : Prop := Fv = [] ∧ ds.length ≤ sizeLine ∧ Wk K fa ca J ds Hf
def rI (K : PySem.W.Frag) (fa ca : Nat → Addr) (C : Cfg) (W : WX) (t : TI) : L2.TI := tG K fa ca W (RW K fa ca) (evalI C t)
theorem _root_.L2.PI.weak {X : Cx} {tg e : Expr} {t t' : L2.TI} (h : PI X tg e t) (k : ∀ σ H Q, t' σ H Q → t σ H Q) : PI X tg e t' := ⟨fun pins s σ H Q I q => h.run pins s σ H Q I (k σ H Q q)⟩
theorem _root_.L2.PI.or {X : Cx} {tg e : Expr} {t t' : L2.TI} (h : PI X tg e t) (h' : PI X tg e t') : PI X tg e (fun σ H Q => t σ H Q ∨ t' σ H Q) := ⟨fun pins s σ H Q I q => q.elim (fun q => h.run pins s σ H Q I q) fun q => h'.run pins s σ H Q I q⟩
section
variable {K : PySem.W.Frag} {fa ca : Nat → Addr} {Hf H : Hp}
theorem enumD_len (ds : List D) : (enumD ds).length = ds.length := by simp [enumD]
theorem zipD_len (ds es : List D) : (zipD ds es).length = min ds.length es.length := by simp [zipD]
theorem rangeD_len (i j : Int) : (rangeD i j).length = (j - i).toNat := by simp [rangeD]
theorem sqL_inj {a : Addr} {xs ys : List V} {X : Cx} {pins : List (Addr × Obj)} {σ : L2.St} {s : Shared} (I : L2.Inv X pins σ H s) (h : SqL X.K H a xs) (h' : SqL X.K H a ys) : xs = ys := I.list_inj h h'
/-- a list's items, one after another -/
theorem wk_list {a : Addr} {vs : List V} {ds : List D} (h : ∀ H, Same Hf H → SqL K H a vs) (r : repDs K fa ca Hf ds vs) : Wk K fa ca (Itl K a) ds Hf where
  go := fun i H sm hi => by
    rw [repDs_len r] at hi
    exact ⟨vs, vs[i], h H sm, List.getElem?_eq_getElem hi⟩
  yld := fun i H x H' d sm hd ⟨e, y⟩ => by
    obtain ⟨v, h1, h2⟩ := repDs_get r hd
    have := y vs (h H sm)
    rw [h1] at this
    exact .inl ⟨e, by rw [← Option.some.inj this]; exact h2⟩
  stop := fun i H sm hi => ⟨vs, h H sm, by rw [← repDs_len r]; exact hi⟩
theorem wk_tup {a : Addr} {vs : List V} {ds : List D} (h : ∀ H, Same Hf H → SqT K H a vs) (r : repDs K fa ca Hf ds vs) : Wk K fa ca (Itt K a) ds Hf where
  go := fun i H sm hi => by
    rw [repDs_len r] at hi
    exact ⟨vs, vs[i], h H sm, List.getElem?_eq_getElem hi⟩
  yld := fun i H x H' d sm hd ⟨e, y⟩ => by
    obtain ⟨v, h1, h2⟩ := repDs_get r hd
    have := y vs (h H sm)
    rw [h1] at this
    exact .inl ⟨e, by rw [← Option.some.inj this]; exact h2⟩
  stop := fun i H sm hi => ⟨vs, h H sm, by rw [← repDs_len r]; exact hi⟩
theorem wk_range {lo hi : Int} : Wk K fa ca (Itr lo (hi - lo).toNat) (rangeD lo hi) Hf where
  go := fun i H sm hi => by rw [rangeD_len] at hi; exact hi
  yld := fun i H x H' d sm hd ⟨e, y⟩ => by
    refine .inl ⟨e, ?_⟩
    simp only [rangeD, List.getElem?_map, Option.map_eq_some_iff] at hd
    obtain ⟨n, h1, h2⟩ := hd
    obtain ⟨h3, h4⟩ := List.getElem?_eq_some_iff.mp h1
    rw [List.getElem_range] at h4
    subst h4 h2 y
    rfl
  stop := fun i H sm hi => by rw [rangeD_len] at hi; exact hi
theorem wk_enum {a : Addr} {vs : List V} {ds : List D} (h : ∀ H, Same Hf H → SqL K H a vs) (r : repDs K fa ca Hf ds vs) : Wk K fa ca (Ite K a) (enumD ds) Hf where
  go := fun i H sm hi => by
    have hi : i < vs.length := by rw [← repDs_len r]; simpa [enumD] using hi
    exact ⟨vs, vs[i], h H sm, List.getElem?_eq_getElem hi⟩
  yld := fun i H x H' d sm hd ⟨T, v, e1, e2, e3, e4⟩ => by
    simp only [enumD, List.getElem?_map, Option.map_eq_some_iff] at hd
    obtain ⟨⟨d0, n⟩, h1, h2⟩ := hd
    rw [List.getElem?_zipIdx, Option.map_eq_some_iff] at h1
    obtain ⟨d1, h3, h4⟩ := h1
    have h4 := Prod.mk.inj h4
    obtain ⟨rfl, h5⟩ := h4
    have h5 : n = i := by omega
    subst h5 h2
    obtain ⟨w, q1, q2⟩ := repDs_get r h3
    have := e4 vs (h H sm)
    rw [q1] at this
    have := Option.some.inj this
    subst this
    refine .inr ⟨T, _, e2, e3, fun Hg sg hg => ⟨T, _, e1, SqT.of upd_same, by rw [sizeLine_eq]; simp, _, _, rfl, rfl, _, _, rfl, ?_, rfl⟩⟩
    exact repD_mono (sg.trans fun b o hb => by rw [upd_ne (ne_of_none hb hg)]; exact hb) q2
  stop := fun i H sm hi => ⟨vs, h H sm, by rw [← repDs_len r]; simpa [enumD] using hi⟩
end
section
variable {X : Cx} {fa ca : Nat → Addr} {C : Cfg} {W : WX} {x y z tg : Expr} {xs : List Expr} {pos p p2 p3 : Pos}
theorem i_seq {a : TE} (ha : PE X x (rE X.K fa ca C W a)) : PI X tg x (rI X.K fa ca C W (.seq a)) := by
  refine (PI.or (pi_list ha) (pi_tup ha)).weak ?_
  rintro σ H Q ⟨Hf, e, F, S, h⟩
  have h0 : Go X.K fa ca W (RW X.K fa ca) ((evalE C a e).bind fun x e1 => ofOpt x.items e1) Hf H F σ Q := h
  cases q : evalE C a e with
  | stuck => rw [q] at h0; exact h0.elim
  | exc c d e1 =>
    refine .inl ⟨Hf, e, F, S, ?_⟩
    rw [q] at h0 ⊢
    exact h0
  | ok d e1 =>
    cases d with
    | lst ds =>
      refine .inl ⟨Hf, e, F, S, Go.mono (Go.bind (R1 := RD X.K fa ca) h0) ?_⟩
      rintro v1 H1 ⟨d', e1', Hf1, F1, Fv1, q1, f1, ⟨rfl, r1⟩, h1⟩
      rw [q] at q1
      cases q1
      obtain ⟨b, vs, rfl, z1, z2, z3⟩ := r1
      exact ⟨b, rfl, ⟨vs, SqL.of (f1.st.sub _ _ z1)⟩, h1 (Itl X.K b) Hf1 H1 F1 [] f1.st.fin ⟨rfl, z2, wk_list (fun H sm => SqL.of (sm _ _ z1)) z3⟩⟩
    | scr ns =>
      refine .inl ⟨Hf, e, F, S, Go.mono (Go.bind (R1 := RD X.K fa ca) h0) ?_⟩
      rintro v1 H1 ⟨d', e1', Hf1, F1, Fv1, q1, f1, ⟨rfl, r1⟩, h1⟩
      rw [q] at q1
      cases q1
      obtain ⟨b, rfl, z1, z2⟩ := r1
      exact ⟨b, rfl, ⟨_, f1.st.sub.seq z1⟩, h1 (Itl X.K b) Hf1 H1 F1 [] f1.st.fin ⟨rfl, by simpa using z2, wk_list (fun H sm => sm.seq z1) (repDs_ints ns)⟩⟩
    | tup ds =>
      refine .inr ⟨Hf, e, F, S, Go.mono (Go.bind (R1 := RD X.K fa ca) h0) ?_⟩
      rintro v1 H1 ⟨d', e1', Hf1, F1, Fv1, q1, f1, ⟨rfl, r1⟩, h1⟩
      rw [q] at q1
      cases q1
      obtain ⟨b, vs, rfl, z1, z2, z3⟩ := r1
      exact ⟨b, rfl, ⟨vs, seqT f1.st.sub z1⟩, h1 (Itt X.K b) Hf1 H1 F1 [] f1.st.fin ⟨rfl, z2, wk_tup (fun H sm => seqT sm z1) z3⟩⟩
    | _ => rw [q] at h0; exact h0.elim
theorem one_arg {a : TE} (ha : PE X x (rE X.K fa ca C W a)) (hx : notStar x = true) : PA X [x] (tCons (rE X.K fa ca C W a) tNil) := pa_cons ha pa_nil (starEach_of hx)
theorem i_rng1 {a : TE} (hg : Gl X "range") (hm : X.mg "range" = none) (ha : PE X x (rE X.K fa ca C W a)) (hx : notStar x = true) : PI X tg (.Call (.Name "range" p) [x] [] pos) (rI X.K fa ca C W (.rng1 a)) := by
  refine (pi_range1 hg hm (one_arg ha hx) (starEach_of hx)).weak ?_
  rintro σ H Q ⟨Hf, e, F, S, h⟩
  refine ⟨Hf, e, F, S, Go.mono (Go.bind (R1 := RD X.K fa ca) (r := evalE C a e) h) ?_⟩
  rintro v1 H1 ⟨d, e1, Hf1, F1, Fv1, q1, f1, ⟨rfl, r1⟩, h1⟩
  cases d with
  | int j =>
    cases r1
    have h1 : Go X.K fa ca W (RW X.K fa ca) (if smallI j = true then Res.ok (rangeD 0 j) e1 else .stuck) Hf1 H1 F1 σ Q := h1
    by_cases hs : smallI j = true
    · rw [if_pos hs] at h1
      simp only [smallI, Bool.and_eq_true, decide_eq_true_eq] at hs
      have wk : Wk X.K fa ca (Itr 0 j.toNat) (rangeD 0 j) Hf1 := by
        have := wk_range (K := X.K) (fa := fa) (ca := ca) (lo := 0) (hi := j) (Hf := Hf1)
        rwa [Int.sub_zero] at this
      exact ⟨j, rfl, by omega, by omega, h1 _ Hf1 H1 F1 [] f1.st.fin ⟨rfl, by rw [rangeD_len, sizeLine_eq]; omega, wk⟩⟩
    · rw [if_neg hs] at h1; exact h1.elim
  | _ => exact h1.elim
theorem i_rng2 {a b : TE} (hg : Gl X "range") (hm : X.mg "range" = none) (ha : PE X x (rE X.K fa ca C W a)) (hx : notStar x = true) (hb : PE X y (rE X.K fa ca C W b)) (hy : notStar y = true) : PI X tg (.Call (.Name "range" p) [x, y] [] pos) (rI X.K fa ca C W (.rng2 a b)) := by
  refine (pi_range2 hg hm (pa_cons ha (one_arg hb hy) (starEach_of hx)) (by rw [starEach_of hx, starEach_of hy]; rfl) (by rw [starEach_of hy]; rfl)).weak ?_
  rintro σ H Q ⟨Hf, e, F, S, h⟩
  refine ⟨Hf, e, F, S, Go.mono (Go.bind (R1 := RD X.K fa ca) (r := evalE C a e) h) ?_⟩
  rintro v1 H1 ⟨d, e1, Hf1, F1, Fv1, q1, f1, ⟨rfl, r1⟩, h1⟩
  refine ⟨Hf1, e1, F1, f1.st, Go.mono (Go.bind (R1 := RD X.K fa ca) (r := evalE C b e1) h1) ?_⟩
  rintro v2 H2 ⟨d2, e2, Hf2, F2, Fv2, q2, f2, ⟨rfl, r2⟩, h2⟩
  cases d with
  | int i =>
    cases d2 with
    | int j =>
      cases r1; cases r2
      have h2 : Go X.K fa ca W (RW X.K fa ca) (if (smallI i && smallI j) = true then Res.ok (rangeD i j) e2 else .stuck) Hf2 H2 F2 σ Q := h2
      by_cases hs : (smallI i && smallI j) = true
      · rw [if_pos hs] at h2
        simp only [smallI, Bool.and_eq_true, decide_eq_true_eq] at hs
        by_cases hl : (rangeD i j).length ≤ sizeLine
        · exact ⟨i, j, rfl, ⟨by omega, by omega, by omega, by omega⟩, h2 _ Hf2 H2 F2 [] f2.st.fin ⟨rfl, hl, wk_range⟩⟩
        · exact (hl (by rw [rangeD_len, sizeLine_eq]; omega)).elim
      · rw [if_neg hs] at h2; exact h2.elim
    | _ => exact h2.elim
  | _ => cases d2 <;> exact h2.elim
theorem i_enum {a : TE} {elts : List Expr} {kk : Nat} {tpos : Pos} (hg : Gl X "enumerate") (hm : X.mg "enumerate" = none) (ha : PE X x (rE X.K fa ca C W a)) (hx : notStar x = true) : PI X (.Tuple elts kk tpos) (.Call (.Name "enumerate" p) [x] [] pos) (rI X.K fa ca C W (.enum a)) := by
  refine (pi_enum hg hm (one_arg ha hx) (starEach_of hx)).weak ?_
  rintro σ H Q ⟨Hf, e, F, S, h⟩
  refine ⟨Hf, e, F, S, Go.mono (Go.bind (R1 := RD X.K fa ca) (r := evalE C a e) h) ?_⟩
  rintro v1 H1 ⟨d, e1, Hf1, F1, Fv1, q1, f1, ⟨rfl, r1⟩, h1⟩
  cases d with
  | lst ds =>
    obtain ⟨b, vs, rfl, z1, z2, z3⟩ := r1
    exact ⟨b, vs, rfl, SqL.of (f1.st.sub _ _ z1), h1 (Ite X.K b) Hf1 H1 F1 [] f1.st.fin ⟨rfl, by rw [enumD_len]; exact z2, wk_enum (fun H sm => SqL.of (sm _ _ z1)) z3⟩⟩
  | _ => exact h1.elim
end
end TL

set_option maxRecDepth 100000
set_option maxHeartbeats 1000000
namespace TL
open PySem PySem.Spec PyProof.Rows L2
section
variable {K : PySem.W.Frag} {fa ca : Nat → Addr} {Hf H : Hp}
/-! ### zip -/
theorem seqD_rep {d : D} {v : V} {ds : List D} (h : seqD d = some ds) (r : repD K fa ca Hf d v) : ∃ (t : Bool) (a : Addr) (vs : List V), v = .ref a ∧ (∀ H, Same Hf H → Sq t K H a vs) ∧ ds.length ≤ sizeLine ∧ repDs K fa ca Hf ds vs := by
  cases d with
  | lst xs =>
    cases h
    obtain ⟨a, vs, rfl, h1, h2, h3⟩ := r
    exact ⟨false, a, vs, rfl, fun H sm => SqL.of (sm _ _ h1), h2, h3⟩
  | tup xs =>
    cases h
    obtain ⟨a, vs, rfl, h1, h2, h3⟩ := r
    exact ⟨true, a, vs, rfl, fun H sm => seqT sm h1, h2, h3⟩
  | _ => cases h
theorem wk_zz {st t1 t2 : Bool} {a b : Addr} {vs ws : List V} {ds es : List D} (hst : st = true → ds.length = es.length) (h : ∀ H, Same Hf H → Sq t1 K H a vs) (r : repDs K fa ca Hf ds vs) (h' : ∀ H, Same Hf H → Sq t2 K H b ws) (r' : repDs K fa ca Hf es ws) : Wk K fa ca (Itzz st t1 t2 K a b) (zipD ds es) Hf where
  go := fun i H sm hi => by
    have hi : i < ds.length ∧ i < es.length := by rw [zipD_len] at hi; omega
    have h1 : i < vs.length := by rw [← repDs_len r]; exact hi.1
    have h2 : i < ws.length := by rw [← repDs_len r']; exact hi.2
    exact ⟨vs, ws, vs[i], ws[i], h H sm, h' H sm, List.getElem?_eq_getElem h1, List.getElem?_eq_getElem h2⟩
  yld := fun i H x H' d sm hd ⟨T, v, w, e1, e2, e3, e4, e5⟩ => by
    simp only [zipD, List.getElem?_map, Option.map_eq_some_iff] at hd
    obtain ⟨⟨d1, d2⟩, h1, h2⟩ := hd
    rw [List.getElem?_zip_eq_some] at h1
    obtain ⟨h3, h4⟩ := h1
    subst h2
    obtain ⟨u1, q1, q2⟩ := repDs_get r h3
    obtain ⟨u2, q3, q4⟩ := repDs_get r' h4
    have t1 := e4 vs (h H sm)
    have t2 := e5 ws (h' H sm)
    rw [q1] at t1
    rw [q3] at t2
    have t1 := Option.some.inj t1
    have t2 := Option.some.inj t2
    subst t1 t2
    refine .inr ⟨T, _, e2, e3, fun Hg sg hg => ⟨T, _, e1, SqT.of upd_same, by rw [sizeLine_eq]; simp, _, _, rfl, ?_, _, _, rfl, ?_, rfl⟩⟩
    · exact repD_mono (sg.trans fun b o hb => by rw [upd_ne (ne_of_none hb hg)]; exact hb) q2
    · exact repD_mono (sg.trans fun b o hb => by rw [upd_ne (ne_of_none hb hg)]; exact hb) q4
  stop := fun i H sm hi => by
    refine ⟨vs, ws, h H sm, h' H sm, ?_⟩
    rw [← repDs_len r, ← repDs_len r']
    have hi : min ds.length es.length ≤ i := by simpa [zipD] using hi
    cases st with
    | true => rw [if_pos rfl]; have := hst rfl; omega
    | false => rw [if_neg Bool.false_ne_true]; omega
/-! ### sorted -/
theorem perm_sort {ns ns' : List Int} (p : ns'.Perm ns) (s : ns'.Pairwise (· ≤ ·)) : ns' = ns.mergeSort fun a b => decide (a ≤ b) := by
  refine List.Perm.eq_of_pairwise (le := (· ≤ ·)) (fun a b _ _ h1 h2 => Int.le_antisymm h1 h2) s ?_ (p.trans (List.mergeSort_perm ns _).symm)
  have := List.pairwise_mergeSort (le := fun a b : Int => decide (a ≤ b)) (fun a b c => by simp only [decide_eq_true_eq]; omega) (fun a b => by simp only [Bool.or_eq_true, decide_eq_true_eq]; omega) ns
  exact this.imp fun h => by simpa using h
theorem pys_ints : ∀ b : List Int, D.pys (b.map D.int) = b.map PyData.int
  | [] => by simp [D.pys]
  | x :: b => by simp [D.pys, D.py, pys_ints b]
theorem oks_ints (n : Nat) : ∀ b : List Int, D.oks n (b.map D.int) = true
  | [] => by simp [D.oks]
  | x :: b => by simp [D.oks, D.ok, oks_ints n b]
theorem intssOf_eq : ∀ {xs : List D} {l : List (List Int)}, intssOf xs = some l → xs = l.map fun b => .lst (b.map .int)
  | [], l, h => by cases h; rfl
  | .lst ys :: r, l, h => by
    simp only [intssOf, Option.bind_eq_some_iff, Option.map_eq_some_iff] at h
    obtain ⟨ns, h1, l', h2, h3⟩ := h
    subst h3
    have : ys = ns.map .int := by
      clear h2
      induction ys generalizing ns with
      | nil => cases h1; rfl
      | cons y ys ih =>
        cases y with
        | int i =>
          simp only [intsOf, Option.map_eq_some_iff] at h1
          obtain ⟨m, h4, h5⟩ := h1
          subst h5
          rw [ih _ h4]; rfl
        | _ => cases h1
    rw [intssOf_eq h2, this]; rfl
  | .non :: _, _, h => by cases h
  | .bl _ :: _, _, h => by cases h
  | .int _ :: _, _, h => by cases h
  | .str _ :: _, _, h => by cases h
  | .tup _ :: _, _, h => by cases h
  | .dic :: _, _, h => by cases h
  | .fn _ :: _, _, h => by cases h
  | .exc _ _ :: _, _, h => by cases h
  | .scr _ :: _, _, h => by cases h
def rSrt (K : PySem.W.Frag) (fa ca : Nat → Addr) : List V → Hp → VK → Prop := fun vs H Q => ∃ (a : Addr) (xs : List V) (ds es : List D) (Hf : Hp), vs = [V.ref a] ∧ H a = some (.lst xs) ∧ Same Hf H ∧ repDs K fa ca Hf ds xs ∧ sortD ds = some es ∧
  ∀ p ws, repDs K fa ca Hf es ws → H p = none → Q (.ref p) (upd H p (.lst ws))
theorem each_of {R : Value → List Int → Prop} {f : V → List Int → Prop} (hR : ∀ v b, R v b ↔ ∃ y, RelV y v ∧ f y b) : ∀ {out : List Value} {bs : List (List Int)}, PySem.W.EachIs R out bs → ∃ ws, Vals ws out ∧ PySem.W.EachIs f ws bs
  | _, _, .nil => ⟨[], .nil, .nil⟩
  | _, _, .cons h t => by
    obtain ⟨y, h1, h2⟩ := (hR _ _).mp h
    obtain ⟨ws, h3, h4⟩ := each_of hR t
    exact ⟨y :: ws, .cons h1 h3, .cons h2 h4⟩
theorem each_reps : ∀ {ws : List V} {bs : List (List Int)}, PySem.W.EachIs (fun y b => repD K fa ca Hf (.lst (b.map .int)) y) ws bs → repDs K fa ca Hf (bs.map fun b => .lst (b.map .int)) ws
  | _, _, .nil => rfl
  | _, _, .cons h t => ⟨_, _, rfl, h, each_reps t⟩
theorem reps_each : ∀ {bs : List (List Int)} {ws : List V} {us : List Value}, repDs K fa ca Hf (bs.map fun b => .lst (b.map .int)) ws → Vals ws us → PySem.W.EachIs (fun v b => ∃ y, RelV y v ∧ repD K fa ca Hf (.lst (b.map .int)) y) us bs
  | [], _, _, h, r => by cases h; cases r; exact .nil
  | b :: bs, _, _, ⟨v, r, h1, h2, h3⟩, q => by
    subst h1
    cases q with
    | cons q1 q2 => exact .cons ⟨v, q1, h2⟩ (reps_each h3 q2)
theorem cr_srt {X : Cx} (hu : X.A.units + 65 < cLine) : CallR X (.builtin "sorted") (rSrt X.K fa ca) := by
  intro pins s σ H vs us Q I r h
  obtain ⟨a, xs, ds, es, Hf, rfl, ha, sm, rep, hs, q⟩ := h
  unfold sortD at hs
  cases hi : intsOf ds with
  | some ns =>
    rw [hi] at hs
    have hs := Option.some.inj hs
    subst hs
    obtain ⟨e1, e2⟩ := intsOf_rep hi rep
    subst e1
    refine cr_sortedI pins s σ H [V.ref a] us Q I r ⟨a, ns, rfl, SqL.of ha, fun ns' p hp hs' hn => ?_⟩
    rw [perm_sort hp hs']
    exact q p _ (repDs_ints _) hn
  | none =>
    rw [hi] at hs
    simp only [Option.map_eq_some_iff] at hs
    obtain ⟨bs, h1, h2⟩ := hs
    subst h2
    have e := intssOf_eq h1
    subst e
    obtain ⟨hz, its, n, rv, hl, ea⟩ := I.lstM ha
    rw [Vals.ref1 r]
    have each := reps_each rep rv
    have enc : ∀ b : List Int, (PyData.list (b.map .int)) = (D.lst (b.map .int)).py := fun b => by simp [D.py, pys_ints]
    have er : PySem.W.EachIs (fun v b => ∃ as, Reads s.heap v (PyData.list (List.map PyData.int b)) as) its bs := each.mono fun v b ⟨y, h3, h4⟩ => by
      rw [enc]
      exact Dp.reads I _ _ _ (dp_of (n := 1) (by simp [D.ok, oks_ints]) (repD_mono sm h4)) h3
    have al : PySem.W.AllAlike (bs.map fun b : List Int => PyData.list (b.map .int)) := PySem.W.AllAlike.of fun b b' => by simp only [PySem.W.alike]; exact PySem.W.alike_ints b b'
    have so : PySem.W.Sortable (bs.map fun b : List Int => PyData.list (b.map .int)) := PySem.W.Sortable.others fun b => ⟨by simp, fun xs => by simp⟩
    have hL : bs.length ≤ sizeLine := by rw [← each.length, ← hl]; exact hz
    have hd : ∀ b : List Int, b ∈ bs → X.A.units + 2 + (PyData.list (b.map .int)).depth < cLine := fun b _ => by
      have : (PyData.list (b.map .int)).depth = 1 := by simp only [PyData.depth, PySem.W.depth_ints]
      rw [this]; omega
    refine PySem.W.sorted_data (enc := fun b : List Int => .list (b.map .int)) (bs := bs) ⟨_, ea, rfl, _, rfl⟩ each er al so hL hd fun out hlen ho => ?_
    have e0 := PySem.W.dataLe_rows (fun b : List Int => b)
    rw [e0] at ho
    obtain ⟨ws, h3, h4⟩ := each_of (fun v b => Iff.rfl) ho
    obtain ⟨ep, he'⟩ := PyProof.Rows.sortedAll_at s.heap its out.toArray
    refine ⟨.ref _, upd H (s.heap.objs.size + 1) (.lst ws), I.laid (t' := s.toks) (fun _ _ => PyProof.Rows.sortedAll_old) (Nat.le_succ _) ⟨?_, out, ep, h3, he'⟩, rfl, q _ _ (each_reps h4) (I.hok.fresh (Nat.le_succ _))⟩
    rw [h3.length, hlen, ← each.length, ← hl]; exact hz
theorem intsOf_eq : ∀ {ds : List D} {ns : List Int}, intsOf ds = some ns → ds = ns.map .int
  | [], _, h => by cases h; rfl
  | .int i :: r, l, h => by
    simp only [intsOf, Option.map_eq_some_iff] at h
    obtain ⟨m, h4, h5⟩ := h
    subst h5
    rw [intsOf_eq h4]; rfl
  | .non :: _, _, h => by cases h
  | .bl _ :: _, _, h => by cases h
  | .lst _ :: _, _, h => by cases h
  | .str _ :: _, _, h => by cases h
  | .tup _ :: _, _, h => by cases h
  | .dic :: _, _, h => by cases h
  | .fn _ :: _, _, h => by cases h
  | .exc _ _ :: _, _, h => by cases h
  | .scr _ :: _, _, h => by cases h
end
section
variable {X : Cx} {fa ca : Nat → Addr} {C : Cfg} {W : WX} {x y z tg : Expr} {xs : List Expr} {pos p p2 p3 kp cp : Pos}
theorem sortD_len {ds es : List D} (h : sortD ds = some es) : es.length = ds.length := by
  unfold sortD at h
  cases hi : intsOf ds with
  | some ns =>
    rw [hi] at h
    have h := Option.some.inj h
    subst h
    have := intsOf_eq hi
    rw [this]; simp [List.length_mergeSort]
  | none =>
    rw [hi] at h
    simp only [Option.map_eq_some_iff] at h
    obtain ⟨bs, h1, h2⟩ := h
    subst h2
    rw [intssOf_eq h1]; simp [List.length_mergeSort]
theorem s_sorted (hu : X.A.units + 65 < cLine) {a : TP} (hg : Gl X "sorted") (hm : X.mg "sorted" = none) (ha : PE X x (rP X.K fa ca C W a)) (hx : notStar x = true) : PE X (.Call (.Name "sorted" p) [x] [] pos) (rF X.K fa ca C W (.sorted a)) := by
  refine (pe_callB (cr_srt (fa := fa) (ca := ca) hu) hg hm PyProof.Rows.boot_sorted (pa_cons ha pa_nil (starEach_of hx)) (by decide) (by decide) (starEach_of hx) rfl).weak ?_
  rintro σ H Q ⟨Hf, e, F, S, h⟩
  refine ⟨Hf, e, F, S, Go.mono (Go.bind (R1 := RP X.K fa ca σ) (r := evalP C a e) h) ?_⟩
  rintro v1 H1 ⟨p1, e1, Hf1, F1, Fv1, q1, f1, r1, h1⟩
  obtain ⟨d, ed, k⟩ := h1.opt
  simp only [Option.bind_eq_some_iff] at ed
  obtain ⟨xs, g1, g2⟩ := ed
  obtain ⟨l, vs, rfl, z1, z2, z3⟩ := r1.list (Same.refl _) f1.st g1
  exact ⟨l, vs, xs, d, Hf1, rfl, z1, f1.st.sub, z3, g2, fun q ws hw hq => k (q, ws) Hf1 H1 F1 [] f1.st.fin ⟨rfl, hw, by rw [sortD_len g2]; exact z2, hq⟩⟩
theorem sumL_rep {K : PySem.W.Frag} {Hf H : Hp} (sm : Same Hf H) : ∀ {xs ys : List D} {vs : List V}, sumL xs = some ys → repDs K fa ca Hf xs vs → ∃ yss : List (List V), vs.length = yss.length ∧ (∀ (j : Nat) (x : V) (ys : List V), vs[j]? = some x → yss[j]? = some ys → ∃ b, x = V.ref b ∧ H b = some (HO.lst ys)) ∧ repDs K fa ca Hf ys yss.flatten
  | [], ys, vs, h, r => by cases h; cases r; exact ⟨[], rfl, fun j x ys h => by simp at h, rfl⟩
  | .lst zs :: xs, ys, vs, h, ⟨v, r, h1, h2, h3⟩ => by
    subst h1
    simp only [sumL, Option.map_eq_some_iff] at h
    obtain ⟨ws, h4, h5⟩ := h
    subst h5
    obtain ⟨yss, i1, i2, i3⟩ := sumL_rep sm h4 h3
    obtain ⟨a, us, rfl, k1, k2, k3⟩ := h2
    refine ⟨us :: yss, by simp [i1], fun j x zs e1 e2 => ?_, by simpa using repDs_append k3 i3⟩
    cases j with
    | zero =>
      simp at e1 e2
      subst e1 e2
      exact ⟨a, rfl, sm _ _ k1⟩
    | succ j => exact i2 j x zs (by simpa using e1) (by simpa using e2)
  | .non :: _, _, _, h, _ => by cases h
  | .bl _ :: _, _, _, h, _ => by cases h
  | .int _ :: _, _, _, h, _ => by cases h
  | .str _ :: _, _, _, h, _ => by cases h
  | .tup _ :: _, _, _, h, _ => by cases h
  | .dic :: _, _, _, h, _ => by cases h
  | .fn _ :: _, _, _, h, _ => by cases h
  | .exc _ _ :: _, _, _, h, _ => by cases h
  | .scr _ :: _, _, _, h, _ => by cases h
theorem s_sumL (hc : X.calm = true) {a : TP} (hg : Gl X "sum") (hm : X.mg "sum" = none) (ha : PE X x (rP X.K fa ca C W a)) (hx : notStar x = true) : PE X (.Call (.Name "sum" p) [x, .List [] p2] [] pos) (rF X.K fa ca C W (.sumL a)) := by
  refine (pe_callB (cr_sumL hc) hg hm PyProof.Rows.boot_sum (pa_cons ha (pa_cons (pe_lst pa_nil) pa_nil) (starEach_of hx)) (by decide) (by decide) (starEach_of hx) rfl).weak ?_
  rintro σ H Q ⟨Hf, e, F, S, h⟩
  refine ⟨Hf, e, F, S, Go.mono (Go.bind (R1 := RP X.K fa ca σ) (r := evalP C a e) h) ?_⟩
  rintro v1 H1 ⟨p1, e1, Hf1, F1, Fv1, q1, f1, r1, h1⟩
  obtain ⟨d, ed, k⟩ := h1.opt
  simp only [Option.bind_eq_some_iff] at ed
  obtain ⟨xs, g1, ys, g2, g3⟩ := ed
  split at g3
  · rename_i hle
    have g3 := Option.some.inj g3
    subst g3
    rw [listLine_eq] at hle
    obtain ⟨l, vs, rfl, z1, z2, z3⟩ := r1.list (Same.refl _) f1.st g1
    refine ⟨by simp, fun z hz => ?_⟩
    have sm2 : Same H1 (upd H1 z (.lst [])) := fun b o hb => by rw [upd_ne (ne_of_none hb hz)]; exact hb
    obtain ⟨yss, i1, i2, i3⟩ := sumL_rep (f1.st.sub.trans sm2) g2 z3
    have hlen := repDs_len i3
    refine ⟨l, z, vs, [], yss, rfl, sm2 _ _ z1, upd_same, i1, i2, ?_, fun e => ?_, fun _ q hq => ?_⟩
    · rw [List.nil_append, ← hlen]; exact hle
    · subst e
      have : yss = [] := List.eq_nil_of_length_eq_zero (by rw [← i1]; rfl)
      subst this
      exact k (z, []) Hf1 H1 F1 [] f1.st.fin ⟨rfl, i3, hle, hz⟩
    · have f := f1.st.new (o := .lst []) hz
      rw [List.nil_append]
      exact k (q, yss.flatten) _ _ F1 [] f ⟨rfl, repDs_mono f.ext.fz i3, hle, hq⟩
  · cases g3
theorem i_zip {st : Bool} {a b : TE} (hz : PI X tg z (iZz st X.K (tCons (rE X.K fa ca C W a) (tCons (rE X.K fa ca C W b) tNil)))) : PI X tg z (rI X.K fa ca C W (.zip a b st)) := by
  refine hz.weak ?_
  rintro σ H Q ⟨Hf, e, F, S, h⟩
  refine ⟨Hf, e, F, S, Go.mono (Go.bind (R1 := RD X.K fa ca) (r := evalE C a e) h) ?_⟩
  rintro v1 H1 ⟨d, e1, Hf1, F1, Fv1, q1, f1, ⟨rfl, r1⟩, h1⟩
  refine ⟨Hf1, e1, F1, f1.st, Go.mono (Go.bind (R1 := RD X.K fa ca) (r := evalE C b e1) h1) ?_⟩
  rintro v2 H2 ⟨d2, e2, Hf2, F2, Fv2, q2, f2, ⟨rfl, r2⟩, h2⟩
  obtain ⟨l, el, k⟩ := h2.opt
  simp only [Option.bind_eq_some_iff] at el
  obtain ⟨ds, g1, es, g2, g3⟩ := el
  split at g3
  · cases g3
  · rename_i hle
    have g3 := Option.some.inj g3
    subst g3
    obtain ⟨t1, l1, vs, rfl, y1, y2, y3⟩ := seqD_rep g1 (repD_mono f2.ext.fz r1)
    obtain ⟨t2, l2, ws, rfl, z1, z2, z3⟩ := seqD_rep g2 r2
    refine ⟨t1, t2, l1, l2, vs, ws, rfl, y1 _ f2.st.sub, z1 _ f2.st.sub, k _ Hf2 H2 F2 [] f2.st.fin ⟨rfl, by rw [zipD_len]; omega, wk_zz (fun hs => ?_) y1 y3 z1 z3⟩⟩
    subst hs
    simpa using hle
end
end TL

set_option maxRecDepth 100000
set_option maxHeartbeats 1000000
namespace TL
open PySem PySem.Spec PyProof.Rows L2
section
variable {K : PySem.W.Frag} {fa ca : Nat → Addr} {Hf H Hf1 H1 Hf2 H2 : Hp} {F F1 F2 Fv Fv1 Fv2 : List Addr} {σ σ' : L2.St} {e e1 e' : En}
theorem relE_sig : ∀ {e : En} {σ σ' : L2.St} {F : List Addr}, relE K fa ca Hf H e σ F → σ'.length = σ.length → (∀ k o, e.at k = some o → σ'[k]? = σ[k]?) → relE K fa ca Hf H e σ' F
  | [], [], σ', _, h, l, _ => by obtain rfl : σ' = [] := List.eq_nil_of_length_eq_zero l; exact h
  | none :: e, x :: σ, [], _, h, l, _ => by simp at l
  | none :: e, x :: σ, y :: σ', _, h, l, q => by
    have h : relE K fa ca Hf H e σ _ := h
    exact relE_sig (e := e) h (by simpa using l) fun k o ho => by simpa using q (k + 1) o (by simpa [En.at] using ho)
  | some o :: e, x :: σ, [], _, h, l, _ => by simp at l
  | some o :: e, x :: σ, y :: σ', _, ⟨v, F1, F2, h1, h2, h3, h4⟩, l, q => by
    have e0 : y = x := by simpa using q 0 o (by simp [En.at])
    exact ⟨v, F1, F2, e0.trans h1, h2, h3, relE_sig (e := e) h4 (by simpa using l) fun k o ho => by simpa using q (k + 1) o (by simpa [En.at] using ho)⟩
  | [], _ :: _, _, _, h, _, _ => h.elim
  | none :: _, [], _, _, h, _, _ => h.elim
  | some _ :: _, [], _, _, h, _, _ => h.elim
theorem relE_drop1 : ∀ {e : En} {σ : L2.St} {F : List Addr} (k : Nat), relE K fa ca Hf H e σ F → ∃ F', F'.Sublist F ∧ relE K fa ca Hf H (e.set k none) σ F'
  | [], [], F, k, h => ⟨F, List.Sublist.refl _, by simpa using h⟩
  | none :: e, x :: σ, F, 0, h => ⟨F, List.Sublist.refl _, h⟩
  | none :: e, x :: σ, F, k + 1, h => relE_drop1 (e := e) (σ := σ) k h
  | some o :: e, x :: σ, F, 0, ⟨v, F1, F2, h1, h2, h3, h4⟩ => ⟨F2, by rw [h2]; exact List.sublist_append_right _ _, h4⟩
  | some o :: e, x :: σ, F, k + 1, ⟨v, F1, F2, h1, h2, h3, h4⟩ => by
    obtain ⟨F', s, r⟩ := relE_drop1 (e := e) (σ := σ) k h4
    exact ⟨F1 ++ F', by rw [h2]; exact List.Sublist.append (List.Sublist.refl _) s, v, F1, F', h1, rfl, h3, r⟩
  | [], _ :: _, _, _, h => h.elim
  | none :: _, [], _, _, h => h.elim
  | some _ :: _, [], _, _, h => h.elim
theorem relE_wipe {e : En} {σ : L2.St} : ∀ {own : List Nat} {F : List Addr}, relE K fa ca Hf H e σ F → ∃ F', F'.Sublist F ∧ relE K fa ca Hf H (wipeE e own) σ F'
  | [], F, h => ⟨F, List.Sublist.refl _, h⟩
  | k :: own, F, h => by
    obtain ⟨F1, s1, r1⟩ := relE_wipe (own := own) h
    obtain ⟨F2, s2, r2⟩ := relE_drop1 k r1
    exact ⟨F2, s2.trans s1, r2⟩
theorem wipeE_len (e : En) : ∀ own : List Nat, (wipeE e own).length = e.length
  | [] => rfl
  | k :: own => by unfold wipeE; rw [List.length_set, wipeE_len e own]
theorem wipeE_at {e : En} {k : Nat} {o : O} : ∀ {own : List Nat}, (wipeE e own).at k = some o → e.at k = some o ∧ k ∉ own
  | [], h => ⟨h, by simp⟩
  | v :: vs, h => by
    unfold wipeE at h
    unfold En.at at h
    by_cases hi : v = k
    · subst hi
      by_cases hv : v < (wipeE e vs).length
      · rw [List.getElem?_set_self hv] at h; cases h
      · rw [List.getElem?_eq_none (by simpa using hv)] at h; cases h
    · rw [List.getElem?_set_ne hi] at h
      obtain ⟨h1, h2⟩ := wipeE_at (own := vs) h
      exact ⟨h1, by simp only [List.mem_cons, not_or]; exact ⟨fun e => hi e.symm, h2⟩⟩
theorem wipe_ne {σ : L2.St} {k : Nat} : ∀ {own : List Nat}, k ∉ own → (wipe σ own)[k]? = σ[k]?
  | [], _ => rfl
  | v :: vs, h => by
    simp only [List.mem_cons, not_or] at h
    unfold wipe
    rw [List.getElem?_set_ne (fun e => h.1 e.symm), wipe_ne h.2]
theorem wipe_mem {σ : L2.St} {k : Nat} : ∀ {own : List Nat}, k ∈ own → k < σ.length → (wipe σ own)[k]? = some none
  | v :: vs, h, hk => by
    unfold wipe
    by_cases hv : v = k
    · subst hv; rw [List.getElem?_set_self (by rw [wipe_length]; exact hk)]
    · rw [List.getElem?_set_ne hv]
      rcases List.mem_cons.mp h with e | e
      · exact absurd e.symm hv
      · exact wipe_mem e hk
theorem wipe_eq {σ σ' : L2.St} {own : List Nat} (hl : σ'.length = σ.length) (h : ∀ k, k ∉ own → σ'[k]? = σ[k]?) : wipe σ' own = wipe σ own := by
  refine List.ext_getElem? fun k => ?_
  by_cases hk : k ∈ own
  · by_cases hlt : k < σ.length
    · rw [wipe_mem hk hlt, wipe_mem hk (by omega)]
    · rw [List.getElem?_eq_none (by rw [wipe_length]; omega), List.getElem?_eq_none (by rw [wipe_length]; omega)]
  · rw [wipe_ne hk, wipe_ne hk, h k hk]
theorem Stt.sub' (s : Stt K fa ca Hf H σ e F) (hs : F1.Sublist F) (r : relE K fa ca Hf H e1 σ' F1) : Stt K fa ca Hf H σ' e1 F1 := ⟨s.sub, r, s.nd.sublist hs, fun a ha => s.dis a (hs.subset ha)⟩
theorem Fin.sub' (f : Fin K fa ca Hf H F Hf1 H1 σ e F1 Fv) (hs : F2.Sublist F1) (r : relE K fa ca Hf1 H1 e1 σ' F2) : Fin K fa ca Hf H F Hf1 H1 σ' e1 F2 Fv := by
  refine ⟨f.st.sub' hs r, f.nd.sublist (List.Sublist.append hs (List.Sublist.refl _)), f.dis, f.ext.fz, f.ext.keep, fun a h => f.ext.new a ?_⟩
  rcases h with h | h
  · left
    rcases List.mem_append.mp h with z | z
    · exact List.mem_append_left _ (hs.subset z)
    · exact List.mem_append_right _ z
  · exact .inr h
/-- one end behind another, what was held stays held -/
theorem Fin.seq (a : Fin K fa ca Hf H F Hf1 H1 σ e F1 Fv1) (b : Fin K fa ca Hf1 H1 F1 Hf2 H2 σ' e' F2 Fv2) (own : ∀ p ∈ Fv1, ∃ o, H1 p = some o) : Fin K fa ca Hf H F Hf2 H2 σ' e' F2 (Fv1 ++ Fv2) ∧ ∀ p ∈ Fv1, H2 p = H1 p := by
  obtain ⟨h1, h2, h3⟩ := a.hold b.ext own
  have x := a.trans (σ' := σ') (Fv2 := Fv2) b.ext
  have nd1 := (List.nodup_append.mp a.nd).2.1
  have nd2 := List.nodup_append.mp b.nd
  refine ⟨⟨b.st, ?_, fun p hp => ?_, x.fz, x.keep, fun p h => ?_⟩, h1⟩
  · refine List.nodup_append.mpr ⟨nd2.1, List.nodup_append.mpr ⟨nd1, nd2.2.1, fun p hp q hq z => ?_⟩, fun p hp q hq z => ?_⟩
    · subst z; exact h3 p hp (List.mem_append_right _ hq)
    · subst z
      rcases List.mem_append.mp hq with y | y
      · exact h3 p y (List.mem_append_left _ hp)
      · exact nd2.2.2 p hp p y rfl
  · rcases List.mem_append.mp hp with y | y
    · exact h2 p y
    · exact b.dis p y
  · have old : p ∈ Fv1 → p ∈ F ∨ Hf p ≠ none ∨ H p = none := fun y => a.ext.new p (.inl (List.mem_append_right _ y))
    rcases h with h | h
    · rcases List.mem_append.mp h with y | y
      · exact x.new p (.inl (List.mem_append_left _ y))
      · rcases List.mem_append.mp y with y | y
        · exact old y
        · exact x.new p (.inl (List.mem_append_right _ y))
    · exact x.new p (.inr h)
/-- a new list that nobody was told of -/
def hideA (D : Addr) (H : Hp) : Hp := fun a => if a = D then none else H a
theorem hide_ne {D a : Addr} {H : Hp} (h : a ≠ D) : hideA D H a = H a := if_neg h
theorem hide_eq (D : Addr) (H : Hp) : hideA D H D = none := if_pos rfl
theorem upd_hide {D : Addr} {H : Hp} {o : HO} (h : H D = some o) : upd (hideA D H) D o = H := by
  funext a
  by_cases z : a = D
  · subst z; rw [upd_same, h]
  · rw [upd_ne z, hide_ne z]
theorem Stt.lay (s : Stt K fa ca Hf H σ e F) {D : Addr} {o : HO} (hD : H D = none) : Stt K fa ca Hf (upd H D o) σ e F := by
  have nF : ∀ a ∈ F, a ≠ D := fun a ha z => by
    obtain ⟨vs, hv⟩ := relE_mem s.rel a ha
    rw [z, hD] at hv; cases hv
  exact ⟨fun a o' h => by rw [upd_ne (ne_of_none (s.sub _ _ h) hD)]; exact s.sub _ _ h, relE_frame (Same.refl _) (fun a ha => upd_ne (nF a ha)) s.rel, s.nd, s.dis⟩
theorem Fin.hide (s : Stt K fa ca Hf H σ' e' F) {D : Addr} {xs : List V} (hD : H D = none) (f : Fin K fa ca Hf (upd H D (.lst xs)) F Hf1 H1 σ e F1 Fv) : Fin K fa ca Hf H F Hf1 (hideA D H1) σ e F1 Fv ∧ H1 D = some (.lst xs) ∧ Hf1 D = none ∧ D ∉ F1 ∧ D ∉ Fv := by
  have nF : D ∉ F := fun z => by
    obtain ⟨vs, hv⟩ := relE_mem s.rel D z
    rw [hD] at hv; cases hv
  have nf : Hf D = none := by
    cases q : Hf D with
    | none => rfl
    | some o => rw [s.sub _ _ q] at hD; cases hD
  have no : ¬ (D ∈ F1 ++ Fv ∨ Hf1 D ≠ none) := fun z => by
    rcases f.ext.new D z with z | z | z
    · exact nF z
    · exact z nf
    · rw [upd_same] at z; cases z
  have k := f.ext.keep D _ upd_same nF
  have n1 : Hf1 D = none := by
    cases q : Hf1 D with
    | none => rfl
    | some o => exact (no (.inr (by rw [q]; simp))).elim
  have n2 : D ∉ F1 := fun z => no (.inl (List.mem_append_left _ z))
  have n3 : D ∉ Fv := fun z => no (.inl (List.mem_append_right _ z))
  refine ⟨⟨⟨fun a o h => ?_, relE_frame (Same.refl _) (fun a ha => hide_ne fun z => n2 (z ▸ ha)) f.st.rel, f.st.nd, f.st.dis⟩, f.nd, f.dis, f.ext.fz, fun a o h hn => ?_, fun a h => ?_⟩, k, n1, n2, n3⟩
  · rw [hide_ne fun z => by rw [z, n1] at h; cases h]
    exact f.st.sub _ _ h
  · have z : a ≠ D := fun z => by rw [z, hD] at h; cases h
    rw [hide_ne z]
    exact f.ext.keep a o (by rw [upd_ne z]; exact h) hn
  · rcases f.ext.new a h with z | z | z
    · exact .inl z
    · exact .inr (.inl z)
    · refine .inr (.inr ?_)
      by_cases y : a = D
      · rw [y]; exact hD
      · rw [upd_ne y] at z; exact z
/-! ### targets -/
mutual
def gT (K : PySem.W.Frag) : TT → L2.TG
  | .n k => gName k
  | .t ts => fun v σ H Q => gTup K ts.length (gTs K ts) v σ H Q ∨ gLst K ts.length (gTs K ts) v σ H Q
def gTs (K : PySem.W.Frag) : List TT → L2.TGs
  | [] => gNil
  | t :: ts => gCons (gT K t) (gTs K ts)
end
mutual
theorem bind_ok : ∀ {t : TT} {d : D} {v : V} {e e' : En} {σ : L2.St} {F : List Addr} {Q : L2.St → Hp → Prop}, bindT t d e = some e' → repD K fa ca Hf d v → Stt K fa ca Hf H σ e F →
    (∀ σ' F', F'.Sublist F → Stt K fa ca Hf H σ' e' F' → σ'.length = σ.length → (∀ k, k ∉ tvars t → σ'[k]? = σ[k]?) → Q σ' H) → gT K t v σ H Q
  | .n k, d, v, e, e', σ, F, Q, hb, r, s, h => by
    have hb : some (e.put k (.frz d)) = some e' := by simpa [bindT] using hb
    have hb := Option.some.inj hb
    subst hb
    show Q (σ.set k (some v)) H
    have hlen := relE_len s.rel
    by_cases hk : k < e.length
    · obtain ⟨Fl, Fx, Fr, e1, e2⟩ := relE_put s.rel hk
      subst e1
      have rel := (e2 (Hf' := Hf) (H' := H) (Same.refl _) (fun _ _ => rfl)).1 (o' := .frz d) (v' := v) (F1' := []) ⟨rfl, r⟩
      have sl : (Fl ++ ([] ++ Fr)).Sublist (Fl ++ (Fx ++ Fr)) := List.Sublist.append (List.Sublist.refl _) (List.Sublist.append (List.nil_sublist _) (List.Sublist.refl _))
      exact h _ _ sl (s.sub' sl rel) (by simp) fun j hj => List.getElem?_set_ne (fun z => hj (by simp [tvars, z]))
    · have e1 : e.put k (.frz d) = e := by unfold En.put; exact List.set_eq_of_length_le (by omega)
      have e2 : σ.set k (some v) = σ := List.set_eq_of_length_le (by omega)
      rw [e2]
      exact h σ F (List.Sublist.refl _) (by rw [e1]; exact s) rfl fun _ _ => rfl
  | .t ts, .tup ds, v, e, e', σ, F, Q, hb, ⟨a, vs, h1, h2, h3, h4⟩, s, h => by
    have hb : bindTs ts ds e = some e' := by simpa [bindT] using hb
    obtain ⟨l, g⟩ := binds_ok hb h4 s (fun σ' F' h1 h2 h3 h4 => h σ' F' h1 h2 h3 fun k hk => h4 k (by simpa [tvars] using hk))
    exact .inl ⟨a, vs, h1, seqT s.sub h2, l, g⟩
  | .t ts, .lst ds, v, e, e', σ, F, Q, hb, ⟨a, vs, h1, h2, h3, h4⟩, s, h => by
    have hb : bindTs ts ds e = some e' := by simpa [bindT] using hb
    obtain ⟨l, g⟩ := binds_ok hb h4 s (fun σ' F' h1 h2 h3 h4 => h σ' F' h1 h2 h3 fun k hk => h4 k (by simpa [tvars] using hk))
    exact .inr ⟨a, vs, h1, SqL.of (s.sub _ _ h2), l, g⟩
  | .t ts, .non, _, _, _, _, _, _, hb, _, _, _ => by simp [bindT] at hb
  | .t ts, .bl _, _, _, _, _, _, _, hb, _, _, _ => by simp [bindT] at hb
  | .t ts, .int _, _, _, _, _, _, _, hb, _, _, _ => by simp [bindT] at hb
  | .t ts, .str _, _, _, _, _, _, _, hb, _, _, _ => by simp [bindT] at hb
  | .t ts, .dic, _, _, _, _, _, _, hb, _, _, _ => by simp [bindT] at hb
  | .t ts, .fn _, _, _, _, _, _, _, hb, _, _, _ => by simp [bindT] at hb
  | .t ts, .exc _ _, _, _, _, _, _, _, hb, _, _, _ => by simp [bindT] at hb
  | .t ts, .scr _, _, _, _, _, _, _, hb, _, _, _ => by simp [bindT] at hb
theorem binds_ok : ∀ {ts : List TT} {ds : List D} {vs : List V} {e e' : En} {σ : L2.St} {F : List Addr} {Q : L2.St → Hp → Prop}, bindTs ts ds e = some e' → repDs K fa ca Hf ds vs → Stt K fa ca Hf H σ e F →
    (∀ σ' F', F'.Sublist F → Stt K fa ca Hf H σ' e' F' → σ'.length = σ.length → (∀ k, k ∉ tvarss ts → σ'[k]? = σ[k]?) → Q σ' H) → vs.length = ts.length ∧ gTs K ts vs σ H Q
  | [], [], _, e, e', σ, F, Q, hb, r, s, h => by
    cases r
    have hb : some e = some e' := by simpa [bindTs] using hb
    have hb := Option.some.inj hb
    subst hb
    exact ⟨rfl, rfl, h σ F (List.Sublist.refl _) s rfl fun _ _ => rfl⟩
  | t :: ts, d :: ds, _, e, e', σ, F, Q, hb, ⟨v, r, h1, h2, h3⟩, s, h => by
    subst h1
    simp only [bindTs, Option.bind_eq_some_iff] at hb
    obtain ⟨e1, b1, b2⟩ := hb
    have go : gT K t v σ H fun σ1 H1 => r.length = ts.length ∧ gTs K ts r σ1 H1 Q := bind_ok b1 h2 s fun σ1 F1 s1 st1 l1 k1 => binds_ok b2 h3 st1 fun σ2 F2 s2 st2 l2 k2 =>
      h σ2 F2 (s2.trans s1) st2 (l2.trans l1) fun k hk => by
        simp only [tvarss, List.mem_append, not_or] at hk
        rw [k2 k hk.2, k1 k hk.1]
    have hl : ts.length = ds.length := binds_len b2
    exact ⟨by simp [hl, repDs_len h3], v, r, rfl, gT_mono (fun _ _ z => z.2) t go⟩
  | [], _ :: _, _, _, _, _, _, _, hb, _, _, _ => by simp [bindTs] at hb
  | _ :: _, [], _, _, _, _, _, _, hb, _, _, _ => by simp [bindTs] at hb
theorem binds_len : ∀ {ts : List TT} {ds : List D} {e e' : En}, bindTs ts ds e = some e' → ts.length = ds.length
  | [], [], _, _, _ => rfl
  | t :: ts, d :: ds, e, e', hb => by
    simp only [bindTs, Option.bind_eq_some_iff] at hb
    obtain ⟨e1, b1, b2⟩ := hb
    simp [binds_len b2]
  | [], _ :: _, _, _, hb => by simp [bindTs] at hb
  | _ :: _, [], _, _, hb => by simp [bindTs] at hb
theorem gT_mono {Q Q' : L2.St → Hp → Prop} (k : ∀ σ H, Q σ H → Q' σ H) : ∀ (t : TT) {v : V} {σ : L2.St} {H : Hp}, gT K t v σ H Q → gT K t v σ H Q'
  | .n _, _, _, _, h => k _ _ h
  | .t ts, _, _, _, h => by
    rcases h with ⟨a, xs, h1, h2, h3, h4⟩ | ⟨a, xs, h1, h2, h3, h4⟩
    · exact .inl ⟨a, xs, h1, h2, h3, gTs_mono k ts h4⟩
    · exact .inr ⟨a, xs, h1, h2, h3, gTs_mono k ts h4⟩
theorem gTs_mono {Q Q' : L2.St → Hp → Prop} (k : ∀ σ H, Q σ H → Q' σ H) : ∀ (ts : List TT) {vs : List V} {σ : L2.St} {H : Hp}, gTs K ts vs σ H Q → gTs K ts vs σ H Q'
  | [], _, _, _, h => ⟨h.1, k _ _ h.2⟩
  | t :: ts, _, _, _, ⟨v, r, h1, h2⟩ => ⟨v, r, h1, gT_mono (fun _ _ z => gTs_mono k ts z) t h2⟩
end
end
section
variable {X : Cx} {G : GT} {sc : Scope}
theorem each_of_ns {env : Env} {e : Expr} {es : List Expr} (h : notStar e = true) : assignEach (e :: es) env = (false, assign e env) :: assignEach es env := by
  cases e <;> first | rfl | (simp [notStar] at h)
theorem _root_.L2.PG.or {X : Cx} {tg : Expr} {g g' : L2.TG} (h : PG X tg g) (h' : PG X tg g') : PG X tg (fun v σ H Q => g v σ H Q ∨ g' v σ H Q) := ⟨fun pins s σ H v u Q I r q => q.elim (fun q => h.run pins s σ H v u Q I r q) fun q => h'.run pins s σ H v u Q I r q⟩
theorem chkTs_star : ∀ {ts : List TT} {es : List Expr}, chkTs G sc ts es = true → (assignEach es X.env).length = ts.length ∧ (assignEach es X.env).findIdx? (·.1) = none
  | [], [], _ => ⟨rfl, rfl⟩
  | t :: ts, e :: es, h => by
    simp only [chkTs, Bool.and_eq_true] at h
    obtain ⟨h1, h2⟩ := chkTs_star h.2
    rw [each_of_ns h.1.2]
    exact ⟨by simp [h1], by rw [List.findIdx?_cons]; simp [h2]⟩
  | [], _ :: _, h => by simp [chkTs] at h
  | _ :: _, [], h => by simp [chkTs] at h
mutual
theorem s_tgt (hc : X.calm = true) (hN : X.N = G.N) (hd : X.N.Nodup) (ho : ∀ x, isOwn sc x = true → Loc X.env.scope x ∧ (X.fn x = true ∨ X.env.scope.names.lookup x = some .local)) : ∀ {t : TT} {e : Expr}, chkT G sc t e = true → PG X e (gT X.K t)
  | .n k, .Name x p, h => by
    simp only [chkT, Bool.and_eq_true, decide_eq_true_eq] at h
    obtain ⟨h1, h2⟩ := ho x h.2
    exact pg_name hd (by rw [hN]; exact h.1) h1 h2
  | .t ts, .Tuple es kk p, h => by
    simp only [chkT] at h
    obtain ⟨h1, h2⟩ := chkTs_star (X := X) h
    have g := s_tgts hc hN hd ho h
    exact PG.or (pg_tup hc g h1 h2) (pg_lst hc g h1 h2)
  | .n _, e, h => by cases e <;> first | (simp [chkT] at h; done) | (rename_i x p; simp only [chkT, Bool.and_eq_true, decide_eq_true_eq] at h; obtain ⟨h1, h2⟩ := ho x h.2; exact pg_name hd (by rw [hN]; exact h.1) h1 h2)
  | .t ts, e, h => by
    cases e <;> first
      | (simp [chkT] at h; done)
      | (simp only [chkT] at h; obtain ⟨h1, h2⟩ := chkTs_star (X := X) h; have g := s_tgts hc hN hd ho h; exact PG.or (pg_tup hc g h1 h2) (pg_lst hc g h1 h2))
theorem s_tgts (hc : X.calm = true) (hN : X.N = G.N) (hd : X.N.Nodup) (ho : ∀ x, isOwn sc x = true → Loc X.env.scope x ∧ (X.fn x = true ∨ X.env.scope.names.lookup x = some .local)) : ∀ {ts : List TT} {es : List Expr}, chkTs G sc ts es = true → PGs X es (gTs X.K ts)
  | [], [], _ => pgs_nil
  | t :: ts, e :: es, h => by
    simp only [chkTs, Bool.and_eq_true] at h
    exact pgs_cons (s_tgt hc hN hd ho h.1.1) (s_tgts hc hN hd ho h.2) (by rw [each_of_ns h.1.2]; rfl)
  | [], _ :: _, h => by simp [chkTs] at h
  | _ :: _, [], h => by simp [chkTs] at h
end
end
end TL

set_option maxRecDepth 100000
set_option maxHeartbeats 1000000
namespace TL
open PySem PySem.Spec PyProof.Rows L2
abbrev RR (α : Type) := Hp → Hp → α → V → List Addr → Prop
def RLs {α : Type} (R : RR α) (Hf H : Hp) : List α → List V → List Addr → Prop
  | [], vs, Fv => vs = [] ∧ Fv = []
  | a :: as, vs, Fv => ∃ v r F1 F2, vs = v :: r ∧ Fv = F1 ++ F2 ∧ R Hf H a v F1 ∧ RLs R Hf H as r F2
structure RStab {α : Type} (R : RR α) : Prop where
  frame : ∀ {Hf Hf' H H' : Hp} {a : α} {v : V} {Fv : List Addr}, Same Hf Hf' → (∀ p ∈ Fv, H' p = H p) → R Hf H a v Fv → R Hf' H' a v Fv
  mem : ∀ {Hf H : Hp} {a : α} {v : V} {Fv : List Addr}, R Hf H a v Fv → ∀ p ∈ Fv, ∃ vs, H p = some (HO.lst vs)
section
variable {α : Type} {R : RR α} {Hf Hf' H H' : Hp}
theorem RLs.frame (st : RStab R) (sm : Same Hf Hf') : ∀ {as : List α} {vs : List V} {Fv : List Addr}, (∀ p ∈ Fv, H' p = H p) → RLs R Hf H as vs Fv → RLs R Hf' H' as vs Fv
  | [], _, _, _, h => h
  | _ :: _, _, _, k, ⟨v, r, F1, F2, h1, h2, h3, h4⟩ => by
    subst h2
    exact ⟨v, r, F1, F2, h1, rfl, st.frame sm (fun p hp => k p (List.mem_append_left _ hp)) h3, RLs.frame st sm (fun p hp => k p (List.mem_append_right _ hp)) h4⟩
theorem RLs.mem (st : RStab R) : ∀ {as : List α} {vs : List V} {Fv : List Addr}, RLs R Hf H as vs Fv → ∀ p ∈ Fv, ∃ vs, H p = some (HO.lst vs)
  | [], _, _, h, p, hp => by rw [h.2] at hp; cases hp
  | _ :: _, _, _, ⟨v, r, F1, F2, h1, h2, h3, h4⟩, p, hp => by
    subst h2
    rcases List.mem_append.mp hp with z | z
    · exact st.mem h3 p z
    · exact RLs.mem st h4 p z
theorem RLs.snoc : ∀ {as : List α} {vs : List V} {F1 F2 : List Addr} {a : α} {v : V}, RLs R Hf H as vs F1 → R Hf H a v F2 → RLs R Hf H (as ++ [a]) (vs ++ [v]) (F1 ++ F2)
  | [], _, _, F2, a, v, h, h' => by
    obtain ⟨h1, h2⟩ := h
    subst h1 h2
    exact ⟨v, [], F2, [], rfl, by simp, h', rfl, rfl⟩
  | _ :: _, _, _, F3, a, v, ⟨u, r, F1, F2, h1, h2, h3, h4⟩, h' => by
    subst h1 h2
    exact ⟨u, r ++ [v], F1, F2 ++ F3, rfl, by simp, h3, RLs.snoc h4 h'⟩
theorem RLs.len : ∀ {as : List α} {vs : List V} {Fv : List Addr}, RLs R Hf H as vs Fv → as.length = vs.length
  | [], _, _, h => by rw [h.1]; rfl
  | _ :: _, _, _, ⟨v, r, F1, F2, h1, h2, h3, h4⟩ => by subst h1; exact congrArg (· + 1) (RLs.len h4)
end
section
variable {K : PySem.W.Frag} {fa ca : Nat → Addr}
theorem stab_D : RStab (RD K fa ca) := ⟨fun sm _ h => ⟨h.1, repD_mono sm h.2⟩, fun h p hp => by rw [h.1] at hp; cases hp⟩
theorem stab_O : RStab (RO K fa ca) := ⟨fun sm k h => repO_frame sm k h, fun h p hp => repO_mem h p hp⟩
theorem RLs_D {Hf H : Hp} : ∀ {ds : List D} {vs : List V} {Fv : List Addr}, RLs (RD K fa ca) Hf H ds vs Fv → Fv = [] ∧ repDs K fa ca Hf ds vs
  | [], _, _, h => ⟨h.2, h.1⟩
  | _ :: _, _, _, ⟨v, r, F1, F2, h1, h2, h3, h4⟩ => by
    obtain ⟨q1, q2⟩ := RLs_D h4
    exact ⟨by rw [h2, h3.1, q1]; rfl, v, r, h1, h3.2, q2⟩
theorem RLs_O {Hf H : Hp} : ∀ {os : List O} {vs : List V} {Fv : List Addr}, RLs (RO K fa ca) Hf H os vs Fv → repOs K fa ca Hf H os vs Fv
  | [], _, _, h => h
  | _ :: _, _, _, ⟨v, r, F1, F2, h1, h2, h3, h4⟩ => ⟨v, r, F1, F2, h1, h2, h3, RLs_O h4⟩
def WF : WX := fun _ _ _ _ => False
def RB (K : PySem.W.Frag) (fa ca : Nat → Addr) : Hp → Hp → Bool → Bool → List Addr → Prop := fun _ _ a b Fv => Fv = [] ∧ a = b
def rIfs (K : PySem.W.Frag) (fa ca : Nat → Addr) (C : Cfg) (W : WX) (t : List TE) : L2.TT := tG K fa ca W (RB K fa ca) (evalIfs C t)
def stepC {α : Type} (C : Cfg) (el : En → Res α) (tg : TT) (ifs : List TE) (own : List Nat) (d : D) (e : En) : Res (Option α) := match bindT tg d e with
  | none => .stuck
  | some e => (evalIfs C ifs e).bind fun b e => if b then (el e).bind fun x e => .ok (some x) (wipeE e own) else .ok none (wipeE e own)
theorem bind_inv {α β : Type} {r : Res α} {k : α → En → Res β} {b : β} {e : En} (h : r.bind k = .ok b e) : ∃ a e1, r = .ok a e1 ∧ k a e1 = .ok b e := by
  cases r with
  | ok a e1 => exact ⟨a, e1, rfl, h⟩
  | exc c d e1 => cases h
  | stuck => cases h
theorem comp_run {α : Type} {R : RR α} (st : RStab R) {C : Cfg} {el : En → Res α} {tg : TT} {ifs : List TE} {own : List Nat} {J : It} {ds : List D} {Hf0 H0 : Hp} {F0 : List Addr} {σ : L2.St} {e0 ef : En} {xs : List α} {Q : VK} (hown : ∀ k, k ∈ tvars tg → k ∈ own)
    (S : Stt K fa ca Hf0 H0 σ e0 F0) (wk : Wk K fa ca J ds Hf0) (hl : ds.length ≤ sizeLine) (hr : loopC (stepC C el tg ifs own) ds (wipeE e0 own) = .ok xs ef)
    (hQ : ∀ D vs Hf' H' F' Fv, Fin K fa ca Hf0 H0 F0 Hf' H' σ ef F' Fv → RLs R Hf' H' xs vs Fv → xs.length ≤ sizeLine → H' D = none → Q (.ref D) (upd H' D (.lst vs))) :
    ∀ D, H0 D = none → ∃ W : Nat → Nat → Hp → Prop, (∃ m, W 0 m (upd H0 D (.lst []))) ∧ ∀ i m H, W i m H →
      (J.stop i H ∧ Q (.ref D) H) ∨ (J.go i H ∧ ∃ Nx : Hp → Prop, (∀ H', Nx H' → ∃ m', m' < m ∧ W (i + 1) m' H') ∧ ∀ x H', J.yld i H x H' → gT K tg x (wipe σ own) H' fun σ2 H2 => wipe σ2 own = wipe σ own ∧ rIfs K fa ca C WF ifs σ2 H2 fun b H3 =>
        if b = true then tG K fa ca WF R el σ2 H3 fun y H4 => ∃ acc, H4 D = some (.lst acc) ∧ acc.length < sizeLine ∧ Nx (upd H4 D (.lst (acc ++ [y]))) else Nx H3) := by
  intro D hD
  -- what stands at a turn
  let Inv : Nat → Hp → Prop := fun i H => ∃ Hf Hh e F acc xsd Fv rest, H = upd Hh D (.lst acc) ∧ Hh D = none ∧ Fin K fa ca Hf0 H0 F0 Hf Hh (wipe σ own) e F Fv ∧ (∀ k o, e.at k = some o → k ∉ own) ∧ RLs R Hf Hh xsd acc Fv ∧ xsd.length ≤ i ∧ loopC (stepC C el tg ifs own) (ds.drop i) e = .ok rest ef ∧ xs = xsd ++ rest
  refine ⟨fun i m H => m = ds.length - i ∧ i ≤ ds.length ∧ Inv i H, ⟨ds.length, rfl, Nat.zero_le _, ?_⟩, ?_⟩
  · obtain ⟨F', s1, r1⟩ := relE_wipe (own := own) S.rel
    have r2 : relE K fa ca Hf0 H0 (wipeE e0 own) (wipe σ own) F' := relE_sig r1 (wipe_length σ own) fun k o ho => wipe_ne (wipeE_at ho).2
    have f := S.fin
    exact ⟨Hf0, H0, wipeE e0 own, F', [], [], [], xs, rfl, hD, S.fin.sub' s1 r2, fun k o ho => (wipeE_at ho).2, ⟨rfl, rfl⟩, Nat.le_refl _, by simpa using hr, rfl⟩
  · rintro i m H ⟨rfl, hi, Hf, Hh, e, F, acc, xsd, Fv, rest, rfl, hDn, f, he, rl, hxl, hlp, hxs⟩
    have smf : Same Hf0 (upd Hh D (.lst acc)) := fun a o h => by
      have h1 := f.st.sub _ _ (f.ext.fz _ _ h)
      rw [upd_ne (ne_of_none h1 hDn)]; exact h1
    by_cases hlt : i < ds.length
    · have hd : ds.drop i = ds[i] :: ds.drop (i + 1) := List.drop_eq_getElem_cons hlt
      rw [hd] at hlp
      simp only [loopC] at hlp
      obtain ⟨o, e1, p1, p2⟩ := bind_inv hlp
      obtain ⟨r, e2, p3, p4⟩ := bind_inv p2
      injection p4 with q1 q2
      subst q2
      unfold stepC at p1
      cases hb : bindT tg ds[i] e with
      | none => rw [hb] at p1; cases p1
      | some eb =>
      rw [hb] at p1
      obtain ⟨b, e3, p5, p6⟩ := bind_inv p1
      refine .inr ⟨wk.go i _ smf hlt, Inv (i + 1), fun H' p' => ⟨ds.length - (i + 1), by omega, rfl, hlt, p'⟩, fun x H' y => ?_⟩
      have S1 : Stt K fa ca Hf (upd Hh D (.lst acc)) (wipe σ own) e F := f.st.lay hDn
      -- the value that comes
      have got : ∃ Hf1, Fin K fa ca Hf (upd Hh D (.lst acc)) F Hf1 H' (wipe σ own) e F [] ∧ repD K fa ca Hf1 ds[i] x := by
        rcases wk.yld i _ x H' ds[i] smf (List.getElem?_eq_getElem hlt) y with ⟨rfl, r0⟩ | ⟨T, vs, hT, rfl, r0⟩
        · exact ⟨Hf, S1.fin, repD_mono f.ext.fz r0⟩
        · refine ⟨upd Hf T (.tup vs), S1.new hT, r0 Hf f.ext.fz ?_⟩
          cases q : Hf T with
          | none => rfl
          | some o => rw [S1.sub _ _ q] at hT; cases hT
      obtain ⟨Hf1, f1, rx⟩ := got
      refine bind_ok hb rx f1.st fun σ2 F2 s2 st2 l2 k2 => ?_
      have hwq : wipe σ2 own = wipe σ own := by
        have z : wipe σ2 own = wipe (wipe σ own) own := wipe_eq l2 fun k hk => k2 k fun z => hk (hown k z)
        rw [z]
        refine List.ext_getElem? fun k => ?_
        by_cases hk : k ∈ own
        · by_cases hlt : k < σ.length
          · rw [wipe_mem hk hlt, wipe_mem hk (by rw [wipe_length]; exact hlt)]
          · rw [List.getElem?_eq_none (by rw [wipe_length, wipe_length]; omega), List.getElem?_eq_none (by rw [wipe_length]; omega)]
        · rw [wipe_ne hk]
      refine ⟨hwq, Hf1, eb, F2, st2, ?_⟩
      show Go K fa ca WF (RB K fa ca) (evalIfs C ifs eb) Hf1 H' F2 σ2 _
      rw [p5]
      rintro b' Hf2 H2 F3 Fv3 f2 ⟨rfl, rfl⟩
      have f12 : Fin K fa ca Hf (upd Hh D (.lst acc)) F Hf2 H2 σ2 e3 F3 [] := by
        have := (f1.sub' s2 st2.rel).seq f2 (by simp)
        exact this.1
      -- the turn's end
      have fin : ∀ {Hf3 H3 : Hp} {e4 : En} {F4 Fv4 : List Addr} {acc' : List V} {xs' : List α}, Fin K fa ca Hf (upd Hh D (.lst acc)) F Hf3 H3 σ2 e4 F4 Fv4 → e1 = wipeE e4 own → ((o = none ∧ acc' = acc ∧ Fv4 = [] ∧ xs' = xsd) ∨ ∃ a v, o = some a ∧ acc' = acc ++ [v] ∧ R Hf3 H3 a v Fv4 ∧ xs' = xsd ++ [a]) → Inv (i + 1) (upd H3 D (.lst acc')) := by
        intro Hf3 H3 e4 F4 Fv4 acc' xs' f3 he1 hor
        obtain ⟨g, gD, gn, gF, gV⟩ := Fin.hide f.st hDn f3
        obtain ⟨F5, s5, r5⟩ := relE_wipe (own := own) g.st.rel
        have r6 : relE K fa ca Hf3 (hideA D H3) (wipeE e4 own) (wipe σ own) F5 := by
          refine relE_sig r5 ?_ fun k o ho => ?_
          · rw [wipe_length]; rw [l2, wipe_length]
          · rw [← hwq]; exact wipe_ne (wipeE_at ho).2
        have g2 := g.sub' s5 r6
        obtain ⟨g3, g4⟩ := f.seq g2 fun p hp => by
          obtain ⟨vs, hv⟩ := rl.mem st p hp
          exact ⟨_, hv⟩
        have rl2 := rl.frame st (g.ext.fz) g4
        have ue : upd H3 D (HO.lst acc') = upd (hideA D H3) D (.lst acc') := by
          funext a
          by_cases z : a = D
          · rw [z, upd_same, upd_same]
          · rw [upd_ne z, upd_ne z, hide_ne z]
        refine ⟨Hf3, hideA D H3, e1, F5, acc', xs', Fv ++ Fv4, r, ue, hide_eq D H3, by rw [he1]; exact g3, fun k o ho => by rw [he1] at ho; exact (wipeE_at ho).2, ?_, ?_, p3, ?_⟩
        · rcases hor with ⟨_, rfl, rfl, rfl⟩ | ⟨a, v, _, rfl, ra, rfl⟩
          · simpa using rl2
          · exact rl2.snoc (st.frame (Same.refl _) (fun p hp => hide_ne fun z => gV (z ▸ hp)) ra)
        · rcases hor with ⟨_, _, _, rfl⟩ | ⟨a, v, _, _, _, rfl⟩
          · omega
          · rw [List.length_append]; simp; omega
        · rcases hor with ⟨ho, _, _, rfl⟩ | ⟨a, v, ho, _, _, rfl⟩
          · rw [hxs, ← q1, ho]
          · rw [hxs, ← q1, ho]; simp
      cases b with
      | false =>
        simp only [Bool.false_eq_true, if_false] at p6 ⊢
        injection p6 with q3 q4
        have := fin (acc' := acc) (xs' := xsd) f12 q4.symm (.inl ⟨q3.symm, rfl, rfl, rfl⟩)
        obtain ⟨_, gD, _⟩ := Fin.hide f.st hDn f12
        have ue : upd H2 D (HO.lst acc) = H2 := by
          funext a
          by_cases z : a = D
          · rw [z, upd_same, gD]
          · rw [upd_ne z]
        rw [ue] at this
        exact this
      | true =>
        simp only [if_true] at p6 ⊢
        obtain ⟨a, e4, p7, p8⟩ := bind_inv p6
        injection p8 with q3 q4
        refine ⟨Hf2, e3, F3, f12.st, ?_⟩
        show Go K fa ca WF R (el e3) Hf2 H2 F3 σ2 _
        rw [p7]
        intro y Hf4 H4 F4 Fv4 f4 ry
        have f14 := (f12.seq f4 (by simp)).1
        rw [List.nil_append] at f14
        obtain ⟨_, gD, _⟩ := Fin.hide f.st hDn f14
        refine ⟨acc, gD, ?_, fin (acc' := acc ++ [y]) (xs' := xsd ++ [a]) f14 q4.symm (.inr ⟨a, y, q3.symm, rfl, ry, rfl⟩)⟩
        have := rl.len
        omega
    · have e0 : i = ds.length := by omega
      subst e0
      rw [List.drop_length] at hlp
      simp only [loopC] at hlp
      injection hlp with q1 q2
      subst q1 q2
      rw [List.append_nil] at hxs
      subst hxs
      refine .inl ⟨wk.stop _ _ smf (Nat.le_refl _), hQ D acc Hf Hh F Fv ?_ rl (by omega) hDn⟩
      exact f.sub' (List.Sublist.refl _) (relE_sig f.st.rel (wipe_length σ own).symm fun k o ho => (wipe_ne (he k o ho)).symm)
end
end TL

set_option maxRecDepth 100000
set_option maxHeartbeats 1000000
namespace TL
open PySem PySem.Spec PyProof.Rows L2
section
variable {K : PySem.W.Frag} {fa ca : Nat → Addr} {C : Cfg} {W : WX}
theorem lc_D {elt : TE} {tg : TT} {it : TI} {ifs : List TE} {own : List Nat} (hown : ∀ k, k ∈ tvars tg → k ∈ own) (σ : L2.St) (H : Hp) (Q : VK) (h : rF K fa ca C W (.comp elt tg it ifs own) σ H Q) :
    tLc (rI K fa ca C W it) (gT K tg) (rIfs K fa ca C WF ifs) (rE K fa ca C WF elt) own σ H Q := by
  obtain ⟨Hf, e, F, S, h⟩ := h
  simp only [evalF] at h
  refine ⟨Hf, e, F, S, Go.mono (Go.bind (R1 := RW K fa ca) (r := evalI C it e) h) ?_⟩
  rintro J H1 ⟨ds, e1, Hf1, F1, Fv1, q1, f1, ⟨rfl, hl, wk⟩, h1⟩
  have h1 : Go K fa ca W (RF K fa ca) (noExc (loopC (stepC C (evalE C elt) tg ifs own) ds (wipeE e1 own))) Hf1 H1 F1 σ (fun b H' => Q (.ref b.1) (upd H' b.1 (.lst b.2))) := h1
  cases q : loopC (stepC C (evalE C elt) tg ifs own) ds (wipeE e1 own) with
  | stuck => rw [q] at h1; exact h1.elim
  | exc c d e2 => rw [q] at h1; exact h1.elim
  | ok xs ef =>
    rw [q] at h1
    refine comp_run stab_D hown f1.st wk hl q fun D vs Hf' H' F' Fv f rl hx hD => ?_
    obtain ⟨rfl, rd⟩ := RLs_D rl
    exact h1 (D, vs) Hf' H' F' [] f ⟨rfl, rd, hx, hD⟩
theorem lc_O {elt : TO} {tg : TT} {it : TI} {ifs : List TE} {own : List Nat} (hown : ∀ k, k ∈ tvars tg → k ∈ own) (σ : L2.St) (H : Hp) (Q : VK) (h : rO K fa ca C W (.comp elt tg it ifs own) σ H Q) :
    tLc (rI K fa ca C W it) (gT K tg) (rIfs K fa ca C WF ifs) (rO K fa ca C WF elt) own σ H Q := by
  obtain ⟨Hf, e, F, S, h⟩ := h
  simp only [evalO] at h
  refine ⟨Hf, e, F, S, Go.mono (Go.bind (R1 := RW K fa ca) (r := evalI C it e) h) ?_⟩
  rintro J H1 ⟨ds, e1, Hf1, F1, Fv1, q1, f1, ⟨rfl, hl, wk⟩, h1⟩
  have h1 : Go K fa ca W (RO K fa ca) ((noExc (loopC (stepC C (evalO C elt) tg ifs own) ds (wipeE e1 own))).bind fun xs e2 => .ok (.lst xs) e2) Hf1 H1 F1 σ Q := h1
  cases q : loopC (stepC C (evalO C elt) tg ifs own) ds (wipeE e1 own) with
  | stuck => rw [q] at h1; exact h1.elim
  | exc c d e2 => rw [q] at h1; exact h1.elim
  | ok xs ef =>
    rw [q] at h1
    refine comp_run stab_O hown f1.st wk hl q fun D vs Hf' H' F' Fv f rl hx hD => ?_
    have ro := RLs_O rl
    have g := f.own (vs := vs) hD fun a ha => by
      obtain ⟨vs, hv⟩ := repOs_mem ro a ha
      exact ⟨_, hv⟩
    refine h1 (.ref D) Hf' _ F' (D :: Fv) g ⟨D, vs, Fv, rfl, upd_same, rfl, hx, repOs_frame (Same.refl _) (fun a ha => ?_) ro⟩
    refine upd_ne fun z => ?_
    obtain ⟨vs, hv⟩ := repOs_mem ro a ha
    rw [z, hD] at hv; cases hv
end
/-! ### the block's surroundings -/
theorem relS_free {sc : Scope} : ∀ {names : List (Str × NameKind)} {x : Str}, names.lookup x = some .free → ∃ k, (k = .cell ∨ k = .free) ∧
    (names.map fun (n, k) => if (k == NameKind.free && sc.kind == .function && sc.names.lookup n == some .cell) then (n, NameKind.cell) else (n, k)).lookup x = some k
  | [], _, h => by simp at h
  | (n, k₀) :: r, x, h => by
    have ih := @relS_free sc r x
    have go : ∀ k, List.lookup x ((if (k₀ == NameKind.free && sc.kind == .function && sc.names.lookup n == some .cell) = true then (n, NameKind.cell) else (n, k₀)) :: (r.map fun (n, k) => if (k == NameKind.free && sc.kind == .function && sc.names.lookup n == some .cell) then (n, NameKind.cell) else (n, k))) = some k →
        (List.map (fun (n, k) => if (k == NameKind.free && sc.kind == .function && sc.names.lookup n == some .cell) then (n, NameKind.cell) else (n, k)) ((n, k₀) :: r)).lookup x = some k := fun k h => h
    cases hx : x == n with
    | true =>
      simp only [List.lookup_cons, hx] at h
      cases h
      by_cases hc : (NameKind.free == NameKind.free && sc.kind == .function && sc.names.lookup n == some .cell) = true
      · refine ⟨.cell, .inl rfl, go _ ?_⟩
        rw [if_pos hc]
        simp only [List.lookup_cons, hx]
      · refine ⟨.free, .inr rfl, go _ ?_⟩
        rw [if_neg hc]
        simp only [List.lookup_cons, hx]
    | false =>
      simp only [List.lookup_cons, hx] at h
      obtain ⟨k, hk, q⟩ := ih h
      refine ⟨k, hk, go _ ?_⟩
      by_cases hc : (k₀ == NameKind.free && sc.kind == .function && sc.names.lookup n == some .cell) = true
      · rw [if_pos hc]; simp only [List.lookup_cons, hx]; exact q
      · rw [if_neg hc]; simp only [List.lookup_cons, hx]; exact q
section
variable {X : Cx} {scope : Scope} {s : Shared} {H : Hp} {Ca : Addr} {cl : List (Str × Addr)} {fp : List Addr}
theorem blk_scope : (X.blk s H scope (compEnvC scope cl Ca X.env) fp).env.scope = relS scope X.env.scope := rfl
theorem SC.blk (hk : scope.kind = .function) : SC scope (X.blk s H scope (compEnvC scope cl Ca X.env) fp) where
  vis := fun x h => by
    unfold isVis at h
    show Vis (relS scope X.env.scope) x
    cases q : scope.names.lookup x with
    | none => rw [q] at h; cases h
    | some k =>
      rw [q] at h
      cases k with
      | «local» => exact .inl (lookup_relS_keep (by decide) q)
      | cell => exact .inr (.inl (lookup_relS_keep (by decide) q))
      | free =>
        obtain ⟨k, hk, z⟩ := relS_free (sc := X.env.scope) q
        rcases hk with rfl | rfl
        · exact .inr (.inl z)
        · exact .inr (.inr z)
      | _ => cases h
  glo := fun x h => by
    unfold isGlo at h
    show (relS scope X.env.scope).names.lookup x = some .globalImplicit
    cases q : scope.names.lookup x with
    | none => rw [q] at h; cases h
    | some k =>
      rw [q] at h
      cases k with
      | globalImplicit => exact lookup_relS_keep (by decide) q
      | _ => cases h
  own := fun x h => by
    unfold isOwn at h
    show Loc (relS scope X.env.scope) x ∧ ((scope.names.lookup x == some .cell) = true ∨ (relS scope X.env.scope).names.lookup x = some .local)
    cases q : scope.names.lookup x with
    | none => rw [q] at h; cases h
    | some k =>
      rw [q] at h
      cases k with
      | «local» => exact ⟨.inl (lookup_relS_keep (by decide) q), .inr (lookup_relS_keep (by decide) q)⟩
      | cell => exact ⟨.inr (lookup_relS_keep (by decide) q), .inl rfl⟩
      | _ => cases h
  cap := fun x h => by
    show (relS scope X.env.scope).names.lookup x = _ ∨ (relS scope X.env.scope).names.lookup x = _
    rcases h with q | q
    · exact .inl (lookup_relS_keep (by decide) q)
    · obtain ⟨k, hk, z⟩ := relS_free (sc := X.env.scope) q
      rcases hk with rfl | rfl
      · exact .inl z
      · exact .inr z
  loc := fun x => by
    show (relS scope X.env.scope).names.lookup x = _ ↔ _
    refine ⟨fun q => ?_, fun q => lookup_relS_keep (by decide) q⟩
    obtain ⟨k', e, r⟩ := lookup_relS q
    rcases r with rfl | ⟨_, r⟩
    · exact e
    · cases r
  fnk := hk
theorem GX.blk {G : GT} {C : Cfg} {fa ca : Nat → Addr} {W : WX} (g : GX G C fa ca W X) : GX G C fa ca WF (X.blk s H scope (compEnvC scope cl Ca X.env) fp) :=
  ⟨g.N, g.nd, g.calm, g.room, g.lp, fun u s' ⟨a, B, sI, pins, σ, H, cls, d, e, I, nb, up, sky, na, os, ag, w⟩ => w.elim, g.blt, g.fn, g.glob⟩
theorem blk_ok {sc : Scope} {N : List Str} {own : List (Str × Nat)} (S : SC sc X) (hN : X.N = N) (h : blkC N sc scope own = true) : BlkOk X.N X.env.scope scope own := by
  have k := blkOk_by h
  exact ⟨k.kind, k.uniq, by rw [hN]; exact k.ix, fun y hy e => S.cap _ (k.free y hy e), by rw [hN]; exact k.own⟩
end
end TL

set_option maxRecDepth 100000
set_option maxHeartbeats 1000000
namespace TL
open PySem PySem.Spec PyProof.Rows L2
section
variable {K : PySem.W.Frag} {fa ca : Nat → Addr} {C : Cfg} {W : WX} {Hf H Hf1 H1 Hf2 H2 : Hp} {F F1 F2 Fv : List Addr} {σ : L2.St} {e e1 e' : En}
/-! ### arguments -/
def RAv (K : PySem.W.Frag) (fa ca : Nat → Addr) (σ : L2.St) (Hf H : Hp) (a : AV) (v : V) (Fv : List Addr) : Prop := Fv = [] ∧ match a with
  | .v d => repD K fa ca Hf d v
  | .b k => σ[k]? = some (some v)
  | .o _ => False
def RAvs (K : PySem.W.Frag) (fa ca : Nat → Addr) (σ : L2.St) (Hf H : Hp) : List AV → List V → List Addr → Prop
  | [], vs, Fv => vs = [] ∧ Fv = []
  | p :: ps, vs, Fv => ∃ v r, vs = v :: r ∧ RAv K fa ca σ Hf H p v [] ∧ RAvs K fa ca σ Hf H ps r [] ∧ Fv = []
def rA (K : PySem.W.Frag) (fa ca : Nat → Addr) (C : Cfg) (W : WX) (t : TA) : L2.TE := fun σ H Q => tG K fa ca W (RAv K fa ca σ) (evalA C t) σ H Q
def rAs (K : PySem.W.Frag) (fa ca : Nat → Addr) (C : Cfg) (W : WX) (t : List TA) : L2.TA := fun σ H Q => tG K fa ca W (RAvs K fa ca σ) (evalAs C t) σ H Q
theorem RAv.mono {p : AV} {v : V} (r : RAv K fa ca σ Hf H p v Fv) (sm : Same Hf Hf1) : RAv K fa ca σ Hf1 H1 p v Fv := by
  obtain ⟨h, r⟩ := r
  refine ⟨h, ?_⟩
  cases p with
  | v d => exact repD_mono sm r
  | b k => exact r
  | o x => exact r
/-- by value alone -/
theorem args0 : ∀ {ws : List AV} {vs : List V} {os : List O} {Fv : List Addr}, RAvs K fa ca σ Hf H ws vs Fv → getAll (fun v => AV.get v e) ws = some os → lent ws = [] → (∀ Hx : Hp, relE K fa ca Hf Hx (os.map some) (vs.map some) []) ∧ ∀ outs e0 e', putOuts ws outs e0 = some e' → e' = e0
  | [], _, os, _, r, g, _ => by
    have : os = [] := by simpa [getAll] using g.symm
    subst this
    rw [r.1]
    exact ⟨fun _ => rfl, fun outs e0 e' h => by cases outs <;> simp [putOuts] at h; exact h.symm⟩
  | .v d :: ws, _, os, _, ⟨v, r, h1, h2, h3, _⟩, g, l => by
    subst h1
    simp only [getAll, AV.get, Option.bind_some, Option.map_eq_some_iff] at g
    obtain ⟨os', g1, g2⟩ := g
    subst g2
    obtain ⟨i1, i2⟩ := args0 h3 g1 (by simpa [lent] using l)
    exact ⟨fun Hx => ⟨v, [], [], rfl, rfl, ⟨rfl, h2.2⟩, i1 Hx⟩, fun outs e0 e' h => by
      cases outs with
      | nil => simp [putOuts] at h
      | cons x s => exact i2 s e0 e' (by simpa [putOuts] using h)⟩
  | .b k :: _, _, _, _, _, _, l => by simp [lent] at l
  | .o x :: _, _, _, _, ⟨v, r, h1, h2, h3, _⟩, _, _ => h2.2.elim
/-- one name is lent -/
theorem args1 {k : Nat} {o : O} {v0 : V} {F1 : List Addr} (ek : e.at k = some o) (sk : σ[k]? = some (some v0)) (ro : repO K fa ca Hf H o v0 F1) : ∀ {ws : List AV} {vs : List V} {os : List O} {Fv : List Addr}, RAvs K fa ca σ Hf H ws vs Fv → getAll (fun v => AV.get v e) ws = some os → lent ws = [k] →
    relE K fa ca Hf H (os.map some) (vs.map some) F1 ∧ ∀ outs e0 e' Hf' H' Fo, relE K fa ca Hf' H' outs (vs.map some) Fo → putOuts ws outs e0 = some e' → ∃ o' Fk, Fk.Sublist Fo ∧ repO K fa ca Hf' H' o' v0 Fk ∧ e' = e0.put k o'
  | [], _, os, _, r, g, l => by simp [lent] at l
  | .v d :: ws, _, os, _, ⟨v, r, h1, h2, h3, _⟩, g, l => by
    subst h1
    simp only [getAll, AV.get, Option.bind_some, Option.map_eq_some_iff] at g
    obtain ⟨os', g1, g2⟩ := g
    subst g2
    obtain ⟨i1, i2⟩ := args1 ek sk ro h3 g1 (by simpa [lent] using l)
    refine ⟨⟨v, [], F1, rfl, rfl, ⟨rfl, h2.2⟩, i1⟩, fun outs e0 e' Hf' H' Fo rel h => ?_⟩
    cases outs with
    | nil => simp [putOuts] at h
    | cons x s =>
      have h : putOuts ws s e0 = some e' := by simpa [putOuts] using h
      cases x with
      | none => exact i2 s e0 e' Hf' H' Fo rel h
      | some o' =>
        obtain ⟨u, Fa, Fb, q1, q2, q3, q4⟩ := rel
        obtain ⟨o2, Fk, z1, z2, z3⟩ := i2 s e0 e' Hf' H' Fb q4 h
        exact ⟨o2, Fk, by rw [q2]; exact z1.trans (List.sublist_append_right _ _), z2, z3⟩
  | .b j :: ws, _, os, _, ⟨v, r, h1, h2, h3, _⟩, g, l => by
    subst h1
    simp only [lent, List.cons.injEq] at l
    obtain ⟨l1, l2⟩ := l
    subst l1
    simp only [getAll, AV.get, ek, Option.bind_some, Option.map_eq_some_iff] at g
    obtain ⟨os', g1, g2⟩ := g
    subst g2
    obtain ⟨i1, i2⟩ := args0 h3 g1 l2
    have : v = v0 := by
      have h2 : σ[j]? = some (some v) := h2.2
      rw [sk] at h2
      exact (Option.some.inj (Option.some.inj h2)).symm
    subst this
    refine ⟨⟨v, F1, [], rfl, by simp, ro, i1 H⟩, fun outs e0 e' Hf' H' Fo rel h => ?_⟩
    cases outs with
    | nil => simp [putOuts] at h
    | cons x s =>
      cases x with
      | none => simp [putOuts] at h
      | some o' =>
        obtain ⟨u, Fa, Fb, q1, q2, q3, q4⟩ := rel
        have q1 := Option.some.inj q1
        subst q1
        have h : putOuts ws s (e0.put j o') = some e' := by simpa [putOuts] using h
        exact ⟨o', Fa, by rw [q2]; exact List.sublist_append_left _ _, q3, i2 s _ e' h⟩
  | .o x :: _, _, _, _, ⟨v, r, h1, h2, h3, _⟩, _, _ => h2.2.elim
theorem lent_at {k : Nat} : ∀ {ws : List AV} {os : List O}, getAll (fun v => AV.get v e) ws = some os → lent ws = [k] → ∃ o, e.at k = some o
  | [], _, _, l => by simp [lent] at l
  | w :: ws, os, g, l => by
    simp only [getAll, Option.bind_eq_some_iff, Option.map_eq_some_iff] at g
    obtain ⟨o, g1, os', g2, g3⟩ := g
    cases w with
    | v d => exact lent_at g2 (by simpa [lent] using l)
    | b j =>
      simp only [lent, List.cons.injEq] at l
      rw [← l.1]; exact ⟨o, g1⟩
    | o x => exact lent_at g2 (by simpa [lent] using l)
theorem bind_inv' {α β : Type} {r : Res α} {k : α → En → Res β} {b : β} {e : En} (h : r.bind k = .ok b e) : ∃ a e1, r = .ok a e1 ∧ k a e1 = .ok b e := bind_inv h
theorem evalAs_len : ∀ {as : List TA} {e e1 : En} {ws : List AV}, evalAs C as e = .ok ws e1 → ws.length = as.length
  | [], _, _, _, q => by simp only [evalAs] at q; injection q with q _; rw [← q]; rfl
  | a :: as, _, _, _, q => by
    simp only [evalAs] at q
    obtain ⟨w, e2, a1, a2⟩ := bind_inv q
    obtain ⟨w2, e3, a3, a4⟩ := bind_inv a2
    injection a4 with a4 _
    rw [← a4]; simp [evalAs_len a3]
theorem RAvs_len : ∀ {ws : List AV} {vs : List V} {Fv : List Addr}, RAvs K fa ca σ Hf H ws vs Fv → ws.length = vs.length
  | [], _, _, r => by rw [r.1]; rfl
  | _ :: _, _, _, ⟨v, r', h1, _, h3, _⟩ => by rw [h1]; simp [RAvs_len h3]
/-- the call's state, and the state behind it -/
theorem call_st {ws : List AV} {vs : List V} {os : List O} (S : Stt K fa ca Hf H σ e F) (r : RAvs K fa ca σ Hf H ws vs Fv) (g : getAll (fun v => AV.get v e) ws = some os) (l : (lent ws).length ≤ 1) :
    ∃ Fc, Stt K fa ca Hf H (vs.map some) (os.map some) Fc ∧ ∀ {Hf' H' outs Fo Fr e'}, Fin K fa ca Hf H Fc Hf' H' (vs.map some) outs Fo Fr → (∀ p ∈ Fr, ∃ ws, H' p = some (HO.lst ws)) → putOuts ws outs e = some e' → ∃ F', Fin K fa ca Hf H F Hf' H' σ e' F' Fr := by
  have base : ∀ {Fl Fc Fr0 : List Addr}, F = Fl ++ (Fc ++ Fr0) → relE K fa ca Hf H (os.map some) (vs.map some) Fc →
      (∀ {Hf' H' outs Fo e'}, Same Hf Hf' → (∀ a ∈ Fl ++ Fr0, H' a = H a) → relE K fa ca Hf' H' outs (vs.map some) Fo → putOuts ws outs e = some e' → ∃ Fk, Fk.Sublist Fo ∧ relE K fa ca Hf' H' e' σ (Fl ++ (Fk ++ Fr0))) →
      ∃ Fc, Stt K fa ca Hf H (vs.map some) (os.map some) Fc ∧ ∀ {Hf' H' outs Fo Fr e'}, Fin K fa ca Hf H Fc Hf' H' (vs.map some) outs Fo Fr → (∀ p ∈ Fr, ∃ ws, H' p = some (HO.lst ws)) → putOuts ws outs e = some e' → ∃ F', Fin K fa ca Hf H F Hf' H' σ e' F' Fr := by
    intro Fl Fc Fr0 eF rel back
    subst eF
    have nd := List.nodup_append.mp S.nd
    have nd2 := List.nodup_append.mp nd.2.1
    refine ⟨Fc, ⟨S.sub, rel, nd2.1, fun a ha => S.dis a (by simp [ha])⟩, fun {Hf' H' outs Fo Fr e'} f hm hp => ?_⟩
    have nc : ∀ a ∈ Fl ++ Fr0, a ∉ Fc := fun a ha hc => by
      rcases List.mem_append.mp ha with z | z
      · exact nd.2.2 a z a (List.mem_append_left _ hc) rfl
      · exact nd2.2.2 a hc a z rfl
    have kept : ∀ a ∈ Fl ++ Fr0, H' a = H a := fun a ha => by
      obtain ⟨xs, hx⟩ := relE_mem S.rel a (by rcases List.mem_append.mp ha with z | z <;> simp [z])
      rw [hx]; exact f.ext.keep a _ hx (nc a ha)
    obtain ⟨Fk, s1, r1⟩ := back f.ext.fz kept f.st.rel hp
    -- what is new is not ours
    have apart : ∀ a, (a ∈ Fo ++ Fr ∨ Hf' a ≠ none) → a ∈ Fl ++ Fr0 → False := fun a h ha => by
      rcases f.ext.new a h with z | z | z
      · exact nc a ha z
      · exact z (S.dis a (by rcases List.mem_append.mp ha with y | y <;> simp [y]))
      · obtain ⟨xs, hx⟩ := relE_mem S.rel a (by rcases List.mem_append.mp ha with y | y <;> simp [y])
        rw [hx] at z; cases z
    have ndO := List.nodup_append.mp f.nd
    have inFk : ∀ a ∈ Fk, a ∈ Fo := fun a ha => s1.subset ha
    have nd' : (Fl ++ (Fk ++ Fr0)).Nodup := by
      refine List.nodup_append.mpr ⟨nd.1, List.nodup_append.mpr ⟨ndO.1.sublist s1, nd2.2.1, fun a ha b hb z => ?_⟩, fun a ha b hb z => ?_⟩
      · subst z; exact apart a (.inl (List.mem_append_left _ (inFk a ha))) (List.mem_append_right _ hb)
      · subst z
        rcases List.mem_append.mp hb with y | y
        · exact apart a (.inl (List.mem_append_left _ (inFk a y))) (List.mem_append_left _ ha)
        · exact nd.2.2 a ha a (List.mem_append_right _ y) rfl
    refine ⟨Fl ++ (Fk ++ Fr0), ⟨⟨f.st.sub, r1, nd', fun a ha => ?_⟩, ?_, f.dis, f.ext.fz, fun a o h hn => ?_, fun a h => ?_⟩⟩
    · have old : a ∈ Fl ++ Fr0 → Hf' a = none := fun z => by
        cases q : Hf' a with
        | none => rfl
        | some o => exact (apart a (.inr (by rw [q]; simp)) z).elim
      rcases List.mem_append.mp ha with z | z
      · exact old (List.mem_append_left _ z)
      · rcases List.mem_append.mp z with z | z
        · exact f.st.dis a (inFk a z)
        · exact old (List.mem_append_right _ z)
    · refine List.nodup_append.mpr ⟨nd', ndO.2.1, fun a ha b hb z => ?_⟩
      subst z
      rcases List.mem_append.mp ha with y | y
      · exact apart a (.inl (List.mem_append_right _ hb)) (List.mem_append_left _ y)
      · rcases List.mem_append.mp y with y | y
        · exact ndO.2.2 a (inFk a y) a hb rfl
        · exact apart a (.inl (List.mem_append_right _ hb)) (List.mem_append_right _ y)
    · exact f.ext.keep a o h fun z => hn (by simp [z])
    · have go : (a ∈ Fo ++ Fr ∨ Hf' a ≠ none) → a ∈ Fl ++ (Fc ++ Fr0) ∨ Hf a ≠ none ∨ H a = none := fun h => by
        rcases f.ext.new a h with z | z | z
        · exact .inl (by simp [z])
        · exact .inr (.inl z)
        · exact .inr (.inr z)
      rcases h with h | h
      · rcases List.mem_append.mp h with z | z
        · rcases List.mem_append.mp z with z | z
          · exact .inl (by simp [z])
          · rcases List.mem_append.mp z with z | z
            · exact go (.inl (List.mem_append_left _ (inFk a z)))
            · exact .inl (by simp [z])
        · exact go (.inl (List.mem_append_right _ z))
      · exact go (.inr h)
  match hl : lent ws, l with
  | [], _ =>
    obtain ⟨i1, i2⟩ := args0 r g hl
    refine base (Fl := F) (Fc := []) (Fr0 := []) (by simp) (i1 H) fun {Hf' H' outs Fo e'} sm k rel hp => ⟨[], List.nil_sublist _, ?_⟩
    rw [i2 _ _ _ hp]
    simpa using relE_frame sm (fun a ha => k a (by simpa using ha)) S.rel
  | [k], _ =>
    have key := lent_at g hl
    obtain ⟨o, ek⟩ := key
    obtain ⟨v, Fl, F1, Fr0, q1, q2, q3, q4⟩ := relE_at S.rel ek
    obtain ⟨i1, i2⟩ := args1 ek q1 q3 r g hl
    refine base q2 i1 fun {Hf' H' outs Fo e'} sm k' rel hp => ?_
    obtain ⟨o', Fk, z1, z2, z3⟩ := i2 _ _ _ _ _ _ rel hp
    refine ⟨Fk, z1, ?_⟩
    rw [z3]
    have := (q4 sm k').1 z2
    have eσ : σ.set k (some v) = σ := by
      obtain ⟨hk, hv⟩ := List.getElem?_eq_some_iff.mp q1
      rw [← hv]; exact List.set_getElem_self hk
    rwa [eσ] at this
  | a :: b :: r, l => exact absurd l (by simp)
/-- an owned result is given away, to be read alone -/
theorem Fin.freeze {Fv : List Addr} {o : O} {v : V} (f : Fin K fa ca Hf H F Hf1 H1 σ e F1 Fv) (r : repO K fa ca Hf1 H1 o v Fv) : ∃ Hf2, Fin K fa ca Hf H F Hf2 H1 σ e F1 [] ∧ repD K fa ca Hf2 o.toD v := by
  have nd := List.nodup_append.mp f.nd
  let Hf2 : Hp := fun a => if a ∈ Fv then H1 a else Hf1 a
  have sm : Same Hf1 Hf2 := fun a o' h => by
    show (if a ∈ Fv then H1 a else Hf1 a) = _
    by_cases ha : a ∈ Fv
    · rw [f.dis a ha] at h; cases h
    · rw [if_neg ha]; exact h
  have sub : Same Hf2 H1 := fun a o' h => by
    have h : (if a ∈ Fv then H1 a else Hf1 a) = some o' := h
    by_cases ha : a ∈ Fv
    · rw [if_pos ha] at h; exact h
    · rw [if_neg ha] at h; exact f.st.sub _ _ h
  refine ⟨Hf2, ⟨⟨sub, relE_frame sm (fun _ _ => rfl) f.st.rel, f.st.nd, fun a ha => ?_⟩, by simpa using f.st.nd, by simp, f.ext.fz.trans sm, f.ext.keep, fun a h => ?_⟩, repO_freeze sm (fun a ha => if_pos ha) r⟩
  · show (if a ∈ Fv then H1 a else Hf1 a) = none
    rw [if_neg fun hb => nd.2.2 a ha a hb rfl]
    exact f.st.dis a ha
  · rcases h with h | h
    · exact f.ext.new a (.inl (List.mem_append_left _ (by simpa using h)))
    · have h : (if a ∈ Fv then H1 a else Hf1 a) ≠ none := h
      by_cases ha : a ∈ Fv
      · exact f.ext.new a (.inl (List.mem_append_right _ ha))
      · rw [if_neg ha] at h; exact f.ext.new a (.inr h)
end
section
variable {X : Cx} {G : GT} {fa ca : Nat → Addr} {C : Cfg} {W : WX} {x y z : Expr} {xs : List Expr} {pos p : Pos}
theorem s_a_d {a : TE} (h : PE X x (rE X.K fa ca C W a)) : PE X x (rA X.K fa ca C W (.d a)) := by
  refine h.weak ?_
  rintro σ H Q ⟨Hf, e, F, S, h⟩
  simp only [evalA] at h
  refine ⟨Hf, e, F, S, Go.mono (Go.bind (R1 := RD X.K fa ca) (r := evalE C a e) h) ?_⟩
  rintro v H1 ⟨d, e1, Hf1, F1, Fv, q1, f1, ⟨rfl, r1⟩, h1⟩
  exact h1 v Hf1 H1 F1 [] f1.st.fin ⟨rfl, r1⟩
theorem s_a_b {k : Nat} {n : Str} (hN : X.N[k]? = some n) (hv : Vis X.env.scope n) (hd : (n == ("__debug__" : Str)) = false) (hcd : (n == ("__classdict__" : Str)) = false) : PE X (.Name n pos) (rA X.K fa ca C W (.b k)) := by
  refine (pe_var (i := k) hN hv hd hcd).weak ?_
  rintro σ H Q ⟨Hf, e, F, S, h⟩
  simp only [evalA] at h
  cases q : e.at k with
  | none => rw [q] at h; exact h.elim
  | some o =>
    rw [q] at h
    obtain ⟨v, Fl, F1, Fr, e1, _⟩ := relE_at S.rel q
    exact ⟨v, e1, h v Hf H F [] S.fin ⟨rfl, e1⟩⟩
theorem s_as_nil : PA X [] (rAs X.K fa ca C W []) := by
  refine pa_nil.weak ?_
  rintro σ H Q ⟨Hf, e, F, S, h⟩
  simp only [evalAs] at h
  exact h [] Hf H F [] S.fin ⟨rfl, rfl⟩
theorem s_as_cons {a : TA} {as : List TA} (ha : PE X x (rA X.K fa ca C W a)) (hr : PA X xs (rAs X.K fa ca C W as)) (hs : notStar x = true) : PA X (x :: xs) (rAs X.K fa ca C W (a :: as)) := by
  refine (pa_cons ha hr (starEach_of hs)).weak ?_
  rintro σ H Q ⟨Hf, e, F, S, h⟩
  simp only [evalAs] at h
  refine ⟨Hf, e, F, S, Go.mono (Go.bind (R1 := RAv X.K fa ca σ) (r := evalA C a e) h) ?_⟩
  rintro v1 H1 ⟨p1, e1, Hf1, F1, Fv1, q1, f1, r1, h1⟩
  refine ⟨Hf1, e1, F1, f1.st, Go.mono (Go.bind (R1 := RAvs X.K fa ca σ) (r := evalAs C as e1) h1) ?_⟩
  rintro vs H2 ⟨ps, e2, Hf2, F2, Fv2, q2, f2, r2, h2⟩
  have z : Fv2 = [] := by cases ps with
    | nil => exact r2.2
    | cons => obtain ⟨_, _, _, _, _, z⟩ := r2; exact z
  subst z
  have z1 : Fv1 = [] := r1.1
  subst z1
  exact h2 (v1 :: vs) Hf2 H2 F2 [] f2.st.fin ⟨v1, vs, rfl, r1.mono f2.ext.fz, r2, rfl⟩
theorem s_callO (gx : GX G C fa ca W X) {f : Nat} {n : Str} {ps : List Str} {as : List TA} {perm : List Nat} (hf : G.fns[f]? = some (n, ps)) (hg : Gl X n) (hdb : (n == ("__debug__" : Str)) = false) (ha : PA X (x :: xs) (rAs X.K fa ca C W as)) (hx : notStar x = true) (hxs : xs.all notStar = true) (hlen : as.length = ps.length) :
    PE X (.Call (.Name n p) (x :: xs) [] pos) (rO X.K fa ca C W (.call f as perm)) := by
  obtain ⟨hm, hk, k, fd, FN, hr, hb⟩ := gx.fn f n ps hf
  refine (pe_callS FN hr hg hm hk hb (E := WE W) (fun σ => passAt gx.takes σ) ha hdb (starEach_of hx) (plain_of hxs)).weak ?_
  rintro σ H Q ⟨Hf, e, F, S, h⟩
  simp only [evalO] at h
  refine ⟨Hf, e, F, S, Go.mono (Go.bind (R1 := RAvs X.K fa ca σ) (r := evalAs C as e) h) ?_⟩
  rintro vs H1 ⟨ws, e1, Hf1, F1, Fv1, q1, f1, r1, h1⟩
  have lv : vs.length = ps.length := by rw [← RAvs_len r1, evalAs_len q1, hlen]
  unfold doCall at h1
  by_cases hl : (lent ws).length ≤ 1
  · rw [if_pos hl] at h1
    cases hg : getAll (fun v => AV.get v e1) ws with
    | none => rw [hg] at h1; exact h1.elim
    | some os =>
      rw [hg] at h1
      obtain ⟨Fc, st, back⟩ := call_st f1.st r1 hg hl
      refine ⟨lv, Hf1, os, Fc, st, ?_⟩
      dsimp only at h1
      cases hc : C.call f os with
      | stuck => rw [hc] at h1; exact h1.elim
      | ok o outs =>
        rw [hc] at h1
        dsimp only at h1
        cases hp : putOuts ws outs e1 with
        | none => rw [hp] at h1; exact h1.elim
        | some e2 =>
          rw [hp] at h1
          intro v Hf' H' Fo Fv fin ro
          obtain ⟨F', f'⟩ := back fin (fun a ha => repO_mem ro a ha) hp
          exact h1 v Hf' H' F' Fv f' ro
      | exc c d outs =>
        rw [hc] at h1
        dsimp only at h1
        cases hp : putOuts ws outs e1 with
        | none => rw [hp] at h1; exact h1.elim
        | some e2 =>
          rw [hp] at h1
          intro dd w Hf' H' Fo fin hd rd
          obtain ⟨F', f'⟩ := back fin (by simp) hp
          exact h1 dd w Hf' H' F' f' hd rd
  · rw [if_neg hl] at h1; exact h1.elim
theorem s_call {f : Nat} {as : List TA} {perm : List Nat} (h : PE X x (rO X.K fa ca C W (.call f as perm))) : PE X x (rE X.K fa ca C W (.call f as perm)) := by
  refine h.weak ?_
  rintro σ H Q ⟨Hf, e, F, S, h⟩
  refine ⟨Hf, e, F, S, ?_⟩
  simp only [evalE] at h
  simp only [evalO]
  have h : Go X.K fa ca W (RD X.K fa ca) (((evalAs C as e).bind fun vs e1 => doCall C f vs e1).bind fun o e2 => .ok o.toD e2) Hf H F σ Q := by
    revert h
    cases evalAs C as e <;> exact id
  revert h
  generalize ((evalAs C as e).bind fun vs e1 => doCall C f vs e1) = r
  intro h
  cases r with
  | ok o e1 =>
    intro v Hf' H' F' Fv fin ro
    obtain ⟨Hf2, f2, r2⟩ := fin.freeze ro
    exact h v Hf2 H' F' [] f2 ⟨rfl, r2⟩
  | exc c d e1 => exact h
  | stuck => exact h
end
end TL

set_option maxRecDepth 100000
set_option maxHeartbeats 1000000
namespace TL
open PySem PySem.Spec PyProof.Rows L2
section
variable {K : PySem.W.Frag} {fa ca : Nat → Addr} {C : Cfg} {W : WX} {Hf H Hf1 H1 Hf2 H2 : Hp} {F F1 F2 Fv Fv1 Fv2 Fw : List Addr} {σ σ1 : L2.St} {e e1 e' : En} {P : List Nat} {D : Ends}
/-- the rest is still asked from the start -/
theorem Go.bindH {α β γ δ : Type} {R1 : Hp → Hp → α → γ → List Addr → Prop} {R : Hp → Hp → β → δ → List Addr → Prop} {r : Res α} {k : α → En → Res β} {Q : δ → Hp → Prop} (h : Go K fa ca W R (r.bind k) Hf H F σ Q) :
    Go K fa ca W R1 r Hf H F σ (fun b H1 => ∃ a e1 Hf1 F1 Fv, r = .ok a e1 ∧ Fin K fa ca Hf H F Hf1 H1 σ e1 F1 Fv ∧ R1 Hf1 H1 a b Fv ∧ Go K fa ca W R (k a e1) Hf H F σ Q) := by
  cases r with
  | ok a e1 => exact fun b Hf1 H1 F1 Fv f r1 => ⟨a, e1, Hf1, F1, Fv, rfl, f, r1, h⟩
  | exc c d e1 => exact h
  | stuck => exact h
/-- a later step, something held meanwhile -/
theorem Go.held {α β γ δ : Type} {R1 : Hp → Hp → α → γ → List Addr → Prop} {R : Hp → Hp → β → δ → List Addr → Prop} {r : Res α} {k : α → En → Res β} {Q : δ → Hp → Prop} (f : Fin K fa ca Hf H F Hf1 H1 σ e1 F1 Fv1) (own : ∀ p ∈ Fv1, ∃ o, H1 p = some o) (h : Go K fa ca W R (r.bind k) Hf H F σ Q) :
    Go K fa ca W R1 r Hf1 H1 F1 σ (fun b H2 => ∃ a e2 Hf2 F2 Fv2, r = .ok a e2 ∧ Fin K fa ca Hf H F Hf2 H2 σ e2 F2 (Fv1 ++ Fv2) ∧ (∀ p ∈ Fv1, H2 p = H1 p) ∧ Same Hf1 Hf2 ∧ R1 Hf2 H2 a b Fv2 ∧ Go K fa ca W R (k a e2) Hf H F σ Q) := by
  cases r with
  | ok a e2 =>
    intro b Hf2 H2 F2 Fv2 f2 r2
    obtain ⟨g1, g2⟩ := f.seq f2 own
    exact ⟨a, e2, Hf2, F2, Fv2, rfl, g1, g2, f2.ext.fz, r2, h⟩
  | exc c d e2 =>
    intro dd w Hf2 H2 F2 f2 h1 h2
    exact h dd w Hf2 H2 F2 ⟨f2.st, f2.nd, f2.dis, f.trans (σ' := σ) (Fv2 := []) f2.ext⟩ h1 h2
  | stuck => exact h
/-! ### statements -/
def GoS (K : PySem.W.Frag) (fa ca : Nat → Addr) (W : WX) (P : List Nat) (r : FRes) (Hf H : Hp) (F : List Addr) (σ : L2.St) (D : Ends) : Prop := match r with
  | .next e' => ∀ Hf' H' σ' F', Fin K fa ca Hf H F Hf' H' σ' e' F' [] → (∀ k, k ∈ P → σ'[k]? = σ[k]?) → D.nx σ' H'
  | .ret o e' => ∀ v Hf' H' σ' F' Fv, Fin K fa ca Hf H F Hf' H' σ' e' F' Fv → (∀ k, k ∈ P → σ'[k]? = σ[k]?) → repO K fa ca Hf' H' o v Fv → D.rt v H'
  | .exc c d e' => ∀ dd w Hf' H' σ' F', Fin K fa ca Hf H F Hf' H' σ' e' F' [] → (∀ k, k ∈ P → σ'[k]? = σ[k]?) → Hf' dd = some (.xd [("value", w)]) → repD K fa ca Hf' d w → W (.ref (ca c)) (some dd) σ' H'
  | .stuck => False
def tS (K : PySem.W.Frag) (fa ca : Nat → Addr) (W : WX) (P : List Nat) (ev : En → FRes) : L2.TS := fun D σ H => ∃ Hf e F, Stt K fa ca Hf H σ e F ∧ GoS K fa ca W P (ev e) Hf H F σ D
theorem Fin.comp (f : Fin K fa ca Hf H F Hf1 H1 σ e F1 []) (g : Fin K fa ca Hf1 H1 F1 Hf2 H2 σ1 e1 F2 Fv) : Fin K fa ca Hf H F Hf2 H2 σ1 e1 F2 Fv := by
  have := (f.seq g (by simp)).1
  simpa using this
theorem GoS.from {r : FRes} (f : Fin K fa ca Hf H F Hf1 H1 σ1 e1 F1 []) (hp : ∀ k, k ∈ P → σ1[k]? = σ[k]?) (h : GoS K fa ca W P r Hf H F σ D) : GoS K fa ca W P r Hf1 H1 F1 σ1 D := by
  cases r with
  | next e' => exact fun Hf' H' σ' F' g k => h Hf' H' σ' F' (f.comp g) fun j hj => (k j hj).trans (hp j hj)
  | ret o e' => exact fun v Hf' H' σ' F' Fv g k => h v Hf' H' σ' F' Fv (f.comp g) fun j hj => (k j hj).trans (hp j hj)
  | exc c d e' => exact fun dd w Hf' H' σ' F' g k => h dd w Hf' H' σ' F' (f.comp g) fun j hj => (k j hj).trans (hp j hj)
  | stuck => exact h
theorem GoS.ends {r : FRes} {D' : Ends} (h : GoS K fa ca W P r Hf H F σ D) (hn : ∀ σ H, D.nx σ H → D'.nx σ H) (hr : ∀ v H, D.rt v H → D'.rt v H) : GoS K fa ca W P r Hf H F σ D' := by
  cases r with
  | next e' => exact fun Hf' H' σ' F' g k => hn _ _ (h Hf' H' σ' F' g k)
  | ret o e' => exact fun v Hf' H' σ' F' Fv g k ro => hr _ _ (h v Hf' H' σ' F' Fv g k ro)
  | exc c d e' => exact h
  | stuck => exact h
/-- one behind another -/
theorem GoS.seq {r : FRes} {f : En → FRes} {D' : Ends} (h : GoS K fa ca W P (r.bind f) Hf H F σ D) (hr : D'.rt = D.rt) (hn : D'.nx = fun σ1 H1 => tS K fa ca W P f D σ1 H1) : GoS K fa ca W P r Hf H F σ D' := by
  cases r with
  | next e' =>
    intro Hf' H' σ' F' g k
    rw [hn]
    exact ⟨Hf', e', F', g.st, h.from g k⟩
  | ret o e' => intro v Hf' H' σ' F' Fv g k ro; rw [hr]; exact h v Hf' H' σ' F' Fv g k ro
  | exc c d e' => exact h
  | stuck => exact h
/-- an expression first -/
theorem GoS.st {α γ : Type} {R1 : Hp → Hp → α → γ → List Addr → Prop} {r : Res α} {k : α → En → FRes} (h : GoS K fa ca W P (r.st k) Hf H F σ D) :
    Go K fa ca W R1 r Hf H F σ (fun b H1 => ∃ a e1 Hf1 F1 Fv, r = .ok a e1 ∧ Fin K fa ca Hf H F Hf1 H1 σ e1 F1 Fv ∧ R1 Hf1 H1 a b Fv ∧ GoS K fa ca W P (k a e1) Hf H F σ D) := by
  cases r with
  | ok a e1 => exact fun b Hf1 H1 F1 Fv f r1 => ⟨a, e1, Hf1, F1, Fv, rfl, f, r1, h⟩
  | exc c d e1 => exact fun dd w Hf' H' F' f h1 h2 => h dd w Hf' H' σ F' f (fun _ _ => rfl) h1 h2
  | stuck => exact h
theorem GoS.held {α γ : Type} {R1 : Hp → Hp → α → γ → List Addr → Prop} {r : Res α} {k : α → En → FRes} (f : Fin K fa ca Hf H F Hf1 H1 σ e1 F1 Fv1) (own : ∀ p ∈ Fv1, ∃ o, H1 p = some o) (h : GoS K fa ca W P (r.st k) Hf H F σ D) :
    Go K fa ca W R1 r Hf1 H1 F1 σ (fun b H2 => ∃ a e2 Hf2 F2 Fv2, r = .ok a e2 ∧ Fin K fa ca Hf H F Hf2 H2 σ e2 F2 (Fv1 ++ Fv2) ∧ (∀ p ∈ Fv1, H2 p = H1 p) ∧ Same Hf1 Hf2 ∧ R1 Hf2 H2 a b Fv2 ∧ GoS K fa ca W P (k a e2) Hf H F σ D) := by
  cases r with
  | ok a e2 =>
    intro b Hf2 H2 F2 Fv2 f2 r2
    obtain ⟨g1, g2⟩ := f.seq f2 own
    exact ⟨a, e2, Hf2, F2, Fv2, rfl, g1, g2, f2.ext.fz, r2, h⟩
  | exc c d e2 =>
    intro dd w Hf2 H2 F2 f2 h1 h2
    exact h dd w Hf2 H2 σ F2 ⟨f2.st, f2.nd, f2.dis, f.trans (σ' := σ) (Fv2 := []) f2.ext⟩ (fun _ _ => rfl) h1 h2
  | stuck => exact h
/-- a name is stored -/
theorem Fin.put {x : O} {v : V} {k : Nat} (f : Fin K fa ca Hf H F Hf1 H1 σ e1 F1 (Fv ++ Fw)) (ro : repO K fa ca Hf1 H1 x v Fv) : ∃ F2, Fin K fa ca Hf H F Hf1 H1 (σ.set k (some v)) (e1.put k x) F2 Fw := by
  have hlen := relE_len f.st.rel
  have nd := List.nodup_append.mp f.nd
  have ndv := List.nodup_append.mp nd.2.1
  by_cases hk : k < e1.length
  · obtain ⟨Fl, Fx, Fr, e2, e3⟩ := relE_put f.st.rel hk
    subst e2
    have rel := (e3 (Hf' := Hf1) (H' := H1) (Same.refl _) (fun _ _ => rfl)).1 ro
    have ndF := List.nodup_append.mp nd.1
    have ndR := List.nodup_append.mp ndF.2.1
    have n1 : (Fl ++ (Fv ++ Fr)).Nodup := by
      refine List.nodup_append.mpr ⟨ndF.1, List.nodup_append.mpr ⟨ndv.1, ndR.2.1, fun a ha b hb z => ?_⟩, fun a ha b hb z => ?_⟩
      · exact nd.2.2 b (by simp [hb]) a (by simp [ha]) z.symm
      · rcases List.mem_append.mp hb with y | y
        · exact nd.2.2 a (by simp [ha]) b (by simp [y]) z
        · exact ndF.2.2 a ha b (List.mem_append_right _ y) z
    refine ⟨Fl ++ (Fv ++ Fr), ⟨f.st.sub, rel, n1, fun a ha => ?_⟩, List.nodup_append.mpr ⟨n1, ndv.2.1, fun a ha b hb z => ?_⟩, fun a ha => f.dis a (by simp [ha]), f.ext.fz, f.ext.keep, fun a h => f.ext.new a ?_⟩
    · rcases List.mem_append.mp ha with z | z
      · exact f.st.dis a (by simp [z])
      · rcases List.mem_append.mp z with z | z
        · exact f.dis a (by simp [z])
        · exact f.st.dis a (by simp [z])
    · rcases List.mem_append.mp ha with y | y
      · exact nd.2.2 a (by simp [y]) b (by simp [hb]) z
      · rcases List.mem_append.mp y with y | y
        · exact ndv.2.2 a y b hb z
        · exact nd.2.2 a (by simp [y]) b (by simp [hb]) z
    · rcases h with h | h
      · left
        simp only [List.mem_append] at h ⊢
        rcases h with (h | h | h) | h
        · exact .inl (.inl h)
        · exact .inr (.inl h)
        · exact .inl (.inr (.inr h))
        · exact .inr (.inr h)
      · exact .inr h
  · have q1 : e1.put k x = e1 := by unfold En.put; exact List.set_eq_of_length_le (by omega)
    have q2 : σ.set k (some v) = σ := List.set_eq_of_length_le (by omega)
    rw [q1, q2]
    refine ⟨F1, f.st, List.nodup_append.mpr ⟨nd.1, ndv.2.1, fun a ha b hb z => nd.2.2 a ha b (by simp [hb]) z⟩, fun a ha => f.dis a (by simp [ha]), f.ext.fz, f.ext.keep, fun a h => f.ext.new a ?_⟩
    rcases h with h | h
    · left
      simp only [List.mem_append] at h ⊢
      rcases h with h | h
      · exact .inl h
      · exact .inr (.inr h)
    · exact .inr h
def setAll : L2.St → List Nat → List V → L2.St
  | σ, k :: ks, v :: vs => setAll (σ.set k (some v)) ks vs
  | σ, _, _ => σ
theorem Fin.putAll : ∀ {ks : List Nat} {xs : List O} {vs : List V} {σ : L2.St} {e1 e' : En} {F1 Fv : List Addr}, Fin K fa ca Hf H F Hf1 H1 σ e1 F1 Fv → repOs K fa ca Hf1 H1 xs vs Fv → putAll ks xs e1 = some e' → ∃ F2, Fin K fa ca Hf H F Hf1 H1 (setAll σ ks vs) e' F2 []
  | [], [], _, σ, e1, e', F1, _, f, r, h => by
    obtain ⟨rfl, rfl⟩ := r
    have h : some e1 = some e' := h
    cases h
    exact ⟨F1, f⟩
  | k :: ks, x :: xs, _, σ, e1, e', F1, _, f, ⟨v, r, G1, G2, h1, h2, h3, h4⟩, h => by
    subst h1 h2
    obtain ⟨F2, g⟩ := f.put (k := k) h3
    have z := Fin.putAll g h4 h
    exact z
  | [], _ :: _, _, _, _, _, _, _, _, _, h => by cases h
  | _ :: _, [], _, _, _, _, _, _, _, _, h => by cases h
theorem repOs_own {xs : List O} {vs : List V} (r : repOs K fa ca Hf H xs vs F) : ∀ p ∈ F, ∃ o, H p = some o := fun p hp => by
  obtain ⟨ws, h⟩ := repOs_mem r p hp
  exact ⟨_, h⟩
theorem repO_own {x : O} {v : V} (r : repO K fa ca Hf H x v F) : ∀ p ∈ F, ∃ o, H p = some o := fun p hp => by
  obtain ⟨ws, h⟩ := repO_mem r p hp
  exact ⟨_, h⟩
end
section
variable {X : Cx} {G : GT} {fa ca : Nat → Addr} {C : Cfg} {W : WX} {x y z : Expr} {xs : List Expr} {pos p px py pz : Pos} {P : List Nat}
/-! ### owned values -/
theorem s_o_e {a : TE} (h : PE X x (rE X.K fa ca C W a)) : PE X x (rO X.K fa ca C W (.e a)) := by
  refine h.weak ?_
  rintro σ H Q ⟨Hf, e, F, S, h⟩
  simp only [evalO] at h
  refine ⟨Hf, e, F, S, Go.mono (Go.bindH (R1 := RD X.K fa ca) (r := evalE C a e) h) ?_⟩
  rintro v H1 ⟨d, e1, Hf1, F1, Fv, q1, f1, ⟨rfl, r1⟩, h1⟩
  exact h1 v Hf1 H1 F1 [] f1 ⟨rfl, r1⟩
theorem s_o_f {t : TF} (h : PE X x (rF X.K fa ca C W t)) : PE X x (rO X.K fa ca C W (.f t)) := by
  refine h.weak ?_
  rintro σ H Q ⟨Hf, e, F, S, h⟩
  simp only [evalO] at h
  refine ⟨Hf, e, F, S, Go.mono (Go.bindH (R1 := RF X.K fa ca) (r := evalF C t e) h) ?_⟩
  rintro ⟨p, vs⟩ H1 ⟨ds, e1, Hf1, F1, Fv1, q1, f1, ⟨rfl, r, hl, hp⟩, h1⟩
  exact h1 (.ref p) Hf1 _ F1 [p] (f1.own hp (by simp)) ⟨p, vs, [], rfl, upd_same, rfl, by rw [List.length_map]; exact hl, repOs_frz r⟩
theorem s_os_nil : PA X [] (rOs X.K fa ca C W []) := by
  refine pa_nil.weak ?_
  rintro σ H Q ⟨Hf, e, F, S, h⟩
  simp only [evalOs] at h
  exact h [] Hf H F [] S.fin ⟨rfl, rfl⟩
theorem s_os_cons {a : TO} {as : List TO} (ha : PE X x (rO X.K fa ca C W a)) (hr : PA X xs (rOs X.K fa ca C W as)) (hs : notStar x = true) : PA X (x :: xs) (rOs X.K fa ca C W (a :: as)) := by
  refine (pa_cons ha hr (starEach_of hs)).weak ?_
  rintro σ H Q ⟨Hf, e, F, S, h⟩
  simp only [evalOs] at h
  refine ⟨Hf, e, F, S, Go.mono (Go.bindH (R1 := RO X.K fa ca) (r := evalO C a e) h) ?_⟩
  rintro v1 H1 ⟨o1, e1, Hf1, F1, Fv1, q1, f1, r1, h1⟩
  refine ⟨Hf1, e1, F1, f1.st, Go.mono (Go.held (R1 := ROs X.K fa ca) (r := evalOs C as e1) f1 (repO_own r1) h1) ?_⟩
  rintro vs H2 ⟨os, e2, Hf2, F2, Fv2, q2, f2, k2, sm, r2, h2⟩
  exact h2 (v1 :: vs) Hf2 H2 F2 _ f2 ⟨v1, vs, Fv1, Fv2, rfl, rfl, repO_frame sm k2 r1, r2⟩
theorem evalOs_len : ∀ {as : List TO} {e e1 : En} {ws : List O}, evalOs C as e = .ok ws e1 → ws.length = as.length
  | [], _, _, _, q => by simp only [evalOs] at q; injection q with q _; rw [← q]; rfl
  | a :: as, _, _, _, q => by
    simp only [evalOs] at q
    obtain ⟨w, e2, a1, a2⟩ := bind_inv q
    obtain ⟨w2, e3, a3, a4⟩ := bind_inv a2
    injection a4 with a4 _
    rw [← a4]; simp [evalOs_len a3]
theorem s_o_lst {es : List TO} (hl : es.length ≤ 1000) (ha : PA X xs (rOs X.K fa ca C W es)) : PE X (.List xs pos) (rO X.K fa ca C W (.lst es)) := by
  refine (pe_lst ha).weak ?_
  rintro σ H Q ⟨Hf, e, F, S, h⟩
  simp only [evalO] at h
  refine ⟨Hf, e, F, S, Go.mono (Go.bindH (R1 := ROs X.K fa ca) (r := evalOs C es e) h) ?_⟩
  rintro vs H1 ⟨os, e1, Hf1, F1, Fv1, q1, f1, r1, h1⟩
  have hz : os.length ≤ sizeLine := by rw [evalOs_len q1, sizeLine_eq]; omega
  refine ⟨by rw [← repOs_len r1]; exact hz, fun p hp => ?_⟩
  refine h1 (.ref p) Hf1 _ F1 (p :: Fv1) (f1.own hp (repOs_own r1)) ⟨p, vs, Fv1, rfl, upd_same, rfl, hz, repOs_frame (Same.refl _) (fun a ha => ?_) r1⟩
  refine upd_ne fun z => ?_
  obtain ⟨ws, hw⟩ := repOs_mem r1 a ha
  rw [z, hp] at hw; cases hw
theorem s_o_tup {es : List TO} {k : Nat} (hl : es.length ≤ 1000) (ha : PA X xs (rOs X.K fa ca C W es)) : PE X (.Tuple xs k pos) (rO X.K fa ca C W (.tup es)) := by
  refine (pe_tup ha).weak ?_
  rintro σ H Q ⟨Hf, e, F, S, h⟩
  simp only [evalO] at h
  refine ⟨Hf, e, F, S, Go.mono (Go.bindH (R1 := ROs X.K fa ca) (r := evalOs C es e) h) ?_⟩
  rintro vs H1 ⟨os, e1, Hf1, F1, Fv1, q1, f1, r1, h1⟩
  have hz : os.length ≤ sizeLine := by rw [evalOs_len q1, sizeLine_eq]; omega
  refine ⟨by rw [← repOs_len r1]; exact hz, fun p hp => ?_⟩
  obtain ⟨g, k'⟩ := f1.seq (f1.st.new (o := .tup vs) hp) (repOs_own r1)
  rw [List.append_nil] at g
  exact h1 (.ref p) _ _ F1 Fv1 g ⟨p, vs, rfl, SqT.of upd_same, hz, repOs_frame (f1.st.new (o := .tup vs) hp).ext.fz k' r1⟩
theorem s_o_mv {k : Nat} {n : Str} (hN : X.N[k]? = some n) (hv : Vis X.env.scope n) (hd : (n == ("__debug__" : Str)) = false) (hcd : (n == ("__classdict__" : Str)) = false) : PE X (.Name n pos) (rO X.K fa ca C W (.mv k)) := by
  refine (pe_var (i := k) hN hv hd hcd).weak ?_
  rintro σ H Q ⟨Hf, e, F, S, h⟩
  simp only [evalO] at h
  cases q : e.at k with
  | none => rw [q] at h; exact h.elim
  | some o =>
    rw [q] at h
    obtain ⟨v, Fl, F1, Fr, e1, e2, e3, e4⟩ := relE_at S.rel q
    have rel := (e4 (Hf' := Hf) (H' := H) (Same.refl _) (fun _ _ => rfl)).2
    subst e2
    have nd := List.nodup_append.mp S.nd
    have ndR := List.nodup_append.mp nd.2.1
    have n1 : (Fl ++ Fr).Nodup := List.nodup_append.mpr ⟨nd.1, ndR.2.1, fun a ha b hb => nd.2.2 a ha b (List.mem_append_right _ hb)⟩
    refine ⟨v, e1, h v Hf H (Fl ++ Fr) F1 ⟨⟨S.sub, rel, n1, fun a ha => S.dis a (by rcases List.mem_append.mp ha with z | z <;> simp [z])⟩, ?_, fun a ha => S.dis a (by simp [ha]), Same.refl _, fun _ _ h _ => h, fun a h => ?_⟩ e3⟩
    · refine List.nodup_append.mpr ⟨n1, ndR.1, fun a ha b hb z => ?_⟩
      rcases List.mem_append.mp ha with y | y
      · exact nd.2.2 a y b (List.mem_append_left _ hb) z
      · exact ndR.2.2 b hb a y z.symm
    · rcases h with h | h
      · left
        simp only [List.mem_append] at h ⊢
        rcases h with (h | h) | h
        · exact .inl h
        · exact .inr (.inr h)
        · exact .inr (.inl h)
      · exact .inr (.inl h)
theorem s_o_ife {t : TE} {a b : TO} (ht : PT X x (L2.tB (rE X.K fa ca C W t))) (ha : PE X y (rO X.K fa ca C W a)) (hb : PE X z (rO X.K fa ca C W b)) : PE X (.IfExp x y z pos) (rO X.K fa ca C W (.ife t a b)) := by
  refine (pe_ifExp ht ha hb).weak ?_
  rintro σ H Q ⟨Hf, e, F, S, h⟩
  simp only [evalO] at h
  refine ⟨Hf, e, F, S, Go.mono (Go.bind (R1 := RD X.K fa ca) (r := evalE C t e) h) ?_⟩
  rintro v1 H1 ⟨d, e1, Hf1, F1, Fv1, q1, f1, ⟨rfl, r1⟩, h1⟩
  cases d with
  | bl t => cases r1; cases t <;> exact ⟨_, rfl, Hf1, e1, F1, f1.st, h1⟩
  | _ => exact h1.elim
end
end TL

set_option maxRecDepth 100000
set_option maxHeartbeats 1000000
namespace TL
open PySem PySem.Spec PyProof.Rows L2
theorem _root_.L2.PS.weak {X : Cx} {s : Stmt} {t t' : L2.TS} (h : PS X s t) (k : ∀ D σ H, t' D σ H → t D σ H) : PS X s t' := ⟨fun pins s σ H D I q => h.run pins s σ H D I (k D σ H q)⟩
theorem _root_.L2.PSs.weak {X : Cx} {s : List Stmt} {t t' : L2.TS} (h : PSs X s t) (k : ∀ D σ H, t' D σ H → t D σ H) : PSs X s t' := ⟨fun pins s σ H D I q => h.run pins s σ H D I (k D σ H q)⟩
section
variable {K : PySem.W.Frag} {fa ca : Nat → Addr} {C : Cfg} {W : WX} {Hf H Hf1 H1 Hf2 H2 : Hp} {F F1 F2 Fv Fv1 Fv2 Fw : List Addr} {σ σ1 : L2.St} {e e1 e' : En} {P : List Nat} {D : Ends}
theorem rO_e {a : TE} {Q : VK} (h : rO K fa ca C W (.e a) σ H Q) : rE K fa ca C W a σ H Q := by
  obtain ⟨Hf, e, F, S, h⟩ := h
  simp only [evalO] at h
  refine ⟨Hf, e, F, S, Go.mono (Go.bindH (R1 := RD K fa ca) (r := evalE C a e) h) ?_⟩
  rintro v H1 ⟨d, e1, Hf1, F1, Fv, q1, f1, ⟨rfl, r1⟩, h1⟩
  exact h1 v Hf1 H1 F1 [] f1 ⟨rfl, r1⟩
theorem rO_f {t : TF} {Q : VK} (h : rO K fa ca C W (.f t) σ H Q) : rF K fa ca C W t σ H Q := by
  obtain ⟨Hf, e, F, S, h⟩ := h
  simp only [evalO] at h
  refine ⟨Hf, e, F, S, Go.mono (Go.bindH (R1 := RF K fa ca) (r := evalF C t e) h) ?_⟩
  rintro ⟨p, vs⟩ H1 ⟨ds, e1, Hf1, F1, Fv1, q1, f1, ⟨rfl, r, hl, hp⟩, h1⟩
  exact h1 (.ref p) Hf1 _ F1 [p] (f1.own hp (by simp)) ⟨p, vs, [], rfl, upd_same, rfl, by rw [List.length_map]; exact hl, repOs_frz r⟩
theorem rE_f {t : TF} {Q : VK} (h : rE K fa ca C W (.f t) σ H Q) : rF K fa ca C W t σ H Q := by
  obtain ⟨Hf, e, F, S, h⟩ := h
  simp only [evalE] at h
  refine ⟨Hf, e, F, S, Go.mono (Go.bind (R1 := RF K fa ca) (r := evalF C t e) h) ?_⟩
  rintro ⟨p, vs⟩ H1 ⟨ds, e1, Hf1, F1, Fv1, q1, f1, ⟨rfl, r, hl, hp⟩, h1⟩
  have g := newD (o := .lst vs) f1.st.fin hp
  exact h1 (.ref p) _ _ _ _ g ⟨rfl, p, vs, rfl, upd_same, hl, repDs_mono g.ext.fz r⟩
/-- name = value -/
theorem asg_weak {k : Nat} {a : TO} (hk : k ∉ P) (h : tS K fa ca W P (exec C (.asg k a)) D σ H) : tAsg (rO K fa ca C W a) (gName k) D σ H := by
  obtain ⟨Hf, e, F, S, h⟩ := h
  simp only [exec] at h
  refine ⟨Hf, e, F, S, Go.mono (GoS.st (R1 := RO K fa ca) (r := evalO C a e) h) ?_⟩
  rintro v H1 ⟨x, e1, Hf1, F1, Fv, q1, f1, r1, h1⟩
  obtain ⟨F2, g⟩ := Fin.put (Fw := []) (k := k) (by rw [List.append_nil]; exact f1) r1
  exact h1 Hf1 H1 _ F2 g fun j hj => List.getElem?_set_ne fun z => hk (by rw [z]; exact hj)
theorem nd_of {l l' : List Addr} (h : l.Nodup) (c : ∀ b : Addr, List.count b l' ≤ List.count b l) : l'.Nodup ∧ ∀ b ∈ l', b ∈ l := by
  rw [List.nodup_iff_count] at h ⊢
  exact ⟨fun b => Nat.le_trans (c b) (h b), fun b hb => List.count_pos_iff.mp (Nat.lt_of_lt_of_le (List.count_pos_iff.mpr hb) (c b))⟩
theorem repOs_snoc : ∀ {os : List O} {vs : List V} {F1 F2 : List Addr} {x : O} {y : V}, repOs K fa ca Hf H os vs F1 → repO K fa ca Hf H x y F2 → repOs K fa ca Hf H (os ++ [x]) (vs ++ [y]) (F1 ++ F2)
  | [], _, _, F2, a, v, h, h' => by
    obtain ⟨h1, h2⟩ := h
    subst h1 h2
    exact ⟨v, [], F2, [], rfl, by simp, h', rfl, rfl⟩
  | _ :: _, _, _, F3, a, v, ⟨u, r, F1, F2, h1, h2, h3, h4⟩, h' => by
    subst h1 h2
    exact ⟨u, r ++ [v], F1, F2 ++ F3, rfl, by simp, h3, repOs_snoc h4 h'⟩
/-- an owned list is written -/
theorem Fin.upd {a : Addr} {o : HO} (f : Fin K fa ca Hf H F Hf1 H1 σ e1 F1 Fv) (ha : a ∈ F1) (rel : relE K fa ca Hf1 (upd H1 a o) e' σ F2) (nd : F2.Nodup) (hs : ∀ b ∈ F2, b ∈ F1 ++ Fv) : Fin K fa ca Hf H F Hf1 (upd H1 a o) σ e' F2 [] := by
  have na : Hf1 a = none := f.st.dis a ha
  refine ⟨⟨fun b o' h => ?_, rel, nd, fun b hb => ?_⟩, by simpa using nd, by simp, f.ext.fz, fun b o' h hn => ?_, fun b h => ?_⟩
  · rw [upd_ne (fun z => by rw [z, na] at h; cases h)]; exact f.st.sub _ _ h
  · rcases List.mem_append.mp (hs b hb) with z | z
    · exact f.st.dis b z
    · exact f.dis b z
  · have z : b ≠ a := fun z => by
      subst z
      rcases f.ext.new b (.inl (List.mem_append_left _ ha)) with y | y | y
      · exact hn y
      · obtain ⟨o2, ho⟩ := Option.ne_none_iff_exists'.mp y
        have := f.ext.fz _ _ ho
        rw [na] at this; cases this
      · rw [h] at y; cases y
    rw [upd_ne z]; exact f.ext.keep b o' h hn
  · rcases h with h | h
    · exact f.ext.new b (.inl (hs b (by simpa using h)))
    · exact f.ext.new b (.inr h)
theorem isLst_at {k : Nat} (h : isLstAt e k = true) : ∃ os, e.at k = some (.lst os) := by
  unfold isLstAt at h
  cases q : e.at k with
  | none => rw [q] at h; cases h
  | some o => cases o with
    | lst os => exact ⟨os, rfl⟩
    | _ => rw [q] at h; cases h
theorem app_weak {X : Cx} {fa ca : Nat → Addr} {P : List Nat} {D : Ends} {σ : L2.St} {H : Hp} {W : WX} {C : Cfg} {k : Nat} {a : TO} (h : tS X.K fa ca W P (exec C (.app k [] a)) D σ H) :
    tDrop (tBM X.K "list" rAppend (fun σ H Q => ∃ v, σ[k]? = some (some v) ∧ Q v H) (tCons (rO X.K fa ca C W a) tNil)) D σ H := by
  obtain ⟨Hf, e, F, S, h⟩ := h
  simp only [exec] at h
  by_cases hi : isLstAt e k = true
  · rw [if_pos hi] at h
    obtain ⟨os0, h0⟩ := isLst_at hi
    obtain ⟨v0, Fl0, G0, Fr0, s1, s2, ⟨a0, vs0, F0, rfl, s3, s4, s5, s6⟩, s7⟩ := relE_at S.rel h0
    refine ⟨.ref a0, s1, .inl ⟨rfl, vs0, SqL.of s3⟩, ?_⟩
    simp only [evalEs, Res.st] at h
    have h : GoS X.K fa ca W P ((evalO C a e).st fun x e2 => optF ((En.modAt (appO x) k [] e2).map (·.1))) Hf H F σ D := h
    refine ⟨Hf, e, F, S, Go.mono (GoS.st (R1 := RO X.K fa ca) (r := evalO C a e) h) ?_⟩
    rintro y H1 ⟨x, e1, Hf1, F1, Fv, q1, f1, r1, h1⟩
    cases hm : En.modAt (appO x) k [] e1 with
    | none => rw [hm] at h1; exact h1.elim
    | some r =>
      rw [hm] at h1
      simp only [En.modAt, Option.bind_eq_some_iff, Option.map_eq_some_iff] at hm
      obtain ⟨o, g1, r2, g2, g3⟩ := hm
      have g2 : appO x o = some r2 := g2
      cases o with
      | lst os =>
        simp only [appO] at g2
        split at g2
        · rename_i hlt
          cases g2
          subst g3
          rw [listLine_eq] at hlt
          obtain ⟨v, Fl, G1, Fr, t1, t2, ⟨aa, vs, F', t3, t4, t5, t6, t7⟩, t8⟩ := relE_at f1.st.rel g1
          rw [s1] at t1
          cases t1
          cases t3
          subst t2 t5
          refine ⟨a0, vs, y, rfl, rfl, t4, by rw [← repOs_len t7]; exact hlt, ?_⟩
          obtain ⟨nd, mem⟩ := nd_of (l' := Fl ++ (a0 :: (F' ++ Fv) ++ Fr)) f1.nd fun b => by simp only [List.count_append, List.count_cons]; omega
          have nd0 := List.nodup_append.mp f1.nd
          have nL : ∀ b ∈ Fl ++ Fr, b ≠ a0 := fun b hb z => by
            subst z
            have := List.nodup_iff_count.mp f1.st.nd b
            have hb := List.count_pos_iff.mpr hb
            simp only [List.count_append, List.count_cons, beq_self_eq_true, if_true] at this hb
            omega
          have nF : a0 ∉ F' := fun z => by
            have := List.nodup_iff_count.mp f1.st.nd a0
            have hb := List.count_pos_iff.mpr z
            simp only [List.count_append, List.count_cons, beq_self_eq_true, if_true] at this hb
            omega
          have nv : a0 ∉ Fv := fun z => nd0.2.2 a0 (by simp) a0 z rfl
          have fr : repOs X.K fa ca Hf1 (upd H1 a0 (.lst (vs ++ [y]))) (os ++ [x]) (vs ++ [y]) (F' ++ Fv) :=
            repOs_snoc (repOs_frame (Same.refl _) (fun b hb => upd_ne fun z => nF (z ▸ hb)) t7) (repO_frame (Same.refl _) (fun b hb => upd_ne fun z => nv (z ▸ hb)) r1)
          have ht8 := t8 (Hf' := Hf1) (H' := upd H1 a0 (.lst (vs ++ [y]))) (Same.refl _) (fun b hb => upd_ne (nL b hb))
          have rel := ht8.1 (o' := .lst (os ++ [x])) (v' := .ref a0) (F1' := a0 :: (F' ++ Fv)) ⟨a0, _, _, rfl, upd_same, rfl, by rw [List.length_append, List.length_singleton]; omega, fr⟩
          have eσ : σ.set k (some (V.ref a0)) = σ := by
            obtain ⟨hk, hv⟩ := List.getElem?_eq_some_iff.mp s1
            rw [← hv]; exact List.set_getElem_self hk
          rw [eσ] at rel
          exact h1 _ _ σ _ (f1.upd (by simp) rel nd mem) fun _ _ => rfl
        · cases g2
      | _ => simp [appO] at g2
  · rw [if_neg hi] at h; exact h.elim
/-- name[i] = value -/
theorem store_weak {X : Cx} {fa ca : Nat → Addr} {P : List Nat} {D : Ends} {σ : L2.St} {H : Hp} {W : WX} {C : Cfg} {k : Nat} {i : TE} {a : TO} (h : tS X.K fa ca W P (exec C (.store k [] i a)) D σ H) :
    tAsg (rO X.K fa ca C W a) (gSub (fun σ H Q => ∃ v, σ[k]? = some (some v) ∧ Q v H) (rE X.K fa ca C W i) rSetL) D σ H := by
  obtain ⟨Hf, e, F, S, h⟩ := h
  simp only [exec] at h
  refine ⟨Hf, e, F, S, Go.mono (GoS.st (R1 := RO X.K fa ca) (r := evalO C a e) h) ?_⟩
  rintro y H0 ⟨x, e0, Hf0, F0, Fv, q0, f0, r0, h0⟩
  by_cases hi : isLstAt e0 k = true
  · rw [if_pos hi] at h0
    simp only [evalEs, Res.st] at h0
    have h0 : GoS X.K fa ca W P ((evalE C i e0).st fun i e3 => optF ((En.modAt (setO i x) k [] e3).map (·.1))) Hf H F σ D := h0
    obtain ⟨os0, g0⟩ := isLst_at hi
    obtain ⟨v0, Fl0, G0, Fr0, s1, _⟩ := relE_at f0.st.rel g0
    refine ⟨v0, s1, Hf0, e0, F0, f0.st, Go.mono (GoS.held (R1 := RD X.K fa ca) (r := evalE C i e0) f0 (repO_own r0) h0) ?_⟩
    rintro w H1 ⟨d, e1, Hf1, F1, Fv2, q1, f1, kp, sm, ⟨rfl, rd⟩, h1⟩
    rw [List.append_nil] at f1
    have r1 := repO_frame sm kp r0
    cases hm : En.modAt (setO d x) k [] e1 with
    | none => rw [hm] at h1; exact h1.elim
    | some r =>
      rw [hm] at h1
      simp only [En.modAt, Option.bind_eq_some_iff, Option.map_eq_some_iff] at hm
      obtain ⟨o, g1, r2, g2, g3⟩ := hm
      have g2 : setO d x o = some r2 := g2
      cases o with
      | lst os =>
        cases d with
        | int n =>
          cases rd
          simp only [setO, Option.map_eq_some_iff] at g2
          obtain ⟨j, hj, g2⟩ := g2
          subst g2 g3
          obtain ⟨v, Fl, G1, Fr, t1, t2, ⟨aa, vs, F', t3, t4, t5, t6, t7⟩, t8⟩ := relE_at f1.st.rel g1
          rw [s1] at t1
          cases t1
          subst t3 t2 t5
          have hjl : j < os.length := by
            unfold ixAt at hj
            split at hj
            · split at hj
              · cases hj; omega
              · cases hj
            · split at hj
              · cases hj; omega
              · cases hj
          obtain ⟨u, Fl', Gx, Fr', u1, u2, u3, u4⟩ := repOs_at t7 (List.getElem?_eq_getElem hjl)
          subst u2
          refine ⟨aa, vs, n, j, rfl, rfl, t4, by rw [← repOs_len t7, ← ixAt_eq]; exact hj, ?_⟩
          obtain ⟨nd, mem⟩ := nd_of (l' := Fl ++ (aa :: (Fl' ++ (Fv ++ Fr')) ++ Fr)) f1.nd fun b => by simp only [List.count_append, List.count_cons]; omega
          have nd0 := List.nodup_append.mp f1.nd
          have nL : ∀ b ∈ Fl ++ Fr, b ≠ aa := fun b hb z => by
            subst z
            have := List.nodup_iff_count.mp f1.st.nd b
            have hb := List.count_pos_iff.mpr hb
            simp only [List.count_append, List.count_cons, beq_self_eq_true, if_true] at this hb
            omega
          have nF : aa ∉ Fl' ++ Fr' := fun z => by
            have := List.nodup_iff_count.mp f1.st.nd aa
            have hb := List.count_pos_iff.mpr z
            simp only [List.count_append, List.count_cons, beq_self_eq_true, if_true] at this hb
            omega
          have nv : aa ∉ Fv := fun z => nd0.2.2 aa (by simp) aa z rfl
          have fr : repOs X.K fa ca Hf1 (upd H1 aa (.lst (vs.set j y))) (os.set j x) (vs.set j y) (Fl' ++ (Fv ++ Fr')) :=
            u4 (Same.refl _) (fun b hb => upd_ne fun z => nF (z ▸ hb)) (repO_frame (Same.refl _) (fun b hb => upd_ne fun z => nv (z ▸ hb)) r1)
          have ht8 := t8 (Hf' := Hf1) (H' := upd H1 aa (.lst (vs.set j y))) (Same.refl _) (fun b hb => upd_ne (nL b hb))
          have rel := ht8.1 (o' := .lst (os.set j x)) (v' := .ref aa) (F1' := aa :: (Fl' ++ (Fv ++ Fr'))) ⟨aa, _, _, rfl, upd_same, rfl, by rw [List.length_set]; exact t6, fr⟩
          have eσ : σ.set k (some (V.ref aa)) = σ := by
            obtain ⟨hk, hv⟩ := List.getElem?_eq_some_iff.mp s1
            rw [← hv]; exact List.set_getElem_self hk
          rw [eσ] at rel
          exact h1 _ _ σ _ (f1.upd (by simp) rel nd mem) fun _ _ => rfl
        | _ => simp [setO] at g2
      | _ => simp [setO] at g2
  · rw [if_neg hi] at h0; exact h0.elim
end
end TL

set_option maxRecDepth 100000
set_option maxHeartbeats 1000000
namespace TL
open PySem PySem.Spec PyProof.Rows L2
section
variable {K : PySem.W.Frag} {fa ca : Nat → Addr} {C : Cfg} {W : WX} {P : List Nat} {D : Ends}
/-- through the items -/
theorem for_weak {t : TT} {it : TI} {body : List TS} {σ : L2.St} {H : Hp} (hP : ∀ k, k ∈ tvars t → k ∉ P) (h : tS K fa ca W P (exec C (.for_ t it body)) D σ H) :
    tFor (rI K fa ca C W it) (gT K t) (tS K fa ca W P (execs C body)) D σ H := by
  obtain ⟨Hf, e, F, S, h⟩ := h
  simp only [exec] at h
  refine ⟨Hf, e, F, S, Go.mono (GoS.st (R1 := RW K fa ca) (r := evalI C it e) h) ?_⟩
  rintro J H0 ⟨ds, e0, Hf0, F0, Fv, q0, f0, ⟨rfl, hl, wk⟩, h0⟩
  have h0 : GoS K fa ca W P (loopF (fun d e => match bindT t d e with | some e => execs C body e | none => .stuck) ds e0) Hf H F σ D := h0
  generalize hf : (fun d e => match bindT t d e with | some e => execs C body e | none => FRes.stuck) = f at h0
  have g0 := h0.from (P := P) f0 (fun _ _ => rfl)
  let Iv : Nat → L2.St → Hp → Prop := fun i σ H => ∃ Hf e F, Same Hf0 Hf ∧ Stt K fa ca Hf H σ e F ∧ GoS K fa ca W P (loopF f (ds.drop i) e) Hf H F σ D
  refine ⟨fun i m σ H => m = ds.length - i ∧ i ≤ ds.length ∧ Iv i σ H, ⟨ds.length, rfl, Nat.zero_le _, Hf0, e0, F0, Same.refl _, f0.st, by simpa using g0⟩, ?_⟩
  rintro i m σ H ⟨rfl, hi, Hf, e, F, sm, S, g⟩
  have smH : Same Hf0 H := sm.trans S.sub
  by_cases hlt : i < ds.length
  · have hd : ds.drop i = ds[i] :: ds.drop (i + 1) := List.drop_eq_getElem_cons hlt
    rw [hd] at g
    simp only [loopF] at g
    refine .inr ⟨wk.go i _ smH hlt, Iv (i + 1), fun σ' H' p' => ⟨ds.length - (i + 1), by omega, rfl, hlt, p'⟩, fun x H' y => ?_⟩
    have got : ∃ Hf1, Fin K fa ca Hf H F Hf1 H' σ e F [] ∧ repD K fa ca Hf1 ds[i] x := by
      rcases wk.yld i _ x H' ds[i] smH (List.getElem?_eq_getElem hlt) y with ⟨rfl, r0⟩ | ⟨T, vs, hT, rfl, r0⟩
      · exact ⟨Hf, S.fin, repD_mono sm r0⟩
      · refine ⟨upd Hf T (.tup vs), S.new hT, r0 Hf sm ?_⟩
        cases q : Hf T with
        | none => rfl
        | some o => rw [S.sub _ _ q] at hT; cases hT
    obtain ⟨Hf1, f1, rx⟩ := got
    have hfd : f ds[i] e = match bindT t ds[i] e with | some e => execs C body e | none => FRes.stuck := by rw [← hf]
    cases hb : bindT t ds[i] e with
    | none => rw [hfd, hb] at g; exact g.elim
    | some eb =>
      rw [hfd, hb] at g
      refine bind_ok hb rx f1.st fun σ2 F2 s2 st2 l2 k2 => ?_
      have fb : Fin K fa ca Hf H F Hf1 H' σ2 eb F2 [] := f1.sub' s2 st2.rel
      have g2 := g.from (P := P) fb fun k hk => k2 k fun z => hP k z hk
      dsimp only at g2
      refine ⟨Hf1, eb, F2, st2, ?_⟩
      -- the body, then the rest
      have key : GoS K fa ca W P (execs C body eb) Hf1 H' F2 σ2 { D with nx := Iv (i + 1), ct := Iv (i + 1), bk := D.nx } := by
        revert g2
        generalize execs C body eb = r
        intro g2
        cases r with
        | next e' =>
          intro Hf3 H3 σ3 F3 f3 k3
          exact ⟨Hf3, e', F3, sm.trans (f1.ext.fz.trans f3.ext.fz), f3.st, GoS.from f3 k3 g2⟩
        | ret o e' => exact g2
        | exc c d e' => exact g2
        | stuck => exact g2
      exact key
  · have e0 : i = ds.length := by omega
    subst e0
    rw [List.drop_length] at g
    refine .inl ⟨wk.stop _ _ smH (Nat.le_refl _), ?_⟩
    exact g Hf H σ F S.fin fun _ _ => rfl
theorem while_weak (lp : LoopOk C.loop) {c : TE} {body : List TS} {σ : L2.St} {H : Hp} (h : tS K fa ca W P (exec C (.while_ c body)) D σ H) :
    tWhile (L2.tB (rE K fa ca C W c)) (tS K fa ca W P (execs C body)) D σ H := by
  obtain ⟨Hf, e, F, S, h⟩ := h
  simp only [exec] at h
  rcases lp (evalE C c) (execs C body) e with z | ⟨n, z⟩
  · rw [z] at h; exact h.elim
  rw [z] at h
  refine ⟨fun m σ H => ∃ Hf e F, Stt K fa ca Hf H σ e F ∧ GoS K fa ca W P (loopW (evalE C c) (execs C body) m e) Hf H F σ D, ⟨n, Hf, e, F, S, h⟩, ?_⟩
  rintro m σ H ⟨Hf, e, F, S, h⟩
  cases m with
  | zero => exact h.elim
  | succ m =>
    simp only [loopW] at h
    refine ⟨Hf, e, F, S, Go.mono (GoS.st (R1 := RD K fa ca) (r := evalE C c e) h) ?_⟩
    rintro v H1 ⟨x, e1, Hf1, F1, Fv, q1, f1, ⟨rfl, r1⟩, h1⟩
    have g := h1.from (P := P) f1 (fun _ _ => rfl)
    cases x with
    | bl b =>
      cases r1
      refine ⟨b, rfl, ?_⟩
      cases b with
      | true =>
        rw [if_pos rfl]
        refine ⟨fun σ' H' => ∃ Hf e F, Stt K fa ca Hf H' σ' e F ∧ GoS K fa ca W P (loopW (evalE C c) (execs C body) m e) Hf H' F σ' D, fun σ' H' p => ⟨m, Nat.lt_succ_self _, p⟩, Hf1, e1, F1, f1.st, ?_⟩
        exact GoS.seq (f := loopW (evalE C c) (execs C body) m) g rfl rfl
      | false =>
        rw [if_neg Bool.false_ne_true]
        exact g Hf1 H1 σ F1 f1.st.fin fun _ _ => rfl
    | _ => exact g.elim
theorem if_weak {c : TE} {a b : List TS} {σ : L2.St} {H : Hp} (h : tS K fa ca W P (exec C (.if_ c a b)) D σ H) :
    tIfS (L2.tB (rE K fa ca C W c)) (tS K fa ca W P (execs C a)) (tS K fa ca W P (execs C b)) D σ H := by
  obtain ⟨Hf, e, F, S, h⟩ := h
  simp only [exec] at h
  refine ⟨Hf, e, F, S, Go.mono (GoS.st (R1 := RD K fa ca) (r := evalE C c e) h) ?_⟩
  rintro v H1 ⟨x, e1, Hf1, F1, Fv, q1, f1, ⟨rfl, r1⟩, h1⟩
  have g := h1.from (P := P) f1 (fun _ _ => rfl)
  cases x with
  | bl t =>
    cases r1
    refine ⟨t, rfl, ?_⟩
    cases t with
    | true => rw [if_pos rfl]; exact ⟨Hf1, e1, F1, f1.st, g⟩
    | false => rw [if_neg Bool.false_ne_true]; exact ⟨Hf1, e1, F1, f1.st, g⟩
  | _ => exact g.elim
theorem ret_weak {a : TO} {σ : L2.St} {H : Hp} (h : tS K fa ca W P (exec C (.ret a)) D σ H) : tRet (rO K fa ca C W a) D σ H := by
  obtain ⟨Hf, e, F, S, h⟩ := h
  simp only [exec] at h
  refine ⟨Hf, e, F, S, Go.mono (GoS.st (R1 := RO K fa ca) (r := evalO C a e) h) ?_⟩
  rintro v H1 ⟨x, e1, Hf1, F1, Fv, q1, f1, r1, h1⟩
  exact h1 v Hf1 H1 σ F1 Fv f1 (fun _ _ => rfl) r1
theorem retN_weak {σ : L2.St} {H : Hp} (h : tS K fa ca W P (exec C .retN) D σ H) : tRetN D σ H := by
  obtain ⟨Hf, e, F, S, h⟩ := h
  exact h .non Hf H σ F [] S.fin (fun _ _ => rfl) ⟨rfl, rfl⟩
theorem expr_weak {a : TE} {σ : L2.St} {H : Hp} (h : tS K fa ca W P (exec C (.expr a)) D σ H) : tDrop (rE K fa ca C W a) D σ H := by
  obtain ⟨Hf, e, F, S, h⟩ := h
  simp only [exec] at h
  refine ⟨Hf, e, F, S, Go.mono (GoS.st (R1 := RD K fa ca) (r := evalE C a e) h) ?_⟩
  rintro v H1 ⟨x, e1, Hf1, F1, Fv, q1, f1, ⟨rfl, r1⟩, h1⟩
  exact h1 Hf1 H1 σ F1 f1 fun _ _ => rfl
theorem pass_weak {σ : L2.St} {H : Hp} (h : tS K fa ca W P (exec C .pass) D σ H) : tNext D σ H := by
  obtain ⟨Hf, e, F, S, h⟩ := h
  exact h Hf H σ F S.fin fun _ _ => rfl
theorem bad_weak {σ : L2.St} {H : Hp} (h : tS K fa ca W P (exec C .bad) D σ H) : False := by
  obtain ⟨Hf, e, F, S, h⟩ := h
  exact h
theorem asgT_weak {t : TT} {a : TE} {σ : L2.St} {H : Hp} (hP : ∀ k, k ∈ tvars t → k ∉ P) (h : tS K fa ca W P (exec C (.asgT t a)) D σ H) : tAsg (rE K fa ca C W a) (gT K t) D σ H := by
  obtain ⟨Hf, e, F, S, h⟩ := h
  simp only [exec] at h
  refine ⟨Hf, e, F, S, Go.mono (GoS.st (R1 := RD K fa ca) (r := evalE C a e) h) ?_⟩
  rintro v H1 ⟨x, e1, Hf1, F1, Fv, q1, f1, ⟨rfl, r1⟩, h1⟩
  cases hb : bindT t x e1 with
  | none => rw [hb] at h1; exact h1.elim
  | some eb =>
    rw [hb] at h1
    exact bind_ok hb r1 f1.st fun σ2 F2 s2 st2 l2 k2 => h1 Hf1 H1 σ2 F2 (f1.sub' s2 st2.rel) fun k hk => k2 k fun z => hP k z hk
theorem setAll_ne : ∀ {ks : List Nat} {vs : List V} {σ : L2.St} {k : Nat}, k ∉ ks → (setAll σ ks vs)[k]? = σ[k]?
  | [], _, _, _, _ => by simp [setAll]
  | j :: ks, [], _, _, _ => by simp [setAll]
  | j :: ks, v :: vs, σ, k, h => by
    simp only [List.mem_cons, not_or] at h
    show (setAll (σ.set j (some v)) ks vs)[k]? = _
    rw [setAll_ne h.2, List.getElem?_set_ne fun z => h.1 z.symm]
theorem par_weak {ks : List Nat} {es : List TO} {σ : L2.St} {H : Hp} (hP : ∀ k, k ∈ ks → k ∉ P) (h : tS K fa ca W P (exec C (.par ks es)) D σ H) : rOs K fa ca C W es σ H fun vs H1 => vs.length = ks.length ∧ D.nx (setAll σ ks vs) H1 := by
  obtain ⟨Hf, e, F, S, h⟩ := h
  simp only [exec] at h
  refine ⟨Hf, e, F, S, Go.mono (GoS.st (R1 := ROs K fa ca) (r := evalOs C es e) h) ?_⟩
  rintro vs H1 ⟨xs, e1, Hf1, F1, Fv, q1, f1, r1, h1⟩
  cases hb : putAll ks xs e1 with
  | none => rw [hb] at h1; exact h1.elim
  | some eb =>
    rw [hb] at h1
    obtain ⟨F2, f2⟩ := f1.putAll r1 hb
    refine ⟨?_, h1 Hf1 H1 _ F2 f2 fun k hk => setAll_ne fun z => hP k z hk⟩
    rw [← repOs_len r1]
    clear h1 f2 r1 q1 f1 h S
    induction ks generalizing xs e1 with
    | nil => cases xs with
      | nil => rfl
      | cons => cases hb
    | cons k ks ih => cases xs with
      | nil => cases hb
      | cons x xs => exact congrArg (· + 1) (ih (fun j hj => hP j (List.mem_cons_of_mem _ hj)) _ _ hb)
end
section
variable {X : Cx} {e : Expr} {pos : Pos}
/-! ### which way a value is stored -/
theorem sw_false {t : Option Expr} {l : Nat} {env : Env} (h : isComp e = false) : swapsWith e t l env = pure false := by
  cases e <;> first | rfl | (simp [isComp] at h)
theorem sw_cell {elt : Expr} {gs : List Comprehension} {scope : Scope} {pe py : Pos} {y : Str} {l : Nat} {env : Env} (hy : ¬ env.scope.names.lookup y = some .local) : swapsWith (.ListComp elt gs scope pe) (some (.Name y py)) l env = pure false := by
  have ky : (env.kindOf y == some NameKind.local) = false := by
    cases q : env.kindOf y with
    | none => rfl
    | some k =>
      cases k with
      | «local» => exact absurd q hy
      | _ => rfl
  unfold swapsWith
  simp only [ky, Bool.and_false, Bool.false_and]
theorem sw_none {es : List Expr} {k : Nat} {p : Pos} {env : Env} (h : isTupT e = false) : swappedStores [.Tuple es k p] e env = pure none := by
  cases e <;> first | rfl | (simp [isTupT] at h)
theorem fun_blk {env : Env} (h : env.scope.kind = .function) : env.blockKind = .function := by unfold Env.blockKind; rw [h]; rfl
theorem sw_two {x y : Str} {px py pt : Pos} {kt k2 : Nat} {pt2 : Pos} {u v : Expr} {env : Env} (hk : env.scope.kind = .function) (hx : env.scope.names.lookup x = some .local) (hy : env.scope.names.lookup y = some .local) (hxy : x ≠ y) (hu : notStar u = true) (hv : notStar v = true) (hl : (px.line == py.line) = true)
    (h1 : (foldedForSure 8 u && foldedForSure 8 v) = false) (h2 : (constantsAlone 8 u && constantsAlone 8 v) = false) :
    swappedStores [.Tuple [.Name x px, .Name y py] kt pt] (.Tuple [u, v] k2 pt2) env = pure (some [x, y]) := by
  have kx : (env.kindOf x == some NameKind.local) = true := by rw [show env.kindOf x = _ from hx]; rfl
  have ky : (env.kindOf y == some NameKind.local) = true := by rw [show env.kindOf y = _ from hy]; rfl
  have hl' : py.line = px.line := by simpa using (eq_of_beq hl).symm
  have hne : (y == x) = false := by simpa using fun z => hxy z.symm
  have hne2 : (x == y) = false := by simpa using hxy
  unfold swappedStores
  simp only [fun_blk hk, List.any_cons, List.any_nil, List.filterMap_cons, List.filterMap_nil, kx, ky, hl', List.head?_cons, Option.map_some, Option.getD_some, Expr.pos, List.all_cons, List.all_nil, Bool.and_true, h1, h2]
  simp [List.eraseDups_cons, hne, hne2, bne]
  intro h
  rcases h with h | h
  · cases u <;> first | (simp [notStar] at hu; done) | cases h
  · cases v <;> first | (simp [notStar] at hv; done) | cases h
theorem sw_three {x y z : Str} {px py pz pt : Pos} {kt k2 : Nat} {pt2 : Pos} {u v w : Expr} {env : Env} (hk : env.scope.kind = .function) (hx : env.scope.names.lookup x = some .local) (hy : env.scope.names.lookup y = some .local) (hz : env.scope.names.lookup z = some .local) (hxy : x ≠ y) (hxz : x ≠ z) (hyz : y ≠ z)
    (hu : notStar u = true) (hv : notStar v = true) (hw : notStar w = true) (hl : (px.line == py.line) = true) (hl2 : (px.line == pz.line) = true) (h1 : (foldedForSure 8 u && foldedForSure 8 v && foldedForSure 8 w) = false) (h2 : (constantsAlone 8 u && constantsAlone 8 v && constantsAlone 8 w) = false) :
    swappedStores [.Tuple [.Name x px, .Name y py, .Name z pz] kt pt] (.Tuple [u, v, w] k2 pt2) env = pure (some [x, y, z]) := by
  have kx : (env.kindOf x == some NameKind.local) = true := by rw [show env.kindOf x = _ from hx]; rfl
  have ky : (env.kindOf y == some NameKind.local) = true := by rw [show env.kindOf y = _ from hy]; rfl
  have kz : (env.kindOf z == some NameKind.local) = true := by rw [show env.kindOf z = _ from hz]; rfl
  have hl' : py.line = px.line := by simpa using (eq_of_beq hl).symm
  have hl2' : pz.line = px.line := by simpa using (eq_of_beq hl2).symm
  have n1 : (y == x) = false := by simpa using fun z => hxy z.symm
  have n2 : (z == x) = false := by simpa using fun z => hxz z.symm
  have n3 : (z == y) = false := by simpa using fun z => hyz z.symm
  rw [Bool.and_assoc] at h1 h2
  unfold swappedStores
  simp only [fun_blk hk, List.any_cons, List.any_nil, List.filterMap_cons, List.filterMap_nil, kx, ky, kz, hl', hl2', List.head?_cons, Option.map_some, Option.getD_some, Expr.pos, List.all_cons, List.all_nil, Bool.and_true, h1, h2]
  simp [List.eraseDups_cons, n1, n2, n3, bne]
  intro h
  rcases h with h | h | h
  · cases u <;> first | (simp [notStar] at hu; done) | cases h
  · cases v <;> first | (simp [notStar] at hv; done) | cases h
  · cases w <;> first | (simp [notStar] at hw; done) | cases h
/-! ### what a comprehension gives, however it is used -/
structure LcP (X : Cx) (e : Expr) (t : L2.TE) : Prop where
  pe : PE X e t
  set : ∀ {i : Nat} {y : Str} {py spos : Pos}, X.N[i]? = some y → X.env.scope.names.lookup y = some .local → swapsWith e (some (.Name y py)) spos.line X.env = pure true → PS X (.Assign [.Name y py] e spos) (tAsg t (gName i))
theorem LcP.weak {t t' : L2.TE} (h : LcP X e t) (k : ∀ σ H Q, t' σ H Q → t σ H Q) : LcP X e t' := ⟨h.pe.weak k, fun h1 h2 h3 => (h.set h1 h2 h3).weak fun D σ H q => k σ H _ q⟩
theorem lcp {elt tg iter : Expr} {ifs : List Expr} {scope : Scope} {own : List (Str × Nat)} {pe : Pos} {wi : L2.TI} {g : L2.TG} {tt : L2.TT} {te : L2.TE} (hc : X.calm = true) (hN : X.N.Nodup) (hi : PI X tg iter wi) (ok : BlkOk X.N X.env.scope scope own)
    (hg : ∀ (s : Shared) (H : Hp) (C : Addr) (cl : List (Str × Addr)) (fp : List Addr), PG (X.blk s H scope (compEnvC scope cl C X.env) fp) tg g) (ht : ∀ (s : Shared) (H : Hp) (C : Addr) (cl : List (Str × Addr)) (fp : List Addr), PTs (X.blk s H scope (compEnvC scope cl C X.env) fp) ifs tt)
    (he : ∀ (s : Shared) (H : Hp) (C : Addr) (cl : List (Str × Addr)) (fp : List Addr), PE (X.blk s H scope (compEnvC scope cl C X.env) fp) elt te) (hs : ∀ x, foldedSetIterable iter X.env x = pure x) : LcP X (.ListComp elt [⟨tg, iter, ifs, 0⟩] scope pe) (tLc wi g tt te (own.map (·.2))) :=
  ⟨pe_lc hc hN hi ok hg ht he hs, fun h1 h2 h3 => ps_setLc hc hN h1 h2 h3 hi ok hg ht he hs⟩
end
end TL

set_option maxRecDepth 100000
set_option maxHeartbeats 4000000
namespace TL
open PySem PySem.Spec PyProof.Rows L2
structure Ev (G : GT) (C : Cfg) (fa ca : Nat → Addr) (W : WX) (sc : Scope) (X : Cx) : Prop where
  S : SC sc X
  g : GX G C fa ca W X
section
variable {G : GT} {C : Cfg} {fa ca : Nat → Addr} {W : WX} {sc : Scope} {X : Cx}
theorem Ev.hu (v : Ev G C fa ca W sc X) : X.A.units + 65 < cLine := by
  have := v.g.room.un
  omega
theorem Ev.nm (v : Ev G C fa ca W sc X) {k : Nat} {x : Str} (h : chkV G sc k x = true) : X.N[k]? = some x ∧ Vis X.env.scope x ∧ (x == ("__debug__" : Str)) = false ∧ (x == ("__classdict__" : Str)) = false := by
  unfold chkV at h
  simp only [Bool.and_eq_true, decide_eq_true_eq] at h
  obtain ⟨h1, h2⟩ := okN_ok h.2
  exact ⟨by rw [v.g.N]; exact h.1.1, v.S.vis x h.1.2, h1, h2⟩
theorem Ev.bl (v : Ev G C fa ca W sc X) {x y : Str} (hb : x ∈ bltNames) (h : chkG sc x y = true) : y = x ∧ Gl X x ∧ X.mg x = none := by
  obtain ⟨h1, h2, _⟩ := chkG_ok v.S h
  exact ⟨h1, h2, v.g.blt x hb⟩
theorem pe_never {e : Expr} {t : L2.TE} (h : ∀ σ H Q, ¬ t σ H Q) : PE X e t := ⟨fun _ _ σ H Q _ q => (h σ H Q q).elim⟩
theorem rE_bad {σ : L2.St} {H : Hp} {Q : VK} {K : PySem.W.Frag} : ¬ rE K fa ca C W .bad σ H Q := by
  rintro ⟨Hf, e, F, S, h⟩
  exact h
theorem ty_of (v : Ev G C fa ca W sc X) {t : Ty} {e : Expr} (h : chkTy G sc t e = true) (hb : bltTyB t = true) : ∃ p, e = .Name (tyName t) p ∧ bltTy t = true ∧ notStar e = true ∧ PE X e (tC (tyVal ca t)) := by
  have go : ∀ {n : Str} {x : Str} {p : Pos}, n ∈ bltNames → n = tyName t → bltTy t = true → chkG sc n x = true → ∃ q, Expr.Name x p = .Name (tyName t) q ∧ bltTy t = true ∧ notStar (Expr.Name x p) = true ∧ PE X (.Name x p) (tC (tyVal ca t)) := fun {n x p} h1 h2 h3 h4 => by
    obtain ⟨rfl, e2, e3⟩ := v.bl h1 h4
    subst h2
    exact ⟨p, rfl, h3, rfl, pe_ty h3 e2 e3 (chkG_ok v.S h4).2.2⟩
  cases t with
  | int => cases e <;> first | (simp [chkTy] at h; done) | (simp only [chkTy] at h; exact go (by decide) rfl rfl h)
  | bool => cases e <;> first | (simp [chkTy] at h; done) | (simp only [chkTy] at h; exact go (by decide) rfl rfl h)
  | str => cases e <;> first | (simp [chkTy] at h; done) | (simp only [chkTy] at h; exact go (by decide) rfl rfl h)
  | list => cases e <;> first | (simp [chkTy] at h; done) | (simp only [chkTy] at h; exact go (by decide) rfl rfl h)
  | tuple => cases e <;> first | (simp [chkTy] at h; done) | (simp only [chkTy] at h; exact go (by decide) rfl rfl h)
  | cls c => cases hb
theorem tys_of (v : Ev G C fa ca W sc X) : ∀ {ts : List Ty} {es : List Expr}, chkTys G sc ts es = true → ts.all bltTyB = true → ts.all bltTy = true ∧ es.length = ts.length ∧ ∀ (i : Nat) (t : Ty), ts[i]? = some t → ∃ e, es[i]? = some e ∧ notStar e = true ∧ PE X e (tC (tyVal ca t))
  | [], [], _, _ => ⟨rfl, rfl, fun i t h => by simp at h⟩
  | t :: ts, e :: es, h, hb => by
    simp only [chkTys, Bool.and_eq_true] at h
    simp only [List.all_cons, Bool.and_eq_true] at hb
    obtain ⟨p, h1, h2, h3, h4⟩ := ty_of v h.1 hb.1
    obtain ⟨i1, i2, i3⟩ := tys_of v h.2 hb.2
    refine ⟨by simp [h2, i1], by simp [i2], fun i u hu => ?_⟩
    cases i with
    | zero => simp at hu; subst hu; exact ⟨e, rfl, h3, h4⟩
    | succ i => simpa using i3 i u (by simpa using hu)
  | [], _ :: _, h, _ => by simp [chkTys] at h
  | _ :: _, [], h, _ => by simp [chkTys] at h
theorem _root_.L2.PTs.weak {X : Cx} {e : List Expr} {t t' : L2.TT} (h : PTs X e t) (k : ∀ σ H Q, t' σ H Q → t σ H Q) : PTs X e t' := ⟨fun pins s σ H Q I q => h.run pins s σ H Q I (k σ H Q q)⟩
theorem pts_nil' : PTs X [] (rIfs X.K fa ca C W []) := by
  refine pts_nil.weak ?_
  rintro σ H Q ⟨Hf, e, F, S, h⟩
  simp only [evalIfs] at h
  exact h true Hf H F [] S.fin ⟨rfl, rfl⟩
theorem pts_one' {a : TE} {x : Expr} (ha : PT X x (L2.tB (rE X.K fa ca C W a))) : PTs X [x] (rIfs X.K fa ca C W [a]) := by
  refine (pts_one ha).weak ?_
  rintro σ H Q ⟨Hf, e, F, S, h⟩
  simp only [evalIfs] at h
  refine ⟨Hf, e, F, S, Go.mono (Go.bindH (R1 := RD X.K fa ca) (r := evalE C a e) h) ?_⟩
  rintro v H1 ⟨d, e1, Hf1, F1, Fv, q1, f1, ⟨rfl, r1⟩, h1⟩
  cases d with
  | bl b =>
    cases r1
    refine ⟨b, rfl, ?_⟩
    cases b with
    | true => exact h1 true Hf1 H1 F1 [] f1 ⟨rfl, rfl⟩
    | false => exact h1 false Hf1 H1 F1 [] f1 ⟨rfl, rfl⟩
  | _ => exact h1.elim
theorem t_chain (hu : X.A.units + 65 < cLine) {x y z : Expr} {pos : Pos} {o1 o2 : COp} {a b c : TP} (ha : PE X x (rP X.K fa ca C W a)) (hb : PE X y (rP X.K fa ca C W b)) (hc : PE X z (rP X.K fa ca C W c)) (hn : notSet y = true) (hn' : notSet z = true) :
    PT X (.Compare x [copOf o1, copOf o2] [y, z] pos) (L2.tB (rE X.K fa ca C W (.chain o1 o2 a b c))) := by
  refine (pt_chain (opC_ok (fa := fa) (ca := ca) hu o1) (opC_ok (fa := fa) (ca := ca) hu o2) ha hb hc (mark_of hn')).weak ?_
  rintro σ H Q ⟨Hf, e, F, S, h⟩
  refine ⟨Hf, e, F, S, Go.mono (Go.bind (R1 := RP X.K fa ca σ) (r := evalP C a e) h) ?_⟩
  rintro v1 H1 ⟨p1, e1, Hf1, F1, Fv1, q1, f1, r1, h1⟩
  refine ⟨Hf1, e1, F1, f1.st, Go.mono (Go.bind (R1 := RP X.K fa ca σ) (r := evalP C b e1) h1) ?_⟩
  rintro v2 H2 ⟨p2, e2, Hf2, F2, Fv2, q2, f2, r2, h2⟩
  cases q : (p1.get e2).bind fun x => (p2.get e2).bind fun y => opC o1 x y with
  | none => rw [q] at h2; exact h2.elim
  | some t =>
    rw [q] at h2
    simp only [Option.bind_eq_some_iff] at q
    obtain ⟨a', g1, b', g2, g3⟩ := q
    refine ⟨a', b', t, g3, r1.get f2.ext.fz f2.st g1, r2.get (Same.refl _) f2.st g2, t, rfl, ?_⟩
    cases t with
    | false =>
      obtain ⟨c', ec, q⟩ := h2 (.bl false) Hf2 H2 F2 [] f2.st.fin ⟨rfl, rfl⟩
      cases ec
      exact ⟨false, rfl, q⟩
    | true =>
      refine ⟨Hf2, e2, F2, f2.st, Go.mono (Go.bind (R1 := RP X.K fa ca σ) (r := evalP C c e2) h2) ?_⟩
      rintro v3 H3 ⟨p3, e3, Hf3, F3, Fv3, q3, f3, r3, h3⟩
      obtain ⟨d, ed, k⟩ := h3.opt
      simp only [Option.bind_eq_some_iff, Option.map_eq_some_iff] at ed
      obtain ⟨b2, g4, c', g5, c2, g6, g7⟩ := ed
      subst g7
      refine ⟨b2, c', c2, g6, r2.get f3.ext.fz f3.st g4, r3.get (Same.refl _) f3.st g5, ?_⟩
      obtain ⟨c'', ec, q⟩ := k (.bl c2) Hf3 H3 F3 [] f3.st.fin ⟨rfl, rfl⟩
      cases ec
      exact ⟨c2, rfl, q⟩
theorem s_bits {a : TE} {x : Str} {px ap cp : Pos} (ha : PE X (.Name x px) (rE X.K fa ca C W a)) (hl : (ap.endLine == cp.line) = true) : PE X (.Call (.Attribute (.Name x px) "bit_length" ap) [] [] cp) (rE X.K fa ca C W (.meth .bits (.e a) [])) := by
  refine (pe_bits (s_pe ha) rfl hl).weak ?_
  rintro σ H Q ⟨Hf, e, F, S, h⟩
  simp only [evalE] at h
  refine ⟨Hf, e, F, S, Go.mono (Go.bind (R1 := RP X.K fa ca σ) (r := evalP C (.e a) e) h) ?_⟩
  rintro v H1 ⟨p1, e1, Hf1, F1, Fv1, q1, f1, r1, h1⟩
  simp only [evalPs, Res.bind] at h1
  obtain ⟨d, ed, k⟩ := Go.opt h1
  simp only [Option.bind_eq_some_iff] at ed
  obtain ⟨d', g1, ds, g2, g3⟩ := ed
  cases g2
  have rd := r1.get (Same.refl _) f1.st g1
  cases d' with
  | int i =>
    cases g3
    cases rd
    exact ⟨i, rfl, k _ Hf1 H1 F1 [] f1.st.fin ⟨rfl, rfl⟩⟩
  | _ => simp [opM] at g3
end
end TL

set_option maxRecDepth 100000
set_option maxHeartbeats 8000000
namespace TL
open PySem PySem.Spec PyProof.Rows L2
section
variable {G : GT} {C : Cfg} {fa ca : Nat → Addr}
theorem noTL : ∀ {es : List TL} {xs : List Expr} {sc : Scope}, chkLs G sc es xs = true → ∀ t ∈ es, ∃ a, t = TL.e a
  | [], _, _, _, t, ht => by cases ht
  | .e a :: as, x :: xs, sc, h, t, ht => by
    simp only [chkLs, Bool.and_eq_true] at h
    rcases List.mem_cons.mp ht with z | z
    · exact ⟨a, z⟩
    · exact noTL h.2 t z
  | .s a :: as, x :: xs, sc, h, t, ht => by simp [chkLs] at h
  | .e a :: as, [], sc, h, t, ht => by simp [chkLs] at h
  | .s a :: as, [], sc, h, t, ht => by simp [chkLs] at h
theorem chkPs_star {sc : Scope} : ∀ {es : List TP} {xs : List Expr}, chkPs G sc es xs = true → xs.all notStar = true
  | [], [], _ => rfl
  | a :: as, x :: xs, h => by
    simp only [chkPs, Bool.and_eq_true] at h
    simp [h.1.2, chkPs_star h.2]
  | [], _ :: _, h => by simp [chkPs] at h
  | _ :: _, [], h => by simp [chkPs] at h
theorem chkAs_star {sc : Scope} : ∀ {es : List TA} {xs : List Expr}, chkAs G sc es xs = true → xs.all notStar = true ∧ es.length = xs.length
  | [], [], _ => ⟨rfl, rfl⟩
  | a :: as, x :: xs, h => by
    simp only [chkAs, Bool.and_eq_true] at h
    obtain ⟨h1, h2⟩ := chkAs_star h.2
    exact ⟨by simp [h.1.2, h1], by simp [h2]⟩
  | [], _ :: _, h => by simp [chkAs] at h
  | _ :: _, [], h => by simp [chkAs] at h
theorem callX {f : Nat} {as : List TA} {perm : List Nat} {W : WX} {sc : Scope} {X : Cx} {x : Str} {y : Expr} {xs : List Expr} {p pos : Pos} (v : Ev G C fa ca W sc X) (h : (match G.fns[f]? with
    | some (n, ps) => decide (n = x) && isGlo sc x && okN x && chkAs G sc as (y :: xs) && decide (xs.length + 1 = ps.length)
    | none => false) = true) (ha : chkAs G sc as (y :: xs) = true → PA X (y :: xs) (rAs X.K fa ca C W as)) : PE X (.Call (.Name x p) (y :: xs) [] pos) (rO X.K fa ca C W (.call f as perm)) := by
  cases q : G.fns[f]? with
  | none => rw [q] at h; cases h
  | some np =>
    obtain ⟨n, ps⟩ := np
    rw [q] at h
    simp only [Bool.and_eq_true, decide_eq_true_eq] at h
    obtain ⟨⟨⟨⟨h1, h2⟩, h3⟩, h4⟩, h5⟩ := h
    subst h1
    obtain ⟨hs, hl⟩ := chkAs_star h4
    simp only [List.all_cons, Bool.and_eq_true] at hs
    exact s_callO v.g q (v.S.glo _ h2) (okN_ok h3).1 (ha h4) hs.1 hs.2 (by rw [hl]; simpa using h5)
theorem isTupE_of {e : Expr} (h : isTupE e = true) : ∃ es k p, e = .Tuple es k p := by
  cases e <;> first | exact ⟨_, _, _, rfl⟩ | (cases h)
theorem pt_never {X : Cx} {e : Expr} {t : L2.TT} (h : ∀ σ H Q, ¬ t σ H Q) : PT X e t := ⟨fun _ _ σ H Q _ q => (h σ H Q q).elim⟩
mutual
theorem sE : ∀ (t : TE) {W : WX} {sc : Scope} {X : Cx} {e : Expr}, Ev G C fa ca W sc X → chkE G sc t e = true → PE X e (rE X.K fa ca C W t) ∧ (isTst t = true → PT X e (L2.tB (rE X.K fa ca C W t)))
  | .var k, W, sc, X, e, v, h => by
    unfold chkE at h; split at h <;> first | (cases h; done) | (rename_i q; cases q; done) | (rename_i q; cases q)
    obtain ⟨h1, h2, h3, h4⟩ := v.nm h
    refine ⟨?_, fun _ => pt_val ?_⟩ <;> exact s_var h1 h2 h3 h4
  | .int i, W, sc, X, e, v, h => by
    unfold chkE at h; split at h <;> first | (cases h; done) | (rename_i q; cases q; done) | (rename_i q; cases q)
    simp only [decide_eq_true_eq] at h
    subst h
    exact ⟨s_const (v := .int i) (fun e => rfl) pe_int fun H => rfl, fun z => by cases z⟩
  | .str x, W, sc, X, e, v, h => by
    unfold chkE at h; split at h <;> first | (cases h; done) | (rename_i q; cases q; done) | (rename_i q; cases q)
    simp only [decide_eq_true_eq] at h
    subst h
    exact ⟨s_const (v := .str x) (fun e => rfl) pe_str fun H => rfl, fun z => by cases z⟩
  | .bl b, W, sc, X, e, v, h => by
    unfold chkE at h; split at h <;> first | (cases h; done) | (rename_i q; cases q; done) | (rename_i q; cases q)
    simp only [decide_eq_true_eq] at h
    subst h
    refine ⟨?_, fun _ => pt_val ?_⟩ <;> exact s_const (v := .bl b) (fun e => rfl) pe_bl fun H => rfl
  | .non, W, sc, X, e, v, h => by
    unfold chkE at h; split at h <;> first | (cases h; done) | (rename_i q; cases q; done) | (rename_i q; cases q)
    exact ⟨s_const (v := .non) (fun e => rfl) pe_non fun H => rfl, fun z => by cases z⟩
  | .glob n, W, sc, X, e, v, h => by
    unfold chkE at h; split at h <;> first | (cases h; done) | (rename_i q; cases q; done) | (rename_i q; cases q)
    simp only [Bool.and_eq_true, decide_eq_true_eq] at h
    obtain ⟨d, u, w, h1, h2, h3, h4⟩ := v.g.glob n _ h.1.1
    exact ⟨s_glob (v.S.glo _ h.1.2) h2 h3 (okN_ok h.2).1 h1 h4, fun z => by cases z⟩
  | .fn f, W, sc, X, e, v, h => by
    unfold chkE at h; split at h <;> first | (cases h; done) | (rename_i q; cases q; done) | (rename_i q; cases q)
    simp only [Bool.and_eq_true, decide_eq_true_eq] at h
    obtain ⟨⟨h1, h2⟩, h3⟩ := h
    cases q : G.fns[f]? with
    | none => rw [q] at h1; cases h1
    | some p =>
      rw [q] at h1
      have h1 : p.1 = _ := Option.some.inj h1
      subst h1
      exact ⟨s_fn (v.S.glo _ h2) (v.g.fn f p.1 p.2 q).1 (okN_ok h3).1, fun z => by cases z⟩
  | .bin op a b, W, sc, X, e, v, h => by
    unfold chkE at h; split at h <;> first | (cases h; done) | (rename_i q; cases q; done) | (rename_i q; cases q)
    simp only [Bool.and_eq_true, decide_eq_true_eq] at h
    obtain ⟨⟨h1, h2⟩, h3⟩ := h
    subst h1
    exact ⟨s_bin (sP a v h2) (sP b v h3), fun z => by cases z⟩
  | .neg a, W, sc, X, e, v, h => by
    unfold chkE at h; split at h <;> first | (cases h; done) | (rename_i q; cases q; done) | (rename_i q; cases q)
    exact ⟨s_neg (sE a v h).1, fun z => by cases z⟩
  | .cmp op a b, W, sc, X, e, v, h => by
    unfold chkE at h; split at h <;> first | (cases h; done) | (rename_i q; cases q; done) | (rename_i q; cases q)
    simp only [Bool.and_eq_true, decide_eq_true_eq] at h
    obtain ⟨⟨⟨h1, h2⟩, h3⟩, h4⟩ := h
    subst h1
    exact ⟨s_cmp v.hu (sP a v h2) (sP b v h3) h4, fun _ => t_cmp v.hu (sP a v h2) (sP b v h3) h4⟩
  | .chain o1 o2 a b c, W, sc, X, e, v, h => by
    unfold chkE at h; split at h <;> first | (cases h; done) | (rename_i q; cases q; done) | (rename_i q; cases q)
    simp only [Bool.and_eq_true, decide_eq_true_eq] at h
    obtain ⟨⟨⟨⟨⟨⟨h1, h2⟩, h3⟩, h4⟩, h5⟩, h6⟩, h7⟩ := h
    subst h1 h2
    exact ⟨s_chain v.hu (sP a v h3) (sP b v h4) (sP c v h5) h6 h7, fun _ => t_chain v.hu (sP a v h3) (sP b v h4) (sP c v h5) h6 h7⟩
  | .and_ es, W, sc, X, e, v, h => by
    unfold chkE at h; split at h <;> first | (cases h; done) | (rename_i q; cases q; done) | (rename_i q; cases q)
    exact ⟨(sAnd es v h).1, fun z => ((sAnd es v h).2 z).pt⟩
  | .or_ es, W, sc, X, e, v, h => by
    unfold chkE at h; split at h <;> first | (cases h; done) | (rename_i q; cases q; done) | (rename_i q; cases q)
    exact ⟨(sOr es v h).1, fun z => ((sOr es v h).2 z).pt⟩
  | .not_ a, W, sc, X, e, v, h => by
    unfold chkE at h; split at h <;> first | (cases h; done) | (rename_i q; cases q; done) | (rename_i q; cases q)
    exact ⟨s_not (sE a v h).1, fun z => t_not ((sE a v h).2 z)⟩
  | .ife t a b, W, sc, X, e, v, h => by
    unfold chkE at h; split at h <;> first | (cases h; done) | (rename_i q; cases q; done) | (rename_i q; cases q)
    simp only [Bool.and_eq_true, decide_eq_true_eq] at h
    exact ⟨s_ife ((sE t v h.1.1.2).2 h.1.1.1) (sE a v h.1.2).1 (sE b v h.2).1, fun z => by cases z⟩
  | .call f as perm, W, sc, X, e, v, h => by
    unfold chkE at h; split at h <;> first | (cases h; done) | (rename_i q; cases q; done) | (rename_i q; cases q)
    refine ⟨?_, fun _ => pt_val ?_⟩ <;> exact s_call (callX v h fun hh => sAs as v hh)
  | .blt b as, W, sc, X, e, v, h => by
    unfold chkE at h; split at h <;> first | (cases h; done) | (rename_i q; cases q; done) | (rename_i q; cases q)
    simp only [Bool.and_eq_true] at h
    obtain ⟨rfl, h2, h3⟩ := v.bl (by cases b <;> decide) h.1
    have hs := chkPs_star h.2
    simp only [List.all_cons, Bool.and_eq_true] at hs
    refine ⟨?_, fun _ => pt_val ?_⟩ <;> exact s_blt v.g.calm h2 h3 (sPs as v h.2) hs.1 hs.2
  | .isi a ts, W, sc, X, e, v, h => by
    unfold chkE at h; split at h <;> first | (cases h; done) | (rename_i q; cases q; done) | (rename_i q; cases q)
    simp only [Bool.and_eq_true] at h
    obtain ⟨⟨⟨h1, h2⟩, h3⟩, h4⟩ := h
    obtain ⟨rfl, g2, g3⟩ := v.bl (by decide) h1
    unfold chkIsi at h4
    split at h4
    · simp only [Bool.and_eq_true] at h4
      obtain ⟨p, e1, e2, e3, e4⟩ := ty_of v h4.1 h4.2
      rw [e1] at e4 ⊢
      refine ⟨?_, fun _ => pt_val ?_⟩ <;> exact s_isi1 e2 g2 g3 (sP a v h2) h3 e4
    · simp only [Bool.and_eq_true, decide_eq_true_eq] at h4
      obtain ⟨i1, i2, i3⟩ := tys_of v h4.1.1 h4.1.2
      refine ⟨?_, fun _ => pt_val ?_⟩ <;> exact s_isiT i1 (by simp) (by simp; omega) g2 g3 (sP a v h2) h3 (pa_tys i3 i2)
    · cases h4
  | .meth .bits (.e a) [], W, sc, X, e, v, h => by
    unfold chkE at h; split at h <;> first | (cases h; done) | (rename_i q; cases q; done) | (rename_i q; cases q)
    simp only [Bool.and_eq_true, decide_eq_true_eq] at h
    obtain ⟨⟨h1, h2⟩, h3⟩ := h
    subst h1
    exact ⟨s_bits (sE a v h2).1 h3, fun z => by cases z⟩
  | .meth .count r as, W, sc, X, e, v, h => by
    unfold chkE at h; first | (cases h; done) | (split at h <;> first | (cases h; done) | (rename_i q; cases q; done))
  | .meth .index r as, W, sc, X, e, v, h => by
    unfold chkE at h; first | (cases h; done) | (split at h <;> first | (cases h; done) | (rename_i q; cases q; done))
  | .meth .join r as, W, sc, X, e, v, h => by
    unfold chkE at h; first | (cases h; done) | (split at h <;> first | (cases h; done) | (rename_i q; cases q; done))
  | .meth .split r as, W, sc, X, e, v, h => by
    unfold chkE at h; first | (cases h; done) | (split at h <;> first | (cases h; done) | (rename_i q; cases q; done))
  | .meth .bits (.pk k) as, W, sc, X, e, v, h => by
    unfold chkE at h; first | (cases h; done) | (split at h <;> first | (cases h; done) | (rename_i q; cases q; done))
  | .meth .bits (.e a) (b :: bs), W, sc, X, e, v, h => by
    unfold chkE at h; first | (cases h; done) | (split at h <;> first | (cases h; done) | (rename_i q; cases q; done))
  | .tup es, W, sc, X, e, v, h => by
    unfold chkE at h; split at h <;> first | (cases h; done) | (rename_i q; cases q; done) | (rename_i q; cases q)
    simp only [Bool.and_eq_true, decide_eq_true_eq] at h
    exact ⟨s_tup h.1 (noTL h.2) (sLs es v h.2), fun z => by cases z⟩
  | .sub a i, W, sc, X, e, v, h => by
    unfold chkE at h; split at h <;> first | (cases h; done) | (rename_i q; cases q; done) | (rename_i q; cases q)
    simp only [Bool.and_eq_true, decide_eq_true_eq] at h
    refine ⟨?_, fun _ => pt_val ?_⟩ <;> exact s_sub (sP a v h.1.1) (sE i v h.1.2).1 h.2
  | .slt a lo hi, W, sc, X, e, v, h => by
    unfold chkE at h; first | (cases h; done) | (split at h <;> first | (cases h; done) | (rename_i q; cases q; done))
  | .pop k p i, W, sc, X, e, v, h => by
    unfold chkE at h; first | (cases h; done) | (split at h <;> first | (cases h; done) | (rename_i q; cases q; done))
  | .val a, W, sc, X, e, v, h => by
    unfold chkE at h; first | (cases h; done) | (split at h <;> first | (cases h; done) | (rename_i q; cases q; done))
  | .f t, W, sc, X, e, v, h => ⟨s_f (sF t v (by simpa [chkE] using h)).1, fun z => by cases z⟩
  | .bad, W, sc, X, e, v, h => ⟨pe_never fun σ H Q => rE_bad, fun _ => pt_never fun σ H Q => rE_bad⟩
theorem sAnd : ∀ (t : List TE) {W : WX} {sc : Scope} {X : Cx} {xs : List Expr} {pos : Pos}, Ev G C fa ca W sc X → chkEs G sc t xs = true → PE X (.BoolOp .And xs pos) (rE X.K fa ca C W (.and_ t)) ∧ (isTsts t = true → PW X (.BoolOp .And xs pos) (L2.tB (rE X.K fa ca C W (.and_ t))))
  | [], W, sc, X, xs, pos, v, h => ⟨pe_never fun σ H Q => by rintro ⟨Hf, e, F, S, h⟩; simp only [evalE, evalAnd] at h; exact h, fun _ => ⟨fun _ _ _ σ H Q _ q => by obtain ⟨Hf, e, F, S, h⟩ := q; simp only [evalE, evalAnd] at h; exact h.elim⟩⟩
  | [a], W, sc, X, [x], pos, v, h => by
    simp only [chkEs, Bool.and_eq_true] at h
    exact ⟨s_and1 (sE a v h.1.1).1, fun z => t_and1 ((sE a v h.1.1).2 (by simpa [isTsts] using z))⟩
  | a :: b :: r, W, sc, X, x :: y :: xs, pos, v, h => by
    have h' : chkEs G sc (b :: r) (y :: xs) = true := by
      rw [chkEs] at h
      simp only [Bool.and_eq_true] at h
      exact h.2
    have h0 : chkE G sc a x = true := by
      rw [chkEs] at h
      simp only [Bool.and_eq_true] at h
      exact h.1.1
    refine ⟨s_and (sE a v h0).1 (sAnd (b :: r) v h').1, fun z => ?_⟩
    rw [isTsts] at z
    simp only [Bool.and_eq_true] at z
    exact t_and ((sE a v h0).2 z.1) ((sAnd (b :: r) v h').2 z.2)
  | [a], W, sc, X, [], pos, v, h => by simp [chkEs] at h
  | [a], W, sc, X, x :: y :: xs, pos, v, h => by simp [chkEs] at h
  | a :: b :: r, W, sc, X, [], pos, v, h => by simp [chkEs] at h
  | a :: b :: r, W, sc, X, [x], pos, v, h => by simp [chkEs] at h
theorem sOr : ∀ (t : List TE) {W : WX} {sc : Scope} {X : Cx} {xs : List Expr} {pos : Pos}, Ev G C fa ca W sc X → chkEs G sc t xs = true → PE X (.BoolOp .Or xs pos) (rE X.K fa ca C W (.or_ t)) ∧ (isTsts t = true → PW X (.BoolOp .Or xs pos) (L2.tB (rE X.K fa ca C W (.or_ t))))
  | [], W, sc, X, xs, pos, v, h => ⟨pe_never fun σ H Q => by rintro ⟨Hf, e, F, S, h⟩; simp only [evalE, evalOr] at h; exact h, fun _ => ⟨fun _ _ _ σ H Q _ q => by obtain ⟨Hf, e, F, S, h⟩ := q; simp only [evalE, evalOr] at h; exact h.elim⟩⟩
  | [a], W, sc, X, [x], pos, v, h => by
    simp only [chkEs, Bool.and_eq_true] at h
    exact ⟨s_or1 (sE a v h.1.1).1, fun z => t_or1 ((sE a v h.1.1).2 (by simpa [isTsts] using z))⟩
  | a :: b :: r, W, sc, X, x :: y :: xs, pos, v, h => by
    have h' : chkEs G sc (b :: r) (y :: xs) = true := by
      rw [chkEs] at h
      simp only [Bool.and_eq_true] at h
      exact h.2
    have h0 : chkE G sc a x = true := by
      rw [chkEs] at h
      simp only [Bool.and_eq_true] at h
      exact h.1.1
    refine ⟨s_or (sE a v h0).1 (sOr (b :: r) v h').1, fun z => ?_⟩
    rw [isTsts] at z
    simp only [Bool.and_eq_true] at z
    exact t_or ((sE a v h0).2 z.1) ((sOr (b :: r) v h').2 z.2)
  | [a], W, sc, X, [], pos, v, h => by simp [chkEs] at h
  | [a], W, sc, X, x :: y :: xs, pos, v, h => by simp [chkEs] at h
  | a :: b :: r, W, sc, X, [], pos, v, h => by simp [chkEs] at h
  | a :: b :: r, W, sc, X, [x], pos, v, h => by simp [chkEs] at h
theorem sP : ∀ (t : TP) {W : WX} {sc : Scope} {X : Cx} {e : Expr}, Ev G C fa ca W sc X → chkP G sc t e = true → PE X e (rP X.K fa ca C W t)
  | .e a, W, sc, X, e, v, h => s_pe (sE a v (by simpa [chkP] using h)).1
  | .pk k, W, sc, X, e, v, h => by
    unfold chkP at h; split at h <;> first | (cases h; done) | (rename_i q; cases q; done) | (rename_i q; cases q)
    obtain ⟨h1, h2, h3, h4⟩ := v.nm h
    exact s_pk h1 h2 h3 h4
theorem sPs : ∀ (t : List TP) {W : WX} {sc : Scope} {X : Cx} {xs : List Expr}, Ev G C fa ca W sc X → chkPs G sc t xs = true → PA X xs (rPs X.K fa ca C W t)
  | [], W, sc, X, [], v, h => s_ps_nil
  | a :: r, W, sc, X, x :: xs, v, h => by
    simp only [chkPs, Bool.and_eq_true] at h
    exact s_ps_cons (sP a v h.1.1) (sPs r v h.2) h.1.2
  | [], W, sc, X, _ :: _, v, h => by simp [chkPs] at h
  | _ :: _, W, sc, X, [], v, h => by simp [chkPs] at h
theorem sA : ∀ (t : TA) {W : WX} {sc : Scope} {X : Cx} {e : Expr}, Ev G C fa ca W sc X → chkA G sc t e = true → PE X e (rA X.K fa ca C W t)
  | .d a, W, sc, X, e, v, h => s_a_d (sE a v (by simpa [chkA] using h)).1
  | .b k, W, sc, X, e, v, h => by
    unfold chkA at h; split at h <;> first | (cases h; done) | (rename_i q; cases q; done) | (rename_i q; cases q)
    obtain ⟨h1, h2, h3, h4⟩ := v.nm h
    exact s_a_b h1 h2 h3 h4
  | .o a, W, sc, X, e, v, h => by
    unfold chkA at h; first | (cases h; done) | (split at h <;> first | (cases h; done) | (rename_i q; cases q; done))
theorem sAs : ∀ (t : List TA) {W : WX} {sc : Scope} {X : Cx} {xs : List Expr}, Ev G C fa ca W sc X → chkAs G sc t xs = true → PA X xs (rAs X.K fa ca C W t)
  | [], W, sc, X, [], v, h => s_as_nil
  | a :: r, W, sc, X, x :: xs, v, h => by
    simp only [chkAs, Bool.and_eq_true] at h
    exact s_as_cons (sA a v h.1.1) (sAs r v h.2) h.1.2
  | [], W, sc, X, _ :: _, v, h => by simp [chkAs] at h
  | _ :: _, W, sc, X, [], v, h => by simp [chkAs] at h
theorem sLs : ∀ (t : List TL) {W : WX} {sc : Scope} {X : Cx} {xs : List Expr}, Ev G C fa ca W sc X → chkLs G sc t xs = true → PA X xs (rLs X.K fa ca C W t)
  | [], W, sc, X, [], v, h => s_ls_nil
  | .e a :: r, W, sc, X, x :: xs, v, h => by
    simp only [chkLs, Bool.and_eq_true] at h
    exact s_ls_cons (sE a v h.1.1).1 (sLs r v h.2) h.1.2
  | .s a :: r, W, sc, X, x :: xs, v, h => by simp [chkLs] at h
  | [], W, sc, X, _ :: _, v, h => by simp [chkLs] at h
  | .e _ :: _, W, sc, X, [], v, h => by simp [chkLs] at h
  | .s _ :: _, W, sc, X, [], v, h => by simp [chkLs] at h
theorem sIfs : ∀ (t : List TE) {W : WX} {sc : Scope} {X : Cx} {xs : List Expr}, Ev G C fa ca W sc X → chkEs1 G sc t xs = true → PTs X xs (rIfs X.K fa ca C W t)
  | [], W, sc, X, [], v, h => pts_nil'
  | [a], W, sc, X, [x], v, h => by
    simp only [chkEs1, Bool.and_eq_true] at h
    exact pts_one' ((sE a v h.2).2 h.1)
  | [], W, sc, X, _ :: _, v, h => by simp [chkEs1] at h
  | [_], W, sc, X, [], v, h => by simp [chkEs1] at h
  | [_], W, sc, X, _ :: _ :: _, v, h => by simp [chkEs1] at h
  | _ :: _ :: _, W, sc, X, _, v, h => by simp [chkEs1] at h
theorem sOpt : ∀ (t : Option TE) {W : WX} {sc : Scope} {X : Cx} {e : Option Expr}, Ev G C fa ca W sc X → chkOpt G sc t e = true → PO X e (rOpt X.K fa ca C W t)
  | none, W, sc, X, none, v, h => s_opt_none
  | some a, W, sc, X, some x, v, h => s_opt_some (sE a v (by simpa [chkOpt] using h)).1
  | none, W, sc, X, some _, v, h => by simp [chkOpt] at h
  | some _, W, sc, X, none, v, h => by simp [chkOpt] at h
theorem sI : ∀ (t : TI) {W : WX} {sc : Scope} {X : Cx} {tg e : Expr}, Ev G C fa ca W sc X → chkI G sc t tg e = true → PI X tg e (rI X.K fa ca C W t)
  | .seq a, W, sc, X, tg, e, v, h => i_seq (sE a v (by simpa [chkI] using h)).1
  | .rng1 a, W, sc, X, tg, e, v, h => by
    unfold chkI at h; split at h <;> first | (cases h; done) | (rename_i q; cases q; done) | (rename_i q; cases q)
    simp only [Bool.and_eq_true, decide_eq_true_eq] at h
    obtain ⟨⟨h1, h2⟩, h3⟩ := h
    obtain ⟨rfl, g2, g3⟩ := v.bl (by decide) h1
    exact i_rng1 g2 g3 (sE a v h2).1 h3
  | .rng2 a b, W, sc, X, tg, e, v, h => by
    unfold chkI at h; split at h <;> first | (cases h; done) | (rename_i q; cases q; done) | (rename_i q; cases q)
    simp only [Bool.and_eq_true, decide_eq_true_eq] at h
    obtain ⟨⟨⟨⟨h1, h2⟩, h3⟩, h4⟩, h5⟩ := h
    obtain ⟨rfl, g2, g3⟩ := v.bl (by decide) h1
    exact i_rng2 g2 g3 (sE a v h2).1 h3 (sE b v h4).1 h5
  | .enum a, W, sc, X, tg, e, v, h => by
    unfold chkI at h; split at h <;> first | (cases h; done) | (rename_i q; cases q; done) | (rename_i q; cases q)
    simp only [Bool.and_eq_true, decide_eq_true_eq] at h
    obtain ⟨⟨⟨h0, h1⟩, h2⟩, h3⟩ := h
    obtain ⟨rfl, g2, g3⟩ := v.bl (by decide) h1
    obtain ⟨_, _, _, rfl⟩ := isTupE_of h0
    exact i_enum g2 g3 (sE a v h2).1 h3
  | .zip a b false, W, sc, X, tg, e, v, h => by
    unfold chkI at h; split at h <;> first | (cases h; done) | (rename_i q; cases q; done) | (rename_i q; cases q)
    simp only [Bool.and_eq_true, decide_eq_true_eq] at h
    obtain ⟨⟨⟨⟨⟨h0, h1⟩, h2⟩, h3⟩, h4⟩, h5⟩ := h
    obtain ⟨rfl, g2, g3⟩ := v.bl (by decide) h1
    obtain ⟨_, _, _, rfl⟩ := isTupE_of h0
    exact i_zip (pi_zz g2 g3 (pa_cons (sE a v h2).1 (one_arg (sE b v h4).1 h5) (starEach_of h3)) (starEach_of h3) (plain_of (by simp [h5])))
  | .zip a b true, W, sc, X, tg, e, v, h => by
    unfold chkI at h; split at h <;> first | (cases h; done) | (rename_i q; cases q; done) | (rename_i q; cases q)
    simp only [Bool.and_eq_true, decide_eq_true_eq] at h
    obtain ⟨⟨⟨⟨⟨⟨h0, h1⟩, h2⟩, h3⟩, h4⟩, h5⟩, h6⟩ := h
    obtain ⟨rfl, g2, g3⟩ := v.bl (by decide) h1
    obtain ⟨_, _, _, rfl⟩ := isTupE_of h0
    exact i_zip (pi_zzK h6 g2 g3 (pa_cons (sE a v h2).1 (one_arg (sE b v h4).1 h5) (starEach_of h3)) (starEach_of h3) (plain_of (by simp [h5])))
theorem sF : ∀ (t : TF) {W : WX} {sc : Scope} {X : Cx} {e : Expr}, Ev G C fa ca W sc X → chkF G sc t e = true → PE X e (rF X.K fa ca C W t) ∧ (isComp e = true → LcP X e (rF X.K fa ca C W t))
  | .lst es, W, sc, X, e, v, h => by
    unfold chkF at h; split at h <;> first | (cases h; done) | (rename_i q; cases q; done) | (rename_i q; cases q)
    simp only [Bool.and_eq_true, decide_eq_true_eq] at h
    exact ⟨s_lst h.1 (noTL h.2) (sLs es v h.2), fun z => by cases z⟩
  | .comp elt tg it ifs own, W, sc, X, e, v, h => by
    unfold chkF at h; split at h <;> first | (cases h; done) | (rename_i q; cases q; done) | (rename_i q; cases q)
    simp only [Bool.and_eq_true, decide_eq_true_eq] at h
    obtain ⟨⟨⟨⟨⟨⟨⟨h1, h2⟩, h3⟩, h4⟩, h5⟩, h6⟩, h7⟩, h8⟩ := h
    subst h1
    have ok := blk_ok v.S v.g.N h4
    have hk := ok.kind
    have ho : ∀ k, k ∈ tvars tg → k ∈ own := fun k hk => by simpa using List.all_eq_true.mp h6 k hk
    have L := fun (pp : Pos) => lcp (pe := pp) v.g.calm v.g.nd (sI it v h2) ok (g := gT X.K tg) (tt := rIfs X.K fa ca C WF ifs) (te := rE X.K fa ca C WF elt)
      (fun s H Ca cl fp => s_tgt v.g.blk.calm v.g.blk.N v.g.blk.nd (SC.blk (X := X) hk).own h5) (fun s H Ca cl fp => sIfs ifs ⟨SC.blk hk, v.g.blk⟩ h7) (fun s H Ca cl fp => (sE elt ⟨SC.blk hk, v.g.blk⟩ h8).1) (folded_of h3)
    have hm : (own.map fun k => ((G.N[k]?).getD Str.empty, k)).map (·.2) = own := by rw [List.map_map]; exact List.map_id own
    simp only [hm] at L
    exact ⟨((L _).weak fun σ H Q q => lc_D ho σ H Q q).pe, fun _ => (L _).weak fun σ H Q q => lc_D ho σ H Q q⟩
  | .cat a b, W, sc, X, e, v, h => by
    unfold chkF at h; split at h <;> first | (cases h; done) | (rename_i q; cases q; done) | (rename_i q; cases q)
    simp only [Bool.and_eq_true, decide_eq_true_eq] at h
    exact ⟨s_cat (sP a v h.1) (sP b v h.2), fun z => by cases z⟩
  | .rep a n, W, sc, X, e, v, h => by
    unfold chkF at h; split at h <;> first | (cases h; done) | (rename_i q; cases q; done) | (rename_i q; cases q)
    simp only [Bool.and_eq_true, decide_eq_true_eq] at h
    exact ⟨s_rep (sP a v h.1) (sE n v h.2).1, fun z => by cases z⟩
  | .slice a lo hi, W, sc, X, e, v, h => by
    unfold chkF at h; split at h <;> first | (cases h; done) | (rename_i q; cases q; done) | (rename_i q; cases q)
    simp only [Bool.and_eq_true, decide_eq_true_eq] at h
    exact ⟨s_slice (sP a v h.1.1) (sOpt lo v h.1.2) (sOpt hi v h.2), fun z => by cases z⟩
  | .list_ (.seq a), W, sc, X, e, v, h => by
    unfold chkF at h; split at h <;> first | (cases h; done) | (rename_i q; cases q; done) | (rename_i q; cases q)
    simp only [Bool.and_eq_true, decide_eq_true_eq] at h
    obtain ⟨rfl, g2, g3⟩ := v.bl (by decide) h.1.1
    exact ⟨s_list_seq g2 g3 (sE a v h.1.2).1 h.2, fun z => by cases z⟩
  | .list_ (.rng1 a), W, sc, X, e, v, h => by
    unfold chkF at h; split at h <;> first | (cases h; done) | (rename_i q; cases q; done) | (rename_i q; cases q)
    simp only [Bool.and_eq_true, decide_eq_true_eq] at h
    obtain ⟨⟨⟨h1, h2⟩, h3⟩, h4⟩ := h
    obtain ⟨rfl, g2, g3⟩ := v.bl (by decide) h1
    obtain ⟨rfl, g4, g5⟩ := v.bl (by decide) h2
    exact ⟨s_list_rng v.g.calm g2 g3 g4 g5 (sE a v h3).1 h4, fun z => by cases z⟩
  | .list_ (.rng2 a b), W, sc, X, e, v, h => by
    unfold chkF at h; first | (cases h; done) | (split at h <;> first | (cases h; done) | (rename_i q; cases q; done))
  | .list_ (.enum a), W, sc, X, e, v, h => by
    unfold chkF at h; first | (cases h; done) | (split at h <;> first | (cases h; done) | (rename_i q; cases q; done))
  | .list_ (.zip a b st), W, sc, X, e, v, h => by
    unfold chkF at h; first | (cases h; done) | (split at h <;> first | (cases h; done) | (rename_i q; cases q; done))
  | .sorted a, W, sc, X, e, v, h => by
    unfold chkF at h; split at h <;> first | (cases h; done) | (rename_i q; cases q; done) | (rename_i q; cases q)
    simp only [Bool.and_eq_true, decide_eq_true_eq] at h
    obtain ⟨rfl, g2, g3⟩ := v.bl (by decide) h.1.1
    exact ⟨s_sorted v.hu g2 g3 (sP a v h.1.2) h.2, fun z => by cases z⟩
  | .sumL a, W, sc, X, e, v, h => by
    unfold chkF at h; split at h <;> first | (cases h; done) | (rename_i q; cases q; done) | (rename_i q; cases q)
    simp only [Bool.and_eq_true, decide_eq_true_eq] at h
    obtain ⟨rfl, g2, g3⟩ := v.bl (by decide) h.1.1
    exact ⟨s_sumL v.g.calm g2 g3 (sP a v h.1.2) h.2, fun z => by cases z⟩
theorem sO : ∀ (t : TO) {W : WX} {sc : Scope} {X : Cx} {e : Expr}, Ev G C fa ca W sc X → chkO G sc t e = true → PE X e (rO X.K fa ca C W t) ∧ (isComp e = true → isFC t = true → LcP X e (rO X.K fa ca C W t))
  | .e a, W, sc, X, e, v, h => ⟨s_o_e (sE a v (by simpa [chkO] using h)).1, fun _ z => by cases z⟩
  | .f t, W, sc, X, e, v, h => by
    have k := sF t v (show chkF G sc t e = true by simpa [chkO] using h)
    exact ⟨s_o_f k.1, fun z _ => (k.2 z).weak fun σ H Q q => rO_f q⟩
  | .lst es, W, sc, X, e, v, h => by
    unfold chkO at h; split at h <;> first | (cases h; done) | (rename_i q; cases q; done) | (rename_i q; cases q)
    simp only [Bool.and_eq_true, decide_eq_true_eq] at h
    exact ⟨s_o_lst h.1 (sOs es v h.2), fun z => by cases z⟩
  | .tup es, W, sc, X, e, v, h => by
    unfold chkO at h; split at h <;> first | (cases h; done) | (rename_i q; cases q; done) | (rename_i q; cases q)
    simp only [Bool.and_eq_true, decide_eq_true_eq] at h
    exact ⟨s_o_tup h.1 (sOs es v h.2), fun z => by cases z⟩
  | .mv k, W, sc, X, e, v, h => by
    unfold chkO at h; split at h <;> first | (cases h; done) | (rename_i q; cases q; done) | (rename_i q; cases q)
    obtain ⟨h1, h2, h3, h4⟩ := v.nm h
    exact ⟨s_o_mv h1 h2 h3 h4, fun z => by cases z⟩
  | .comp elt tg it ifs own, W, sc, X, e, v, h => by
    unfold chkO at h; split at h <;> first | (cases h; done) | (rename_i q; cases q; done) | (rename_i q; cases q)
    simp only [Bool.and_eq_true, decide_eq_true_eq] at h
    obtain ⟨⟨⟨⟨⟨⟨⟨h1, h2⟩, h3⟩, h4⟩, h5⟩, h6⟩, h7⟩, h8⟩ := h
    subst h1
    have ok := blk_ok v.S v.g.N h4
    have hk := ok.kind
    have ho : ∀ k, k ∈ tvars tg → k ∈ own := fun k hk => by simpa using List.all_eq_true.mp h6 k hk
    have L := fun (pp : Pos) => lcp (pe := pp) v.g.calm v.g.nd (sI it v h2) ok (g := gT X.K tg) (tt := rIfs X.K fa ca C WF ifs) (te := rO X.K fa ca C WF elt)
      (fun s H Ca cl fp => s_tgt v.g.blk.calm v.g.blk.N v.g.blk.nd (SC.blk (X := X) hk).own h5) (fun s H Ca cl fp => sIfs ifs ⟨SC.blk hk, v.g.blk⟩ h7) (fun s H Ca cl fp => (sO elt ⟨SC.blk hk, v.g.blk⟩ h8).1) (folded_of h3)
    have hm : (own.map fun k => ((G.N[k]?).getD Str.empty, k)).map (·.2) = own := by rw [List.map_map]; exact List.map_id own
    simp only [hm] at L
    exact ⟨((L _).weak fun σ H Q q => lc_O ho σ H Q q).pe, fun _ _ => (L _).weak fun σ H Q q => lc_O ho σ H Q q⟩
  | .call f as perm, W, sc, X, e, v, h => by
    unfold chkO at h; split at h <;> first | (cases h; done) | (rename_i q; cases q; done) | (rename_i q; cases q)
    exact ⟨callX v h fun hh => sAs as v hh, fun z => by cases z⟩
  | .ife t a b, W, sc, X, e, v, h => by
    unfold chkO at h; split at h <;> first | (cases h; done) | (rename_i q; cases q; done) | (rename_i q; cases q)
    simp only [Bool.and_eq_true, decide_eq_true_eq] at h
    exact ⟨s_o_ife ((sE t v h.1.1.2).2 h.1.1.1) (sO a v h.1.2).1 (sO b v h.2).1, fun z => by cases z⟩
theorem sOs : ∀ (t : List TO) {W : WX} {sc : Scope} {X : Cx} {xs : List Expr}, Ev G C fa ca W sc X → chkOs G sc t xs = true → PA X xs (rOs X.K fa ca C W t)
  | [], W, sc, X, [], v, h => s_os_nil
  | a :: r, W, sc, X, x :: xs, v, h => by
    simp only [chkOs, Bool.and_eq_true] at h
    exact s_os_cons (sO a v h.1.1).1 (sOs r v h.2) h.1.2
  | [], W, sc, X, _ :: _, v, h => by simp [chkOs] at h
  | _ :: _, W, sc, X, [], v, h => by simp [chkOs] at h
end
end
end TL

set_option maxRecDepth 100000
set_option maxHeartbeats 8000000
namespace TL
open PySem PySem.Spec PyProof.Rows L2
section
variable {G : GT} {C : Cfg} {fa ca : Nat → Addr} {W : WX} {sc : Scope} {X : Cx}
theorem nP {k : Nat} (h : (!G.P.contains k) = true) : k ∉ G.P := by simpa using h
theorem isLoc_ok (v : Ev G C fa ca W sc X) {x : Str} (h : isLoc sc x = true) : X.env.scope.names.lookup x = some .local := by
  refine (v.S.loc x).mpr ?_
  unfold isLoc at h
  split at h
  · assumption
  · cases h
theorem notLoc_ok (v : Ev G C fa ca W sc X) {x : Str} (h : isLoc sc x = false) : ¬ X.env.scope.names.lookup x = some .local := fun z => by
  have := (v.S.loc x).mp z
  unfold isLoc at h
  rw [this] at h
  cases h
theorem ne_name (v : Ev G C fa ca W sc X) {i j : Nat} {x y : Str} (hi : G.N[i]? = some x) (hj : G.N[j]? = some y) (hij : i ≠ j) : x ≠ y := fun z => by
  subst z
  rw [← v.g.N] at hi hj
  exact hij (nodup_ix v.g.nd hi hj)
theorem pe_peek (v : Ev G C fa ca W sc X) {k : Nat} {x : Str} {px : Pos} (h : chkV G sc k x = true) : PE X (.Name x px) (fun σ H Q => ∃ w, σ[k]? = some (some w) ∧ Q w H) := by
  obtain ⟨h1, h2, h3, h4⟩ := v.nm h
  exact pe_var h1 h2 h3 h4
theorem tG_mono {α β : Type} {K : PySem.W.Frag} {R : Hp → Hp → α → β → List Addr → Prop} {ev : En → Res α} {σ : L2.St} {H : Hp} {Q Q' : β → Hp → Prop} (h : tG K fa ca W R ev σ H Q) (k : ∀ b H, Q b H → Q' b H) : tG K fa ca W R ev σ H Q' := by
  obtain ⟨Hf, e, F, S, h⟩ := h
  exact ⟨Hf, e, F, S, h.mono k⟩
theorem mtM_R {id : String} {r : V → List V → Hp → VK → Prop} (h : MtM X id r) : MtR X id r := fun pins s σ H x xs v us Q I rx rs q => h pins s σ H x xs v us Q I rx rs q
theorem few_one {e : Expr} {env : Env} {pos : Pos} (h : notStar e = true) : ((backTo pos (starEach [e] env)).all (fun x => !x.1) && (backToKw pos (keywordEach [] env)).all (fun x => x.1.isSome)
      && decide (([e] : List Expr).length + ([] : List Keyword).length + (if ([] : List Keyword).isEmpty then 0 else 1) < 30)) = true := by
  rw [starEach_of h]; rfl
theorem sw_sub {x : Expr} {y : Expr} {p : Pos} {e : Expr} {env : Env} (h : isComp e = false) : swappedStores [.Subscript x y p] e env = pure none := by
  cases e <;> rfl
theorem assign_sub {o i : Expr} {pos : Pos} (h : isPlain i = true) (v : Value) : assign (.Subscript o i pos) X.env v = (do
      let ov ← holding [v] (eval o X.env)
      let iv ← holding [v, ov] (eval i X.env)
      standAt pos
      holding [v, ov, iv] (setItem ov iv v)
      release [v, ov, iv] []) := by
  cases i with
  | Slice l u s p => cases s with
    | none => simp [isPlain] at h
    | some _ => rfl
  | _ => rfl
theorem sole_false {t e : Expr} {l : Nat} {env : Env} (h : isComp e = false) : swapsWithSole [t] e l env = pure false := sw_false h
theorem filt_lt {α β : Type} {f : α → Option β} : ∀ {l : List α} {a : α}, a ∈ l → f a = none → (l.filterMap f).length < l.length
  | b :: l, a, h, ha => by
    rcases List.mem_cons.mp h with rfl | h
    · rw [List.filterMap_cons_none ha]
      exact Nat.lt_succ_of_le (List.length_filterMap_le _ _)
    · have := filt_lt h ha
      cases q : f b with
      | none => rw [List.filterMap_cons_none q]; exact Nat.lt_succ_of_lt this
      | some c => rw [List.filterMap_cons_some q]; exact Nat.succ_lt_succ this
theorem sw_nonloc {es : List Expr} {k : Nat} {p py : Pos} {y : Str} {e : Expr} {env : Env} (hm : Expr.Name y py ∈ es) (hy : ¬ env.scope.names.lookup y = some .local) : swappedStores [.Tuple es k p] e env = pure none := by
  have ky : (env.kindOf y == some NameKind.local) = false := by
    cases q : env.kindOf y with
    | none => rfl
    | some k =>
      cases k with
      | «local» => exact absurd q hy
      | _ => rfl
  cases e <;> first | rfl | skip
  rename_i vs k2 p2
  unfold swappedStores
  dsimp only
  split
  · rfl
  · split
    · rfl
    · rw [if_pos]
      have := filt_lt (f := fun x => match x with | .Name id pos => if (env.kindOf id == some .local && pos.line == ((es.head?.map (·.pos.line)).getD 0)) = true then some id else none | _ => none) hm (by simp [ky])
      simp only [Bool.or_eq_true, bne_iff_ne, ne_eq]
      left
      exact Nat.ne_of_lt this
theorem ps_nv {st : Stmt} {t : L2.TS} (h : ∀ D σ H, ¬ t D σ H) : PS X st t := ⟨fun _ _ σ H D _ q => (h D σ H q).elim⟩
mutual
theorem sS : ∀ (t : TS) {st : Stmt}, Ev G C fa ca W sc X → PassesOwn (model X.prog X.w) X.A X.env X.xe → chkS G sc t st = true → PS X st (tS X.K fa ca W G.P (exec C t))
  | .asg k a, st, v, hp, h => by
    unfold chkS at h; split at h <;> first | (cases h; done) | (rename_i q; cases q; done) | (rename_i q; cases q)
    rename_i x px e pos
    simp only [Bool.and_eq_true, decide_eq_true_eq] at h
    obtain ⟨⟨⟨⟨⟨h0, h1⟩, h2⟩, h3⟩, h4⟩, h5⟩ := h
    have hi : X.N[k]? = some x := by rw [v.g.N]; exact h1
    obtain ⟨o1, o2⟩ := v.S.own x h2
    have k0 := sO a v h3
    have plain : swapsWith e (some (.Name x px)) pos.line X.env = pure false → PS X (.Assign [.Name x px] e pos) (tS X.K fa ca W G.P (exec C (.asg k a))) := fun hs =>
      (ps_set v.g.nd hi o1 k0.1 hs o2).weak fun D σ H q => asg_weak (nP h0) q
    by_cases hc : isComp e = true
    · have hfc : isFC a = true := by simpa [hc] using h5
      have L := k0.2 hc hfc
      cases e with
      | ListComp elt gs scope pe =>
        by_cases hl : isLoc sc x = true
        · unfold okSet at h4
          simp only [hl, Bool.true_and, Bool.not_true, Bool.or_false, Bool.and_eq_true] at h4
          have hloc := isLoc_ok v hl
          have sw := sw_true (elt := elt) (gs := gs) (l := pos.line) v.S.fnk hloc h4.1 (by simpa using h4.2)
          exact (L.set hi hloc sw).weak fun D σ H q => asg_weak (nP h0) q
        · exact plain (sw_cell (notLoc_ok v (by simpa using hl)))
      | SetComp => simp [okSet, isComp] at h4
      | DictComp => simp [okSet, isComp] at h4
      | _ => cases hc
    · exact plain (sw_false (by simpa using hc))
  | .asgT (.t ts) a, st, v, hp, h => by
    unfold chkS at h; split at h <;> first | (cases h; done) | (rename_i q; cases q; done) | (rename_i q; cases q)
    rename_i es kk p e pos
    simp only [Bool.and_eq_true, decide_eq_true_eq, Bool.not_eq_true'] at h
    obtain ⟨⟨⟨⟨h0, h1⟩, h2⟩, h3⟩, h4⟩ := h
    have h4 : swappedStores [.Tuple es kk p] e X.env = pure none := by
      unfold okTup at h4
      rw [Bool.or_eq_true] at h4
      rcases h4 with h4 | h4
      · exact sw_none (by simpa using h4)
      · obtain ⟨x, hx, hy⟩ := List.any_eq_true.mp h4
        cases x <;> first | (cases hy; done) | exact sw_nonloc hx (notLoc_ok v (by simpa using hy))
    have g := s_tgt v.g.calm v.g.N v.g.nd v.S.own h1
    refine (ps_asg (sE a v h2).1 g (sole_false h3) h4 rfl).weak fun D σ H q => asgT_weak (fun k hk => ?_) q
    have := List.all_eq_true.mp h0 k hk
    exact nP this
  | .asgT (.n k) a, st, v, hp, h => by
    unfold chkS at h; first | (cases h; done) | (split at h <;> first | (cases h; done) | (rename_i q; cases q; done))
  | .par [i, j] [a, b], st, v, hp, h => by
    unfold chkS at h; split at h <;> first | (cases h; done) | (rename_i q; cases q; done) | (rename_i q; cases q)
    simp only [Bool.and_eq_true, decide_eq_true_eq, Bool.not_eq_true'] at h
    obtain ⟨⟨⟨⟨⟨⟨⟨⟨⟨⟨⟨⟨⟨p1, p2⟩, h1⟩, h2⟩, h3⟩, h4⟩, h5⟩, h6⟩, h7⟩, h8⟩, h9⟩, h10⟩, h11⟩, h12⟩ := h
    have ha : PA X _ (rOs X.K fa ca C W [a, b]) := s_os_cons (sO a v h6).1 (s_os_cons (sO b v h7).1 s_os_nil h9) h8
    refine (ps_par v.g.calm v.g.nd (by rw [v.g.N]; exact h1) (by rw [v.g.N]; exact h2) h3 (isLoc_ok v h4) (isLoc_ok v h5) ha
      (sw_two v.S.fnk (isLoc_ok v h4) (isLoc_ok v h5) (ne_name v h1 h2 h3) h8 h9 h10 h11 h12)).weak fun D σ H q => ?_
    have z := par_weak (fun k hk => ?_) q
    · refine tG_mono z fun vs H1 ⟨l, n⟩ => ?_
      match vs, l with
      | [u, w], _ => exact ⟨u, w, rfl, n⟩
    · rcases List.mem_cons.mp hk with rfl | hk
      · simpa using p1
      · rcases List.mem_cons.mp hk with rfl | hk
        · simpa using p2
        · cases hk
  | .par [i, j, l] [a, b, c], st, v, hp, h => by
    unfold chkS at h; split at h <;> first | (cases h; done) | (rename_i q; cases q; done) | (rename_i q; cases q)
    simp only [Bool.and_eq_true, decide_eq_true_eq, Bool.not_eq_true'] at h
    obtain ⟨⟨⟨⟨⟨⟨⟨⟨⟨⟨⟨⟨⟨⟨⟨⟨⟨⟨⟨⟨⟨p1, p2⟩, p3⟩, h1⟩, h2⟩, h3⟩, d1⟩, d2⟩, d3⟩, l1⟩, l2⟩, l3⟩, a1⟩, a2⟩, a3⟩, n1⟩, n2⟩, n3⟩, e1⟩, e2⟩, f1⟩, f2⟩ := h
    have ha : PA X _ (rOs X.K fa ca C W [a, b, c]) := s_os_cons (sO a v a1).1 (s_os_cons (sO b v a2).1 (s_os_cons (sO c v a3).1 s_os_nil n3) n2) n1
    refine (ps_par3 v.g.calm v.g.nd (by rw [v.g.N]; exact h1) (by rw [v.g.N]; exact h2) (by rw [v.g.N]; exact h3) d1 d2 d3 (isLoc_ok v l1) (isLoc_ok v l2) (isLoc_ok v l3) ha
      (sw_three v.S.fnk (isLoc_ok v l1) (isLoc_ok v l2) (isLoc_ok v l3) (ne_name v h1 h2 d1) (ne_name v h1 h3 d2) (ne_name v h2 h3 d3) n1 n2 n3 e1 e2 f1 f2)).weak fun D σ H q => ?_
    have z := par_weak (fun k hk => ?_) q
    · refine tG_mono z fun vs H1 ⟨l, n⟩ => ?_
      match vs, l with
      | [u, w, y], _ => exact ⟨u, w, y, rfl, n⟩
    · simp only [List.mem_cons, List.not_mem_nil, or_false] at hk
      rcases hk with rfl | rfl | rfl
      · simpa using p1
      · simpa using p2
      · simpa using p3
  | .par [] es, st, v, hp, h => by
    unfold chkS at h; first | (cases h; done) | (split at h <;> first | (cases h; done) | (rename_i q; cases q; done))
  | .par [_] es, st, v, hp, h => by
    unfold chkS at h; first | (cases h; done) | (split at h <;> first | (cases h; done) | (rename_i q; cases q; done))
  | .par (_ :: _ :: _ :: _ :: _) es, st, v, hp, h => by
    unfold chkS at h; first | (cases h; done) | (split at h <;> first | (cases h; done) | (rename_i q; cases q; done))
  | .par [_, _] [], st, v, hp, h => by
    unfold chkS at h; first | (cases h; done) | (split at h <;> first | (cases h; done) | (rename_i q; cases q; done))
  | .par [_, _] [_], st, v, hp, h => by
    unfold chkS at h; first | (cases h; done) | (split at h <;> first | (cases h; done) | (rename_i q; cases q; done))
  | .par [_, _] (_ :: _ :: _ :: _), st, v, hp, h => by
    unfold chkS at h; first | (cases h; done) | (split at h <;> first | (cases h; done) | (rename_i q; cases q; done))
  | .par [_, _, _] [], st, v, hp, h => by
    unfold chkS at h; first | (cases h; done) | (split at h <;> first | (cases h; done) | (rename_i q; cases q; done))
  | .par [_, _, _] [_], st, v, hp, h => by
    unfold chkS at h; first | (cases h; done) | (split at h <;> first | (cases h; done) | (rename_i q; cases q; done))
  | .par [_, _, _] [_, _], st, v, hp, h => by
    unfold chkS at h; first | (cases h; done) | (split at h <;> first | (cases h; done) | (rename_i q; cases q; done))
  | .par [_, _, _] (_ :: _ :: _ :: _ :: _), st, v, hp, h => by
    unfold chkS at h; first | (cases h; done) | (split at h <;> first | (cases h; done) | (rename_i q; cases q; done))
  | .store k (_ :: _) i a, st, v, hp, h => by
    unfold chkS at h; first | (cases h; done) | (split at h <;> first | (cases h; done) | (rename_i q; cases q; done))
  | .app k (_ :: _) a, st, v, hp, h => by
    unfold chkS at h; first | (cases h; done) | (split at h <;> first | (cases h; done) | (rename_i q; cases q; done))
  | .aug k op a, st, v, hp, h => by
    unfold chkS at h; first | (cases h; done) | (split at h <;> first | (cases h; done) | (rename_i q; cases q; done))
  | .augS k i op a, st, v, hp, h => by
    unfold chkS at h; first | (cases h; done) | (split at h <;> first | (cases h; done) | (rename_i q; cases q; done))
  | .raise c a, st, v, hp, h => by
    unfold chkS at h; first | (cases h; done) | (split at h <;> first | (cases h; done) | (rename_i q; cases q; done))
  | .try_ b c k s, st, v, hp, h => by
    unfold chkS at h; first | (cases h; done) | (split at h <;> first | (cases h; done) | (rename_i q; cases q; done))
  | .store k [] i a, st, v, hp, h => by
    unfold chkS at h; split at h <;> first | (cases h; done) | (rename_i q; cases q; done) | (rename_i q; cases q)
    simp only [Bool.and_eq_true, decide_eq_true_eq, Bool.not_eq_true'] at h
    obtain ⟨⟨⟨⟨⟨⟨h1, h2⟩, h3⟩, h4⟩, h5⟩, h6⟩, h7⟩ := h
    rename_i x px y p e pos
    have hv : chkV G sc k x = true := by unfold chkV; simp only [Bool.and_eq_true, decide_eq_true_eq]; exact ⟨⟨h1, h2⟩, h3⟩
    have pk := pe_peek v (px := px) hv
    refine (ps_asg (sO a v h6).1 (pg_sub pk (sE i v h4).1 set_list (assign_sub h5)) (sole_false h7) (sw_sub h7) rfl).weak fun D σ H q => store_weak q
  | .app k [] a, st, v, hp, h => by
    unfold chkS at h; split at h <;> first | (cases h; done) | (rename_i q; cases q; done) | (rename_i q; cases q)
    simp only [Bool.and_eq_true, decide_eq_true_eq, Bool.not_eq_true'] at h
    obtain ⟨⟨⟨⟨⟨⟨h1, h2⟩, h3⟩, h4⟩, h5⟩, h6⟩, h7⟩ := h
    subst h4
    rename_i x px ap e cp pos
    have hv : chkV G sc k x = true := by unfold chkV; simp only [Bool.and_eq_true, decide_eq_true_eq]; exact ⟨⟨h1, h2⟩, h3⟩
    refine (ps_expr (pe_bm PySem.F.plainAttrs_list PySem.F.slot_list_append PySem.F.type_list_append (mtM_R mt_append) (pe_peek v hv) (pa_cons (sO a v h5).1 pa_nil (starEach_of h6)) rfl (few_one h6) h7 (starEach_of h6) rfl) rfl).weak fun D σ H q => app_weak q
  | .expr a, st, v, hp, h => by
    unfold chkS at h; split at h <;> first | (cases h; done) | (rename_i q; cases q; done) | (rename_i q; cases q)
    simp only [Bool.and_eq_true, decide_eq_true_eq, Bool.not_eq_true'] at h
    exact (ps_expr (sE a v h.1).1 (sw_false h.2)).weak fun D σ H q => expr_weak q
  | .for_ t it body, st, v, hp, h => by
    unfold chkS at h; split at h <;> first | (cases h; done) | (rename_i q; cases q; done) | (rename_i q; cases q)
    simp only [Bool.and_eq_true, decide_eq_true_eq, Bool.not_eq_true'] at h
    obtain ⟨⟨⟨⟨h1, h2⟩, h3⟩, h4⟩, h5⟩ := h
    refine (ps_for hp v.g.calm (sI it v h2) (s_tgt v.g.calm v.g.N v.g.nd v.S.own h4) (sSs body v hp h5) (folded_of h3)).weak fun D σ H q => for_weak (fun k hk => ?_) q
    have := List.all_eq_true.mp h1 k hk
    exact nP this
  | .while_ c body, st, v, hp, h => by
    unfold chkS at h; split at h <;> first | (cases h; done) | (rename_i q; cases q; done) | (rename_i q; cases q)
    simp only [Bool.and_eq_true, decide_eq_true_eq, Bool.not_eq_true'] at h
    exact (ps_while hp ((sE c v h.1.2).2 h.1.1) (sSs body v hp h.2)).weak fun D σ H q => while_weak v.g.lp q
  | .if_ c a b, st, v, hp, h => by
    unfold chkS at h; split at h <;> first | (cases h; done) | (rename_i q; cases q; done) | (rename_i q; cases q)
    simp only [Bool.and_eq_true, decide_eq_true_eq, Bool.not_eq_true'] at h
    exact (ps_if ((sE c v h.1.1.2).2 h.1.1.1) (sSs a v hp h.1.2) (sSs b v hp h.2)).weak fun D σ H q => if_weak q
  | .ret a, st, v, hp, h => by
    unfold chkS at h; split at h <;> first | (cases h; done) | (rename_i q; cases q; done) | (rename_i q; cases q)
    exact (ps_ret (sO a v h).1).weak fun D σ H q => ret_weak q
  | .retN, st, v, hp, h => by
    unfold chkS at h; split at h <;> first | (cases h; done) | (rename_i q; cases q; done) | (rename_i q; cases q)
    exact ps_retN.weak fun D σ H q => retN_weak q
  | .pass, st, v, hp, h => by
    unfold chkS at h; split at h <;> first | (cases h; done) | (rename_i q; cases q; done) | (rename_i q; cases q)
    exact ps_pass.weak fun D σ H q => pass_weak q
  | .bad, st, v, hp, h => ps_nv fun D σ H q => bad_weak q
theorem sSs : ∀ (t : List TS) {st : List Stmt}, Ev G C fa ca W sc X → PassesOwn (model X.prog X.w) X.A X.env X.xe → chkSs G sc t st = true → PSs X st (tS X.K fa ca W G.P (execs C t))
  | [], [], v, hp, h => pss_nil.weak fun D σ H ⟨Hf, e, F, S, q⟩ => by
    simp only [execs] at q
    exact q Hf H σ F S.fin fun _ _ => rfl
  | a :: as, x :: xs, v, hp, h => by
    simp only [chkSs, Bool.and_eq_true] at h
    refine (pss_cons (sS a v hp h.1) (sSs as v hp h.2)).weak fun D σ H ⟨Hf, e, F, S, q⟩ => ?_
    simp only [execs] at q
    exact ⟨Hf, e, F, S, GoS.seq (D' := { D with nx := tS X.K fa ca W G.P (execs C as) D }) q rfl rfl⟩
  | [], _ :: _, v, hp, h => by simp [chkSs] at h
  | _ :: _, [], v, hp, h => by simp [chkSs] at h
end
end
end TL

set_option maxRecDepth 100000
set_option maxHeartbeats 4000000
namespace TL
open PySem PySem.Spec PyProof.Rows L2
section
variable {K : PySem.W.Frag} {fa ca : Nat → Addr} {Hf H Hf' H' : Hp}
theorem relE_app : ∀ {e : En} {σ : L2.St} {F : List Addr} (n : Nat), relE K fa ca Hf H e σ F → relE K fa ca Hf H (e ++ List.replicate n none) (σ ++ List.replicate n none) F
  | [], [], F, n, h => by
    cases h
    show relE K fa ca Hf H (List.replicate n none) (List.replicate n none) []
    induction n with
    | zero => rfl
    | succ n ih => exact ih
  | none :: e, x :: σ, F, n, h => relE_app (e := e) (σ := σ) n h
  | some o :: e, x :: σ, F, n, ⟨v, F1, F2, h1, h2, h3, h4⟩ => ⟨v, F1, F2, h1, h2, h3, relE_app (e := e) (σ := σ) n h4⟩
  | [], _ :: _, _, _, h => h.elim
  | none :: _, [], _, _, h => h.elim
  | some _ :: _, [], _, _, h => h.elim
/-- what is not lent is given away -/
theorem relE_frz : ∀ {bor : List Bool} {os : List O} {vs : List V} {F : List Addr}, bor.length = os.length → relE K fa ca Hf H (os.map some) (vs.map some) F → ∃ Fz Fk : List Addr, Fk.Sublist F ∧ (∀ a, a ∈ F ↔ a ∈ Fz ∨ a ∈ Fk) ∧ (F.Nodup → ∀ a, a ∈ Fz → a ∉ Fk) ∧
    ∀ {Hf' : Hp}, Same Hf Hf' → (∀ a, a ∈ Fz → Hf' a = H a) → relE K fa ca Hf' H (frzL bor os) (vs.map some) Fk
  | [], [], vs, F, _, h => by
    cases vs with
    | nil => cases h; exact ⟨[], [], List.Sublist.refl _, by simp, by simp, fun _ _ => rfl⟩
    | cons => exact h.elim
  | b :: bor, o :: os, vs, F, hl, h => by
    cases vs with
    | nil => exact h.elim
    | cons v vs =>
      obtain ⟨w, F1, F2, h1, h2, h3, h4⟩ := h
      have h1 := Option.some.inj h1
      subst h1 h2
      obtain ⟨Fz, Fk, s1, s2, s3, s4⟩ := relE_frz (bor := bor) (by simpa using hl) h4
      cases b with
      | true =>
        refine ⟨Fz, F1 ++ Fk, List.Sublist.append (List.Sublist.refl _) s1, fun a => ?_, fun nd a ha hk => ?_, fun sm k => ⟨v, F1, Fk, rfl, rfl, repO_frame sm (fun _ _ => rfl) h3, s4 sm k⟩⟩
        · rw [List.mem_append, List.mem_append, s2]
          constructor
          · rintro (z | z | z)
            · exact .inr (.inl z)
            · exact .inl z
            · exact .inr (.inr z)
          · rintro (z | z | z)
            · exact .inr (.inl z)
            · exact .inl z
            · exact .inr (.inr z)
        · have nd' := List.nodup_append.mp nd
          rcases List.mem_append.mp hk with z | z
          · exact nd'.2.2 a z a ((s2 a).mpr (.inl ha)) rfl
          · exact s3 nd'.2.1 a ha z
      | false =>
        refine ⟨F1 ++ Fz, Fk, s1.trans (List.sublist_append_right _ _), fun a => ?_, fun nd a ha hk => ?_, fun sm k => ⟨v, [], Fk, rfl, rfl, ⟨rfl, repO_freeze sm (fun a ha => k a (List.mem_append_left _ ha)) h3⟩, s4 sm fun a ha => k a (List.mem_append_right _ ha)⟩⟩
        · rw [List.mem_append, List.mem_append, s2]
          constructor
          · rintro (z | z | z)
            · exact .inl (.inl z)
            · exact .inl (.inr z)
            · exact .inr z
          · rintro ((z | z) | z)
            · exact .inl z
            · exact .inr (.inl z)
            · exact .inr (.inr z)
        · have nd' := List.nodup_append.mp nd
          rcases List.mem_append.mp ha with z | z
          · exact nd'.2.2 a z a ((s2 a).mpr (.inr hk)) rfl
          · exact s3 nd'.2.1 a z hk
  | [], _ :: _, _, _, hl, _ => by cases hl
  | _ :: _, [], _, _, hl, _ => by cases hl
/-- the state at the start of the body -/
theorem start_st {bor : List Bool} {os : List O} {vs : List V} {F : List Addr} (n : Nat) (hl : bor.length = os.length) (S : Stt K fa ca Hf H (vs.map some) (os.map some) F) : ∃ Hf' F', Fin K fa ca Hf H F Hf' H (vs.map some ++ List.replicate n none) (frzL bor os ++ List.replicate n none) F' [] := by
  obtain ⟨Fz, Fk, s1, s2, s3, s4⟩ := relE_frz hl S.rel
  let Hf2 : Hp := fun a => if a ∈ Fz then H a else Hf a
  have hz : ∀ a, a ∈ Fz → Hf a = none := fun a ha => S.dis a ((s2 a).mpr (.inl ha))
  have sm : Same Hf Hf2 := fun a o' h => by
    show (if a ∈ Fz then H a else Hf a) = _
    by_cases ha : a ∈ Fz
    · rw [hz a ha] at h; cases h
    · rw [if_neg ha]; exact h
  have sub : Same Hf2 H := fun a o' h => by
    have h : (if a ∈ Fz then H a else Hf a) = some o' := h
    by_cases ha : a ∈ Fz
    · rw [if_pos ha] at h; exact h
    · rw [if_neg ha] at h; exact S.sub _ _ h
  have rel := relE_app n (s4 sm (fun a ha => if_pos ha))
  have ndk := S.nd.sublist s1
  refine ⟨Hf2, Fk, ⟨sub, rel, ndk, fun a ha => ?_⟩, by simpa using ndk, by simp, sm, fun a o h _ => h, fun a h => ?_⟩
  · show (if a ∈ Fz then H a else Hf a) = none
    rw [if_neg fun z => s3 S.nd a z ha]
    exact S.dis a (s1.subset ha)
  · rcases h with h | h
    · exact .inl (s1.subset (by simpa using h))
    · have h : (if a ∈ Fz then H a else Hf a) ≠ none := h
      by_cases ha : a ∈ Fz
      · exact .inl ((s2 a).mpr (.inl ha))
      · rw [if_neg ha] at h; exact .inr (.inl h)
/-- what the lent parameters are at the end -/
theorem relE_outs : ∀ {bor : List Bool} {vs : List V} {e : En} {σ : L2.St} {F : List Addr}, bor.length = vs.length → relE K fa ca Hf H e σ F → (∀ i : Nat, bor[i]? = some true → σ[i]? = (vs.map some)[i]?) → ∃ Fo, Fo.Sublist F ∧ relE K fa ca Hf H (outsOf bor e) (vs.map some) Fo
  | [], [], e, σ, F, _, _, _ => ⟨[], List.nil_sublist _, rfl⟩
  | b :: bor, v :: vs, [], σ, F, hl, h, k => by
    cases σ with
    | cons => exact h.elim
    | nil =>
      obtain ⟨Fo, s1, r1⟩ := relE_outs (bor := bor) (vs := vs) (e := []) (σ := []) (F := F) (by simpa using hl) h fun i hi => by
        have := k (i + 1) (by simpa using hi)
        simpa using this
      exact ⟨Fo, s1, r1⟩
  | b :: bor, v :: vs, none :: e, x :: σ, F, hl, h, k => by
    obtain ⟨Fo, s1, r1⟩ := relE_outs (bor := bor) (vs := vs) (e := e) (σ := σ) (F := F) (by simpa using hl) h fun i hi => by
      have := k (i + 1) (by simpa using hi)
      simpa using this
    refine ⟨Fo, s1, ?_⟩
    cases b <;> exact r1
  | b :: bor, v :: vs, some o :: e, x :: σ, F, hl, ⟨w, F1, F2, h1, h2, h3, h4⟩, k => by
    obtain ⟨Fo, s1, r1⟩ := relE_outs (bor := bor) (vs := vs) (e := e) (σ := σ) (F := F2) (by simpa using hl) h4 fun i hi => by
      have := k (i + 1) (by simpa using hi)
      simpa using this
    subst h2
    cases b with
    | false => exact ⟨Fo, s1.trans (List.sublist_append_right _ _), r1⟩
    | true =>
      have : x = some v := by simpa using k 0 rfl
      rw [this] at h1
      have h1 := Option.some.inj h1
      subst h1
      exact ⟨F1 ++ Fo, List.Sublist.append (List.Sublist.refl _) s1, v, F1, Fo, rfl, rfl, h3, r1⟩
  | b :: bor, v :: vs, _ :: _, [], F, hl, h, k => by
    rename_i x e
    cases x <;> exact h.elim
  | [], _ :: _, _, _, _, hl, _, _ => by cases hl
  | _ :: _, [], _, _, _, hl, _, _ => by cases hl
end
/-! ### the program's defs -/
/-- what is known of the module -/
structure PF (K : PySem.W.Frag) (mg : Str → Option Value) (fa ca : Nat → Addr) (fns : List (Str × List Str)) (globs : List Str) (gl : Nat → Option D) : Prop where
  blt : ∀ x ∈ bltNames, mg x = none
  fn : ∀ f x ps, fns[f]? = some (x, ps) → mg x = some (.ref (fa f)) ∧ PySem.W.keepIn K (.ref (fa f)) = true
  glob : ∀ g x, globs[g]? = some x → ∃ d u v, gl g = some d ∧ mg x = some u ∧ RelV v u ∧ ∀ H, repD K fa ca H d v
/-- a def's own facts -/
structure DF (K : PySem.W.Frag) (fa : Nat → Addr) (f : Nat) (ps : List Str) (d : TDef) (G : GT) (fns : List (Str × List Str)) (globs : List Str) : Prop where
  fd : ∃ x qual params body scope fd, FunD K x qual params body scope [] [] (fa f) fd ∧ FnScope G.N ps scope ∧ Binds K fd ps [] ∧ chkSs G scope d.body body = true
  ext : d.ext = none
  np : d.np = ps.length
  bor : d.bor.length = d.np
  nv : d.nv = G.N.length
  len : ps.length ≤ G.N.length
  P : ∀ i : Nat, d.bor[i]? = some true → i ∈ G.P
  fns : G.fns = fns
  globs : G.globs = globs
section
variable {Pg : Program} {w : World} {K : PySem.W.Frag} {mg : Str → Option Value} {base : Heap} {fa ca : Nat → Addr} {fns : List (Str × List Str)} {globs : List Str} {gl : Nat → Option D} {P : List TDef} {n : (En → Res D) → (En → FRes) → En → FRes}
/-- where the function object lies -/
def Lk (K : PySem.W.Frag) (a : Addr) (fd : FuncData) : Prop := ∃ oc od osl, K.lookup a = some ⟨oc, od, .func fd, osl⟩
theorem Lk.of {x qual : Str} {params : Arguments} {body : List Stmt} {scope : Scope} {dvs : List V} {kws : List (Str × V)} {f : Addr} {fd : FuncData} (F : FunD K x qual params body scope dvs kws f fd) : Lk K f fd := by
  obtain ⟨oc, od, dV, kV, doc, pm, an, cdv, ct, osl, _, lk, _⟩ := F.ex
  exact ⟨oc, od, osl, lk⟩
theorem Lk.eq {a : Addr} {fd fd' : FuncData} (h : Lk K a fd) (h' : Lk K a fd') : fd = fd' := by
  obtain ⟨_, _, _, h⟩ := h
  obtain ⟨_, _, _, h'⟩ := h'
  rw [h] at h'
  cases h'
  rfl
/-- a promise, with the def's function object and how its arguments bind -/
def Has (Pg : Program) (w : World) (K : PySem.W.Frag) (mg : Str → Option Value) (base : Heap) (fa ca : Nat → Addr) (k f : Nat) (ps : List Str) (g : List O → CRes) : Prop :=
  ∃ fd, FnOk Pg w K mg base (L2.CX Pg w) k (fa f) fd ps (spC K fa ca ps.length g) ∧ Binds K fd ps [] ∧ Lk K (fa f) fd
theorem def_ok (lp : LoopOk n) (pf : PF K mg fa ca fns globs gl) {k f : Nat} {ps : List Str} {d : TDef} {G : GT} (df : DF K fa f ps d G fns globs) (ih : ∀ f x ps, fns[f]? = some (x, ps) → Has Pg w K mg base fa ca k f ps (callT P gl n k f)) :
    Has Pg w K mg base fa ca (k + 1) f ps (runDef ⟨callT P gl n k, gl, n⟩ d) := by
  obtain ⟨x, qual, params, body, scope, fd, F, S, hb, hchk⟩ := df.fd
  refine ⟨fd, F.ok S (fun vs H Q E h => h.1) (fun cdv A outer s H vs Q E hr h => ?_), hb, Lk.of F⟩
  obtain ⟨hv, Hf, os, F0, st, h⟩ := h
  generalize hX : cxOf (L2.CX Pg w) Pg w K mg base G.N qual scope (fa f) cdv A outer s H E = X
  have tk : Takes X (fun cls d _ H => E cls d H) := by subst hX; exact takes_of rfl rfl rfl rfl
  have ow : PassesOwn (model X.prog X.w) X.A X.env X.xe := by subst hX; exact passes_of rfl
  have sc : SC scope X := by
    subst hX
    refine ⟨fun x h => ?_, fun x h => ?_, fun x h => ?_, fun x h => h, fun x => Iff.rfl, S.kind⟩
    · unfold isVis at h
      show Vis scope x
      split at h
      · exact .inl (by assumption)
      · exact .inr (.inl (by assumption))
      · exact .inr (.inr (by assumption))
      · cases h
    · unfold isGlo at h
      show scope.names.lookup x = _
      split at h
      · assumption
      · cases h
    · unfold isOwn at h
      show Loc scope x ∧ _
      split at h
      · exact ⟨.inl (by assumption), .inl rfl⟩
      · exact ⟨.inr (by assumption), .inl rfl⟩
      · cases h
  have gx : GX G ⟨callT P gl n k, gl, n⟩ fa ca (fun cls d _ H => E cls d H) X := by
    subst hX
    refine ⟨rfl, S.nd, rfl, hr.mono (Nat.zero_le _), lp, tk, pf.blt, fun f' x' ps' hf => ?_, fun g x hg => pf.glob g x (by rw [← df.globs]; exact hg)⟩
    rw [df.fns] at hf
    obtain ⟨h1, h2⟩ := pf.fn f' x' ps' hf
    obtain ⟨fd', h3, h4, _⟩ := ih f' x' ps' hf
    exact ⟨h1, h2, k, fd', h3, hr, h4⟩
  have ev : Ev G ⟨callT P gl n k, gl, n⟩ fa ca (fun cls d _ H => E cls d H) scope X := ⟨sc, gx⟩
  have hK : X.K = K := by subst hX; rfl
  refine ⟨_, sSs d.body ev ow hchk, ?_⟩
  rw [hK]
  -- the start
  have hlo : os.length = d.np := by
    have := relE_len st.rel
    simp only [List.length_map] at this
    rw [this, hv, df.np]
  have hstart : L2.start G.N vs = vs.map some ++ List.replicate (d.nv - d.np) none := by
    unfold L2.start
    rw [df.nv, df.np, hv]
  obtain ⟨Hf1, F1, f1⟩ := start_st (bor := d.bor) (d.nv - d.np) (by rw [df.bor, hlo]) st
  rw [hstart]
  refine ⟨Hf1, startE d os, F1, f1.st, ?_⟩
  unfold runDef at h
  rw [df.ext] at h
  dsimp only at h
  rw [if_pos ⟨hlo, df.bor⟩] at h
  -- the end
  have outs : ∀ {Hf' H' : Hp} {σ' : L2.St} {e' : En} {F' Fv : List Addr}, Fin K fa ca Hf1 H F1 Hf' H' σ' e' F' Fv → (∀ j, j ∈ G.P → σ'[j]? = (vs.map some ++ List.replicate (d.nv - d.np) none)[j]?) → ∃ Fo, Fin K fa ca Hf H F0 Hf' H' (vs.map some) (outsOf d.bor e') Fo Fv := by
    intro Hf' H' σ' e' F' Fv fin hP
    have hbv : d.bor.length = vs.length := by rw [df.bor, df.np, hv]
    obtain ⟨Fo, s1, r1⟩ := relE_outs hbv fin.st.rel fun i hi => by
      rw [hP i (df.P i hi)]
      have hlt : i < vs.length := by
        have := (List.getElem?_eq_some_iff.mp hi).1
        omega
      rw [List.getElem?_append_left (by simpa using hlt)]
    have c := f1.comp fin
    exact ⟨Fo, c.sub' s1 r1⟩
  cases hx : execs ⟨callT P gl n k, gl, n⟩ d.body (startE d os) with
  | next e' =>
    rw [hx] at h
    intro Hf' H' σ' F' fin hP
    obtain ⟨Fo, g⟩ := outs fin hP
    exact h .non Hf' H' Fo [] g ⟨rfl, rfl⟩
  | ret o e' =>
    rw [hx] at h
    intro v Hf' H' σ' F' Fv fin hP ro
    obtain ⟨Fo, g⟩ := outs fin hP
    exact h v Hf' H' Fo Fv g ro
  | exc c dd e' =>
    rw [hx] at h
    intro dd' w' Hf' H' σ' F' fin hP h1 h2
    obtain ⟨Fo, g⟩ := outs fin hP
    exact h dd' w' Hf' H' Fo g h1 h2
  | stuck => rw [hx] at h; exact h.elim
/-- every def keeps its promise, at every depth -/
theorem prog_ok (hd : ∀ f x ps, fns[f]? = some (x, ps) → ∃ d, P[f]? = some d ∧ (∃ fd, Binds K fd ps [] ∧ Lk K (fa f) fd) ∧ ∀ k, (∀ f x ps, fns[f]? = some (x, ps) → Has Pg w K mg base fa ca k f ps (callT P gl n k f)) → Has Pg w K mg base fa ca (k + 1) f ps (runDef ⟨callT P gl n k, gl, n⟩ d)) :
    ∀ k f x ps, fns[f]? = some (x, ps) → Has Pg w K mg base fa ca k f ps (callT P gl n k f)
  | 0, f, x, ps, hf => by
    obtain ⟨d, _, ⟨fd, hb, hl⟩, _⟩ := hd f x ps hf
    refine ⟨fd, ⟨fun vs H Q E h => h.1, fun A outer s H args us vs Q E hr he hbt hv h => ?_⟩, hb, hl⟩
    obtain ⟨_, Hf, os, F, st, h⟩ := h
    exact h.elim
  | k + 1, f, x, ps, hf => by
    obtain ⟨d, hp, _, h⟩ := hd f x ps hf
    have := h k fun f x ps hf => prog_ok hd k f x ps hf
    simp only [callT, hp]
    exact this
theorem DF.binds {f : Nat} {ps : List Str} {d : TDef} {G : GT} (df : DF K fa f ps d G fns globs) : ∃ fd, Binds K fd ps [] ∧ Lk K (fa f) fd := by
  obtain ⟨x, qual, params, body, scope, fd, F, S, hb, hchk⟩ := df.fd
  exact ⟨fd, hb, Lk.of F⟩
end
end TL

set_option maxRecDepth 100000
set_option maxHeartbeats 1000000
namespace TL
open PySem PySem.Spec PyProof.Rows L2
/-! ### the head's facts, with one more test -/
def obsQ (n : Nat) (fa : List He.Fa) (fn : List He.DefD) (ex : PySem.W.Frag → Bool) (g : Addr → Option Obj) : He.AlD × Bool := (He.obsD fa fn (He.frG g (He.asD g n)), ex (He.frG g (He.asD g n)))
def hookQ (n : Nat) (fa : List He.Fa) (fn : List He.DefD) (ex : PySem.W.Frag → Bool) : PySem.W.Hook where
  α := He.AlD × Bool
  obs := fun s => obsQ n fa fn ex s.heap.get?
  val := fun _ => (He.valD fn, true)
  says := fun _ h => ∃ K : PySem.W.Frag, K.In h ∧ He.SaysD fa fn K ∧ ex K = true
  of := fun _ _ e => ⟨_, He.frG_in, congrArg (fun z : He.AlD × Bool => z.1) e, congrArg (fun z : He.AlD × Bool => z.2) e⟩
  keeps := fun _ _ _ ⟨K, hK, c⟩ k => ⟨K, PySem.W.Frag.In.keeps hK k, c⟩
theorem obsQ_eq {n : Nat} {fa : List He.Fa} {fn : List He.DefD} {ex : PySem.W.Frag → Bool} {g : Addr → Option Obj} {s : Shared} (h : ∀ a, g a = s.heap.get? a) : obsQ n fa fn ex g = (hookQ n fa fn ex).obs s := by
  have e : g = s.heap.get? := funext h
  rw [e] <;> rfl
def lentIx (b : List Bool) : List Nat := (b.zipIdx.filter (·.1)).map (·.2)
theorem lent_mem {b : List Bool} (i : Nat) (h : b[i]? = some true) : i ∈ lentIx b := by
  unfold lentIx
  refine List.mem_map.mpr ⟨(true, i), List.mem_filter.mpr ⟨?_, rfl⟩, rfl⟩
  rw [List.mem_zipIdx_iff_getElem?]
  exact h
/-- the law's own call: a list of numbers comes, true goes -/
theorem law_sp {K : PySem.W.Frag} {fa ca : Nat → Addr} {g : List O → CRes} {ns : List Int} {outs : List (Option O)} {H : Hp} {a : Addr} (hg : g [.frz (.scr ns)] = .ok (.frz (.bl true)) outs) (hl : ns.length ≤ 63) (hS : SqL K H a (ns.map V.int)) :
    spC K fa ca 1 g [.ref a] H (fun v _ => v = .bl true) fun _ _ _ => False := by
  refine ⟨rfl, H, [.frz (.scr ns)], [], ⟨Same.refl _, ?_, List.nodup_nil, fun a ha => by cases ha⟩, ?_⟩
  · exact ⟨.ref a, [], [], rfl, rfl, ⟨rfl, a, rfl, hS, by rw [sizeLine_eq]; omega⟩, rfl⟩
  · rw [hg]
    intro v Hf' H' Fo Fv fin ro
    exact ro.2
theorem cx_false {P : Program} {w : World} (H : Hp) (s : Shared) (e : Value) (s' : Shared) (h : L2.CX P w [] H s (fun _ _ _ => False) e s') : False := by
  obtain ⟨a, B, H', cls, d, _, _, _, _, _, _, _, hE⟩ := h
  exact hE
end TL
namespace TL
open PySem PySem.Spec PyProof.Rows L2
theorem fn_wide {P : Program} {w : World} {K : PySem.W.Frag} {mg : Str → Option Value} {base : Heap} {CX CX' : CXT} {k : Nat} {f : Addr} {fd : FuncData} {ps : List Str} {sp : Sp} (h : ∀ outer H s E u s', CX outer H s E u s' → CX' outer H s E u s') (F : FnOk P w K mg base CX k f fd ps sp) : FnOk P w K mg base CX' k f fd ps sp :=
  ⟨F.len, fun A outer s H args us vs Q E hr he hb hv hs => codeAny_mono (F.run A outer s H args us vs Q E hr he hb hv hs) fun r s' hq => by
    cases r with
    | error e => exact h _ _ _ _ _ _ hq
    | ok f => cases f <;> exact hq⟩
def CXa (P : Program) : CXT := fun outer H s E u s' => ∃ w, L2.CX P w outer H s E u s'
theorem cxa_false {P : Program} (H : Hp) (s : Shared) (e : Value) (s' : Shared) (h : CXa P [] H s (fun _ _ _ => False) e s') : False := by
  obtain ⟨w, h⟩ := h
  exact cx_false H s e s' h
end TL

set_option maxRecDepth 100000
/-! helpers for the plain law -/
namespace TL
open PySem
theorem execs_cons (C : Cfg) (a : TS) (r : List TS) (e : En) : execs C (a :: r) e = (exec C a e).bind (execs C r) := rfl
theorem execs_nil (C : Cfg) (e : En) : execs C [] e = .next e := rfl
theorem bind_next (e : En) (f : En → FRes) : (FRes.next e).bind f = f e := rfl
theorem bind_ret (x : O) (e : En) (f : En → FRes) : (FRes.ret x e).bind f = .ret x e := rfl
theorem run_ret {C : Cfg} {d : TDef} {os : List O} {x : O} {e : En} {outs : List (Option O)} (h : execs C d.body (startE d os) = .ret x e) (h1 : d.ext = none) (h2 : os.length = d.np ∧ d.bor.length = d.np) (ho : outsOf d.bor e = outs) : runDef C d os = .ok x outs := by
  unfold runDef
  rw [h1]
  dsimp only
  rw [if_pos h2, h, ← ho]
theorem run_next {C : Cfg} {d : TDef} {os : List O} {e : En} {outs : List (Option O)} (h : execs C d.body (startE d os) = .next e) (h1 : d.ext = none) (h2 : os.length = d.np ∧ d.bor.length = d.np) (ho : outsOf d.bor e = outs) : runDef C d os = .ok (.frz .non) outs := by
  unfold runDef
  rw [h1]
  dsimp only
  rw [if_pos h2, h, ← ho]
theorem lent_v : ∀ ds : List D, lent (ds.map AV.v) = []
  | [] => rfl
  | _ :: ds => lent_v ds
theorem getAll_v (e : En) : ∀ ds : List D, getAll (fun v => AV.get v e) (ds.map AV.v) = some (ds.map O.frz)
  | [] => rfl
  | d :: ds => by
    show (some (O.frz d)).bind (fun b => (getAll (fun v => AV.get v e) (ds.map AV.v)).map (b :: ·)) = _
    rw [getAll_v e ds]; rfl
theorem putOuts_v (e : En) : ∀ (ds : List D) (outs : List (Option O)), outs.length = ds.length → putOuts (ds.map AV.v) outs e = some e
  | [], [], _ => rfl
  | _ :: ds, _ :: outs, h => putOuts_v e ds outs (by simpa using h)
  | [], _ :: _, h => by cases h
  | _ :: _, [], h => by cases h
/-- a call whose arguments all go by value -/
theorem doCall_v {C : Cfg} {f : Nat} {ds : List D} {e : En} {x : O} {outs : List (Option O)} (h : C.call f (ds.map O.frz) = .ok x outs) (hl : outs.length = ds.length) : doCall C f (ds.map AV.v) e = .ok x e := by
  unfold doCall
  rw [lent_v, if_pos (by simp), getAll_v]
  dsimp only
  rw [h]
  dsimp only
  rw [putOuts_v e ds outs hl]
  rfl
end TL

set_option maxRecDepth 100000
/-! P: what is evaluated with no change of the names: plain functions to Option -/
namespace TL
open PySem
def cdO (C : Cfg) (f : Nat) (ds : List D) : Option O := match C.call f (ds.map O.frz) with
  | .ok o outs => if outs.length = ds.length then some o else none
  | _ => none
def cd (C : Cfg) (f : Nat) (ds : List D) : Option D := (cdO C f ds).map O.toD
def mfM {α : Type} (f : D → Option (Option α)) : List D → Option (List α)
  | [] => some []
  | d :: ds => (f d).bind fun o => (mfM f ds).map fun r => match o with | some a => a :: r | none => r
/-- a comprehension's own names hold nothing ahead -/
def ownFree (e : En) : List Nat → Bool
  | [] => true
  | k :: r => (e.at k).isNone && ownFree e r
mutual
/-- a target's names are among these -/
def tgIn (own : List Nat) : TT → Bool
  | .n k => own.contains k
  | .t ts => tgsIn own ts
def tgsIn (own : List Nat) : List TT → Bool
  | [] => true
  | t :: ts => tgIn own t && tgsIn own ts
end
def rngA0 (x : D) : Option (List D) := match x with
  | .int j => if smallI j then some (rangeD 0 j) else none
  | _ => none
def rngB0 (x y : D) : Option (List D) := match x, y with
  | .int i, .int j => if smallI i && smallI j then some (rangeD i j) else none
  | _, _ => none
def rep0 (xs : List D) (n : Int) : Option (List D) := if smallI n && decide (xs.length * n.toNat ≤ listLine) then some (List.replicate n.toNat xs).flatten else none
/-! the same, closed: the kernel must not open the bounds -/
theorem ex_op : ∃ f, f = opB := ⟨_, rfl⟩
noncomputable def opQ : BOp → D → D → Option D := Classical.choose ex_op
theorem opQ_eq : opQ = opB := Classical.choose_spec ex_op
theorem ex_rngA : ∃ f, f = rngA0 := ⟨_, rfl⟩
theorem ex_rngB : ∃ f, f = rngB0 := ⟨_, rfl⟩
theorem ex_rep : ∃ f, f = rep0 := ⟨_, rfl⟩
noncomputable def rngA : D → Option (List D) := Classical.choose ex_rngA
noncomputable def rngB : D → D → Option (List D) := Classical.choose ex_rngB
noncomputable def repC : List D → Int → Option (List D) := Classical.choose ex_rep
theorem rngA_eq : rngA = rngA0 := Classical.choose_spec ex_rngA
theorem rngB_eq : rngB = rngB0 := Classical.choose_spec ex_rngB
theorem repC_eq : repC = rep0 := Classical.choose_spec ex_rep
variable (C : Cfg)
mutual
noncomputable def pE : TE → En → Option D
  | .var k, e => (match e.at k with
    | some (.frz d) => some d
    | _ => none)
  | .int i, e => some (.int i)
  | .str s, e => some (.str s)
  | .bl b, e => some (.bl b)
  | .non, e => some .non
  | .glob g, e => C.glob g
  | .fn f, e => some (.fn f)
  | .bin op a b, e => (pV a e).bind fun x => (pV b e).bind fun y => (x.get e).bind fun x => (y.get e).bind fun y => opQ op x y
  | .neg a, e => (pE a e).bind fun x => (match x with
    | .int i => some (.int (-i))
    | _ => none)
  | .cmp op a b, e => (pV a e).bind fun x => (pV b e).bind fun y => (x.get e).bind fun x => (y.get e).bind fun y => (opC op x y).map .bl
  | .chain o1 o2 a b c, e => (pV a e).bind fun x => (pV b e).bind fun y => ((x.get e).bind fun x => (y.get e).bind fun y => opC o1 x y).bind fun r => if r then (pV c e).bind fun z => (y.get e).bind fun y => (z.get e).bind fun z => (opC o2 y z).map .bl else some (.bl false)
  | .and_ es, e => pAnd es e
  | .or_ es, e => pOr es e
  | .not_ a, e => (pE a e).bind fun x => (match x with
    | .bl b => some (.bl (!b))
    | _ => none)
  | .ife t a b, e => (pE t e).bind fun x => (match x with
    | .bl b' => if b' then pE a e else pE b e
    | _ => none)
  | .call f as perm, e => (pAs as e).bind fun ds => cd C f ds
  | .blt b as, e => (pVs as e).bind fun vs => (getAll (fun v => PV.get v e) vs).bind (opX b)
  | .isi a ts, e => (pV a e).bind fun x => (x.get e).bind fun d => (isiD ts d).map .bl
  | .meth m r as, e => (pV r e).bind fun x => (pVs as e).bind fun vs => (x.get e).bind fun d => (getAll (fun v => PV.get v e) vs).bind (opM m d)
  | .tup es, e => (pLs es e).map .tup
  | .sub a i, e => (pV a e).bind fun x => (pE i e).bind fun i => x.sub i e
  | .slt a lo hi, e => none
  | .pop k path i, e => none
  | .val a, e => none
  | .f t, e => (pF t e).map .lst
  | .bad, e => none
noncomputable def pEs : List TE → En → Option (List D)
  | [], e => some []
  | a :: r, e => (pE a e).bind fun x => (pEs r e).map (x :: ·)
noncomputable def pAnd : List TE → En → Option D
  | [], _ => none
  | [a], e => pE a e
  | a :: r, e => (pE a e).bind fun x => (match x with
    | .bl b => if b then pAnd r e else some (.bl false)
    | _ => none)
noncomputable def pOr : List TE → En → Option D
  | [], _ => none
  | [a], e => pE a e
  | a :: r, e => (pE a e).bind fun x => (match x with
    | .bl b => if b then some (.bl true) else pOr r e
    | _ => none)
noncomputable def pV : TP → En → Option PV
  | .e a, e => (pE a e).map .v
  | .pk k, e => (e.at k).map fun _ => .r k
noncomputable def pVs : List TP → En → Option (List PV)
  | [], e => some []
  | a :: r, e => (pV a e).bind fun x => (pVs r e).map (x :: ·)
noncomputable def pA : TA → En → Option D
  | .d a, e => pE a e
  | .b k, e => none
  | .o a, e => none
noncomputable def pAs : List TA → En → Option (List D)
  | [], e => some []
  | a :: r, e => (pA a e).bind fun x => (pAs r e).map (x :: ·)
noncomputable def pLs : List TL → En → Option (List D)
  | [], e => some []
  | .e a :: r, e => (pE a e).bind fun x => (pLs r e).map (x :: ·)
  | .s a :: r, e => (pE a e).bind fun x => x.items.bind fun l => (pLs r e).map (l ++ ·)
noncomputable def pI : TI → En → Option (List D)
  | .seq a, e => (pE a e).bind D.items
  | .rng1 a, e => (pE a e).bind rngA
  | .rng2 a b, e => (pE a e).bind fun x => (pE b e).bind fun y => rngB x y
  | .enum a, e => (pE a e).bind fun x => (match x with
    | .lst xs => some (enumD xs)
    | _ => none)
  | .zip a b st, e => (pE a e).bind fun x => (pE b e).bind fun y => (seqD x).bind fun xs => (seqD y).bind fun ys => if st && xs.length != ys.length then none else some (zipD xs ys)
noncomputable def pF : TF → En → Option (List D)
  | .lst es, e => pLs es e
  | .comp elt tg it ifs own, e => (pI it e).bind fun ds => if ownFree e own && tgIn own tg then mfM (fun d => (bindT tg d e).bind fun e => (pIfs ifs e).bind fun b => if b then (pE elt e).map some else some none) ds else none
  | .cat a b, e => (pV a e).bind fun x => (pV b e).bind fun y => (x.list e).bind fun xs => (y.list e).bind fun ys => if xs.length + ys.length ≤ listLine then some (xs ++ ys) else none
  | .rep a n, e => (pV a e).bind fun x => (pE n e).bind fun n => (x.list e).bind fun xs => (intD n).bind fun n => repC xs n
  | .slice a lo hi, e => (pV a e).bind fun x => (pOpt lo e).bind fun l => (pOpt hi e).bind fun h => (x.listS e).map fun xs => cutD xs l h
  | .list_ it, e => pI it e
  | .sorted a, e => (pV a e).bind fun x => (x.list e).bind sortD
  | .sumL a, e => (pV a e).bind fun x => (x.list e).bind fun xs => (sumL xs).bind fun ys => if ys.length ≤ listLine then some ys else none
noncomputable def pOpt : Option TE → En → Option (Option Int)
  | none, e => some none
  | some a, e => (pE a e).bind fun x => (match x with
    | .int i => some (some i)
    | _ => none)
noncomputable def pIfs : List TE → En → Option Bool
  | [], e => some true
  | a :: r, e => (pE a e).bind fun x => (match x with
    | .bl b => if b then pIfs r e else some false
    | _ => none)
end
mutual
noncomputable def pO : TO → En → Option O
  | .e a, e => (pE C a e).map .frz
  | .f t, e => (pF C t e).map fun xs => .lst (xs.map .frz)
  | .lst es, e => (pOs es e).map .lst
  | .tup es, e => (pOs es e).map .tup
  | .mv k, e => none
  | .comp elt tg it ifs own, e => none
  | .call f as perm, e => (pAs C as e).bind fun ds => cdO C f ds
  | .ife t a b, e => (pE C t e).bind fun x => (match x with
    | .bl b' => if b' then pO a e else pO b e
    | _ => none)
noncomputable def pOs : List TO → En → Option (List O)
  | [], e => some []
  | a :: r, e => (pO a e).bind fun x => (pOs r e).map (x :: ·)
end
inductive PR where
  | next (e : En) | ret (o : O) (e : En)
def PR.f : PR → FRes
  | .next e => .next e
  | .ret o e => .ret o e
def PR.bind (r : PR) (f : En → Option PR) : Option PR := match r with
  | .next e => f e
  | .ret o e => some (.ret o e)
noncomputable def loopP (f : D → En → Option PR) : List D → En → Option PR
  | [], e => some (.next e)
  | d :: ds, e => (f d e).bind fun r => r.bind (loopP f ds)
mutual
noncomputable def pS : TS → En → Option PR
  | .asg k a, e => (pO C a e).map fun x => .next (e.put k x)
  | .asgT t a, e => (pE C a e).bind fun x => (bindT t x e).map .next
  | .par ks es, e => (pOs C es e).bind fun xs => (putAll ks xs e).map .next
  | .store k path i a, e => (pO C a e).bind fun x => if isLstAt e k then (pEs C path e).bind fun p => (pE C i e).bind fun i => (En.modAt (setO i x) k p e).map fun r => .next r.1 else none
  | .aug k op a, e => none
  | .augS k i op a, e => none
  | .app k path a, e => if isLstAt e k then (pEs C path e).bind fun p => (pO C a e).bind fun x => (En.modAt (appO x) k p e).map fun r => .next r.1 else none
  | .expr a, e => (pE C a e).map fun _ => .next e
  | .for_ t it body, e => (pI C it e).bind fun ds => loopP (fun d e => (bindT t d e).bind fun e => pSs body e) ds e
  | .while_ c body, e => none
  | .if_ c a b, e => (pE C c e).bind fun x => (match x with
    | .bl b' => if b' then pSs a e else pSs b e
    | _ => none)
  | .ret a, e => (match a with
    | .mv k => (e.at k).map fun o => .ret o (e.set k none)
    | a => (pO C a e).map fun x => .ret x e)
  | .retN, e => some (.ret (.frz .non) e)
  | .raise c a, e => none
  | .try_ body c k suite, e => none
  | .pass, e => some (.next e)
  | .bad, e => none
noncomputable def pSs : List TS → En → Option PR
  | [], e => some (.next e)
  | a :: r, e => (pS a e).bind fun x => x.bind (pSs r)
end
end TL

set_option maxRecDepth 100000
namespace TL
open PySem
theorem wipe_len (e : En) : ∀ own, (wipeE e own).length = e.length
  | [] => rfl
  | k :: r => by rw [wipeE, List.length_set, wipe_len e r]
theorem wipe_get (e : En) (j : Nat) : ∀ own : List Nat, (wipeE e own)[j]? = if j ∈ own ∧ j < e.length then some none else e[j]?
  | [] => by simp [wipeE]
  | k :: r => by
    rw [wipeE, List.getElem?_set, wipe_len, wipe_get e j r]
    by_cases h : k = j
    · subst h
      by_cases h2 : k < e.length
      · simp [h2]
      · simp [h2]
    · have : ¬ j = k := fun z => h z.symm
      simp [h, this]
theorem wipe_free {e : En} : ∀ {own : List Nat}, ownFree e own = true → wipeE e own = e
  | [], _ => rfl
  | k :: r, h => by
    rw [ownFree, Bool.and_eq_true] at h
    rw [wipeE, wipe_free h.2]
    apply List.ext_getElem?
    intro j
    rw [List.getElem?_set]
    by_cases hj : k = j
    · subst hj
      have := h.1
      unfold En.at at this
      by_cases hl : k < e.length
      · simp only [hl, if_true]
        rw [List.getElem?_eq_getElem hl] at this ⊢
        simp only [Option.bind_some, id, Option.isNone_iff_eq_none] at this
        rw [this]
      · simp only [hl, if_true, if_false]
        rw [List.getElem?_eq_none (by omega)]
    · simp [hj]
mutual
theorem bindT_out {own : List Nat} : ∀ {t : TT} {d : D} {e e1 : En}, tgIn own t = true → bindT t d e = some e1 → e1.length = e.length ∧ ∀ j, j ∉ own → e1[j]? = e[j]?
  | .n k, d, e, e1, h, hb => by
    simp only [bindT, En.put, Option.some.injEq] at hb
    subst hb
    simp only [tgIn] at h
    have hk : k ∈ own := by simpa using h
    refine ⟨by simp, fun j hj => ?_⟩
    rw [List.getElem?_set]
    have : ¬ k = j := fun z => hj (z ▸ hk)
    simp [this]
  | .t ts, .tup ds, e, e1, h, hb => by
    simp only [bindT] at hb
    simp only [tgIn] at h
    exact bindTs_out h hb
  | .t ts, .lst ds, e, e1, h, hb => by
    simp only [bindT] at hb
    simp only [tgIn] at h
    exact bindTs_out h hb
  | .t ts, .non, e, e1, h, hb => by simp [bindT] at hb
  | .t ts, .bl _, e, e1, h, hb => by simp [bindT] at hb
  | .t ts, .int _, e, e1, h, hb => by simp [bindT] at hb
  | .t ts, .str _, e, e1, h, hb => by simp [bindT] at hb
  | .t ts, .dic, e, e1, h, hb => by simp [bindT] at hb
  | .t ts, .fn _, e, e1, h, hb => by simp [bindT] at hb
  | .t ts, .exc _ _, e, e1, h, hb => by simp [bindT] at hb
  | .t ts, .scr _, e, e1, h, hb => by simp [bindT] at hb
theorem bindTs_out {own : List Nat} : ∀ {ts : List TT} {ds : List D} {e e1 : En}, tgsIn own ts = true → bindTs ts ds e = some e1 → e1.length = e.length ∧ ∀ j, j ∉ own → e1[j]? = e[j]?
  | [], [], e, e1, h, hb => by
    simp only [bindTs, Option.some.injEq] at hb
    subst hb
    exact ⟨rfl, fun _ _ => rfl⟩
  | t :: ts, d :: ds, e, e1, h, hb => by
    simp only [tgsIn, Bool.and_eq_true] at h
    simp only [bindTs, Option.bind_eq_some_iff] at hb
    obtain ⟨e2, h1, h2⟩ := hb
    have a := bindT_out h.1 h1
    have b := bindTs_out h.2 h2
    exact ⟨b.1.trans a.1, fun j hj => (b.2 j hj).trans (a.2 j hj)⟩
  | [], _ :: _, e, e1, h, hb => by simp [bindTs] at hb
  | _ :: _, [], e, e1, h, hb => by simp [bindTs] at hb
end
theorem wipe_bind {own : List Nat} {t : TT} {d : D} {e e1 : En} (h : tgIn own t = true) (hb : bindT t d e = some e1) (hf : ownFree e own = true) : wipeE e1 own = e := by
  obtain ⟨h1, h2⟩ := bindT_out h hb
  rw [← wipe_free hf]
  apply List.ext_getElem?
  intro j
  rw [wipe_get, wipe_get, h1]
  by_cases hj : j ∈ own
  · by_cases hl : j < e.length
    · simp [hj, hl]
    · simp [hj, hl, List.getElem?_eq_none, h1, Nat.le_of_not_lt hl]
  · simp [hj, h2 j hj]
/-- a loop that changes nothing -/
theorem loopC_of {α : Type} {f : D → En → Res (Option α)} {g : D → Option (Option α)} {e : En} (h : ∀ d o, g d = some o → f d e = .ok o e) : ∀ {ds : List D} {xs : List α}, mfM g ds = some xs → loopC f ds e = .ok xs e
  | [], xs, hm => by
    simp only [mfM, Option.some.injEq] at hm
    subst hm; rfl
  | d :: ds, xs, hm => by
    simp only [mfM, Option.bind_eq_some_iff, Option.map_eq_some_iff] at hm
    obtain ⟨o, h1, r, h2, h3⟩ := hm
    rw [loopC, h d o h1]
    simp only [Res.bind]
    rw [loopC_of h h2]
    simp only [Res.bind]
    rw [← h3]
    cases o <;> rfl
variable {C : Cfg}
theorem cdO_call {f : Nat} {ds : List D} {o : O} {e : En} (h : cdO C f ds = some o) : doCall C f (ds.map AV.v) e = .ok o e := by
  unfold cdO at h
  split at h
  · rename_i o' outs hc
    split at h
    · rename_i hl
      cases h
      exact doCall_v hc hl
    · cases h
  · cases h
theorem put_same {e : En} {k : Nat} {o : O} (h : e.at k = some o) : e.put k o = e := by
  unfold En.put
  unfold En.at at h
  apply List.ext_getElem?
  intro j
  rw [List.getElem?_set]
  by_cases hj : k = j
  · subst hj
    by_cases hl : k < e.length
    · simp only [hl, if_true]
      rw [List.getElem?_eq_getElem hl] at h ⊢
      simp only [Option.bind_some, id] at h
      rw [h]
    · simp only [hl, if_true, if_false]
      rw [List.getElem?_eq_none (by omega)]
  · simp [hj]
theorem opt2 {α β : Type} {o : Option α} {f : α → Option β} {b : β} (h : o.bind f = some b) : ∃ a, o = some a ∧ f a = some b := Option.bind_eq_some_iff.mp h
mutual
theorem pE_ok : ∀ {t : TE} {e : En} {d : D}, pE C t e = some d → evalE C t e = .ok d e
  | .var k, e, d, h => by
    simp only [pE] at h
    split at h
    · rename_i d' hk
      cases h
      simp only [evalE, hk, O.toD]
      rw [put_same hk]
    · cases h
  | .int i, e, d, h => by simp only [pE, Option.some.injEq] at h; subst h; rfl
  | .str s, e, d, h => by simp only [pE, Option.some.injEq] at h; subst h; rfl
  | .bl b, e, d, h => by simp only [pE, Option.some.injEq] at h; subst h; rfl
  | .non, e, d, h => by simp only [pE, Option.some.injEq] at h; subst h; rfl
  | .glob g, e, d, h => by
    simp only [pE] at h
    simp only [evalE, h, ofOpt]
  | .fn f, e, d, h => by simp only [pE, Option.some.injEq] at h; subst h; rfl
  | .bin op a b, e, d, h => by
    simp only [pE, opQ_eq] at h
    obtain ⟨x, h1, h⟩ := opt2 h
    obtain ⟨y, h2, h⟩ := opt2 h
    simp only [evalE, pV_ok h1, pV_ok h2, Res.bind, h, ofOpt]
  | .neg a, e, d, h => by
    simp only [pE] at h
    obtain ⟨x, h1, h⟩ := opt2 h
    simp only [evalE, pE_ok h1, Res.bind]
    cases x <;> simp_all
  | .cmp op a b, e, d, h => by
    simp only [pE] at h
    obtain ⟨x, h1, h⟩ := opt2 h
    obtain ⟨y, h2, h⟩ := opt2 h
    simp only [evalE, pV_ok h1, pV_ok h2, Res.bind, h, ofOpt]
  | .chain o1 o2 a b c, e, d, h => by
    simp only [pE] at h
    obtain ⟨x, h1, h⟩ := opt2 h
    obtain ⟨y, h2, h⟩ := opt2 h
    obtain ⟨r, h3, h⟩ := opt2 h
    simp only [evalE, pV_ok h1, pV_ok h2, Res.bind, h3]
    cases r with
    | false => simp at h; subst h; rfl
    | true =>
      simp only [if_true] at h
      obtain ⟨z, h4, h⟩ := opt2 h
      simp only [pV_ok h4, h, ofOpt]
  | .and_ es, e, d, h => by simp only [pE] at h; simp only [evalE]; exact pAnd_ok h
  | .or_ es, e, d, h => by simp only [pE] at h; simp only [evalE]; exact pOr_ok h
  | .not_ a, e, d, h => by
    simp only [pE] at h
    obtain ⟨x, h1, h⟩ := opt2 h
    simp only [evalE, pE_ok h1, Res.bind]
    cases x <;> simp_all
  | .ife t a b, e, d, h => by
    simp only [pE] at h
    obtain ⟨x, h1, h⟩ := opt2 h
    simp only [evalE, pE_ok h1, Res.bind]
    cases x with
    | bl b' => cases b' with
      | true => simp only [if_true] at h; exact pE_ok h
      | false => simp only [Bool.false_eq_true, if_false] at h; exact pE_ok h
    | _ => cases h
  | .call f as perm, e, d, h => by
    simp only [pE] at h
    obtain ⟨ds, h1, h⟩ := opt2 h
    simp only [cd, Option.map_eq_some_iff] at h
    obtain ⟨o, h2, h3⟩ := h
    simp only [evalE, pAs_ok h1, Res.bind, cdO_call h2, h3]
  | .blt b as, e, d, h => by
    simp only [pE] at h
    obtain ⟨x, h1, h⟩ := opt2 h
    simp only [evalE, pVs_ok h1, Res.bind, h, ofOpt]
  | .isi a ts, e, d, h => by
    simp only [pE] at h
    obtain ⟨x, h1, h⟩ := opt2 h
    simp only [evalE, pV_ok h1, Res.bind, h, ofOpt]
  | .meth m r as, e, d, h => by
    simp only [pE] at h
    obtain ⟨x, h1, h⟩ := opt2 h
    obtain ⟨y, h2, h⟩ := opt2 h
    simp only [evalE, pV_ok h1, pVs_ok h2, Res.bind, h, ofOpt]
  | .tup es, e, d, h => by
    simp only [pE, Option.map_eq_some_iff] at h
    obtain ⟨x, h1, h⟩ := h
    simp only [evalE, pLs_ok h1, Res.bind, h]
  | .sub a i, e, d, h => by
    simp only [pE] at h
    obtain ⟨x, h1, h⟩ := opt2 h
    obtain ⟨y, h2, h⟩ := opt2 h
    simp only [evalE, pV_ok h1, pE_ok h2, Res.bind, h, ofOpt]
  | .slt a lo hi, e, d, h => by simp [pE] at h
  | .pop k path i, e, d, h => by simp [pE] at h
  | .val a, e, d, h => by simp [pE] at h
  | .f t, e, d, h => by
    simp only [pE, Option.map_eq_some_iff] at h
    obtain ⟨x, h1, h⟩ := h
    simp only [evalE, pF_ok h1, Res.bind, h]
  | .bad, e, d, h => by simp [pE] at h
theorem pEs_ok : ∀ {t : List TE} {e : En} {d : List D}, pEs C t e = some d → evalEs C t e = .ok d e
  | [], e, d, h => by simp only [pEs, Option.some.injEq] at h; subst h; rfl
  | a :: r, e, d, h => by
    simp only [pEs] at h
    obtain ⟨x, h1, h⟩ := opt2 h
    simp only [Option.map_eq_some_iff] at h
    obtain ⟨y, h2, h⟩ := h
    simp only [evalEs, pE_ok h1, pEs_ok h2, Res.bind, h]
theorem pAnd_ok : ∀ {t : List TE} {e : En} {d : D}, pAnd C t e = some d → evalAnd C t e = .ok d e
  | [], e, d, h => by simp [pAnd] at h
  | [a], e, d, h => by simp only [pAnd] at h; simp only [evalAnd]; exact pE_ok h
  | a :: b :: r, e, d, h => by
    simp only [pAnd] at h
    obtain ⟨x, h1, h⟩ := opt2 h
    simp only [evalAnd, pE_ok h1, Res.bind]
    cases x with
    | bl b' => cases b' with
      | true => simp only [if_true] at h; exact pAnd_ok (t := b :: r) h
      | false => simp only [Bool.false_eq_true, if_false, Option.some.injEq] at h; subst h; rfl
    | _ => cases h
theorem pOr_ok : ∀ {t : List TE} {e : En} {d : D}, pOr C t e = some d → evalOr C t e = .ok d e
  | [], e, d, h => by simp [pOr] at h
  | [a], e, d, h => by simp only [pOr] at h; simp only [evalOr]; exact pE_ok h
  | a :: b :: r, e, d, h => by
    simp only [pOr] at h
    obtain ⟨x, h1, h⟩ := opt2 h
    simp only [evalOr, pE_ok h1, Res.bind]
    cases x with
    | bl b' => cases b' with
      | false => simp only [Bool.false_eq_true, if_false] at h; exact pOr_ok (t := b :: r) h
      | true => simp only [if_true, Option.some.injEq] at h; subst h; rfl
    | _ => cases h
theorem pV_ok : ∀ {t : TP} {e : En} {d : PV}, pV C t e = some d → evalP C t e = .ok d e
  | .e a, e, d, h => by
    simp only [pV, Option.map_eq_some_iff] at h
    obtain ⟨x, h1, h⟩ := h
    simp only [evalP, pE_ok h1, Res.bind, h]
  | .pk k, e, d, h => by
    simp only [pV, Option.map_eq_some_iff] at h
    obtain ⟨x, h1, h⟩ := h
    simp only [evalP, h1, h]
theorem pVs_ok : ∀ {t : List TP} {e : En} {d : List PV}, pVs C t e = some d → evalPs C t e = .ok d e
  | [], e, d, h => by simp only [pVs, Option.some.injEq] at h; subst h; rfl
  | a :: r, e, d, h => by
    simp only [pVs] at h
    obtain ⟨x, h1, h⟩ := opt2 h
    simp only [Option.map_eq_some_iff] at h
    obtain ⟨y, h2, h⟩ := h
    simp only [evalPs, pV_ok h1, pVs_ok h2, Res.bind, h]
theorem pA_ok : ∀ {t : TA} {e : En} {d : D}, pA C t e = some d → evalA C t e = .ok (.v d) e
  | .d a, e, d, h => by simp only [pA] at h; simp only [evalA, pE_ok h, Res.bind]
  | .b k, e, d, h => by simp [pA] at h
  | .o a, e, d, h => by simp [pA] at h
theorem pAs_ok : ∀ {t : List TA} {e : En} {d : List D}, pAs C t e = some d → evalAs C t e = .ok (d.map AV.v) e
  | [], e, d, h => by simp only [pAs, Option.some.injEq] at h; subst h; rfl
  | a :: r, e, d, h => by
    simp only [pAs] at h
    obtain ⟨x, h1, h⟩ := opt2 h
    simp only [Option.map_eq_some_iff] at h
    obtain ⟨y, h2, h⟩ := h
    subst h
    simp only [evalAs, pA_ok h1, pAs_ok h2, Res.bind, List.map]
theorem pLs_ok : ∀ {t : List TL} {e : En} {d : List D}, pLs C t e = some d → evalLs C t e = .ok d e
  | [], e, d, h => by simp only [pLs, Option.some.injEq] at h; subst h; rfl
  | .e a :: r, e, d, h => by
    simp only [pLs] at h
    obtain ⟨x, h1, h⟩ := opt2 h
    simp only [Option.map_eq_some_iff] at h
    obtain ⟨y, h2, h⟩ := h
    subst h
    simp only [evalLs, pE_ok h1, pLs_ok h2, Res.bind]
  | .s a :: r, e, d, h => by
    simp only [pLs] at h
    obtain ⟨x, h1, h⟩ := opt2 h
    obtain ⟨l, h3, h⟩ := opt2 h
    simp only [Option.map_eq_some_iff] at h
    obtain ⟨y, h2, h⟩ := h
    subst h
    simp only [evalLs, pE_ok h1, h3, pLs_ok h2, Res.bind]
theorem pI_ok : ∀ {t : TI} {e : En} {d : List D}, pI C t e = some d → evalI C t e = .ok d e
  | .seq a, e, d, h => by
    simp only [pI] at h
    obtain ⟨x, h1, h⟩ := opt2 h
    simp only [evalI, pE_ok h1, Res.bind, h, ofOpt]
  | .rng1 a, e, d, h => by
    simp only [pI] at h
    obtain ⟨x, h1, h⟩ := opt2 h
    simp only [evalI, pE_ok h1, Res.bind]
    rw [rngA_eq] at h; unfold rngA0 at h
    cases x with
    | int j =>
      simp only at h ⊢
      split at h
      · rename_i hs; rw [if_pos hs]; cases h; rfl
      · cases h
    | _ => cases h
  | .rng2 a b, e, d, h => by
    simp only [pI] at h
    obtain ⟨x, h1, h⟩ := opt2 h
    obtain ⟨y, h2, h⟩ := opt2 h
    simp only [evalI, pE_ok h1, pE_ok h2, Res.bind]
    rw [rngB_eq] at h; unfold rngB0 at h
    cases x with
    | int i => cases y with
      | int j =>
        simp only at h ⊢
        split at h
        · rename_i hs; rw [if_pos hs]; cases h; rfl
        · cases h
      | _ => cases h
    | _ => cases h
  | .enum a, e, d, h => by
    simp only [pI] at h
    obtain ⟨x, h1, h⟩ := opt2 h
    simp only [evalI, pE_ok h1, Res.bind]
    cases x <;> simp_all
  | .zip a b st, e, d, h => by
    simp only [pI] at h
    obtain ⟨x, h1, h⟩ := opt2 h
    obtain ⟨y, h2, h⟩ := opt2 h
    simp only [evalI, pE_ok h1, pE_ok h2, Res.bind, h, ofOpt]
theorem pF_ok : ∀ {t : TF} {e : En} {d : List D}, pF C t e = some d → evalF C t e = .ok d e
  | .lst es, e, d, h => by simp only [pF] at h; simp only [evalF]; exact pLs_ok h
  | .comp elt tg it ifs own, e, d, h => by
    simp only [pF] at h
    obtain ⟨x, h1, h⟩ := opt2 h
    split at h
    · rename_i hg
      rw [Bool.and_eq_true] at hg
      have hl := loopC_of (f := fun d e => match bindT tg d e with
        | none => .stuck
        | some e => (evalIfs C ifs e).bind fun b e => if b then (evalE C elt e).bind fun x e => .ok (some x) (wipeE e own) else .ok none (wipeE e own)) (e := e) (fun d o hd => by
          obtain ⟨e1, hb, hd⟩ := opt2 hd
          obtain ⟨b, hi, hd⟩ := opt2 hd
          have hw := wipe_bind hg.2 hb hg.1
          simp only [hb, pIfs_ok hi, Res.bind]
          cases b with
          | true =>
            simp only [if_true, Option.map_eq_some_iff] at hd ⊢
            obtain ⟨v, hv, ho⟩ := hd
            simp only [pE_ok hv, hw, ho]
          | false =>
            simp only [Bool.false_eq_true, if_false, Option.some.injEq] at hd ⊢
            rw [hw, hd]) h
      rw [evalF, pI_ok h1]
      show noExc (loopC _ x (wipeE e own)) = _
      rw [wipe_free hg.1]
      exact congrArg noExc hl
    · cases h
  | .cat a b, e, d, h => by
    simp only [pF] at h
    obtain ⟨x, h1, h⟩ := opt2 h
    obtain ⟨y, h2, h⟩ := opt2 h
    simp only [evalF, pV_ok h1, pV_ok h2, Res.bind, h, ofOpt]
  | .rep a n, e, d, h => by
    simp only [pF] at h
    obtain ⟨x, h1, h⟩ := opt2 h
    obtain ⟨y, h2, h⟩ := opt2 h
    rw [repC_eq] at h; unfold rep0 at h
    simp only [evalF, pV_ok h1, pE_ok h2, Res.bind, h, ofOpt]
  | .slice a lo hi, e, d, h => by
    simp only [pF] at h
    obtain ⟨x, h1, h⟩ := opt2 h
    obtain ⟨y, h2, h⟩ := opt2 h
    obtain ⟨z, h3, h⟩ := opt2 h
    simp only [evalF, pV_ok h1, pOpt_ok h2, pOpt_ok h3, Res.bind, h, ofOpt]
  | .list_ it, e, d, h => by simp only [pF] at h; simp only [evalF]; exact pI_ok h
  | .sorted a, e, d, h => by
    simp only [pF] at h
    obtain ⟨x, h1, h⟩ := opt2 h
    simp only [evalF, pV_ok h1, Res.bind, h, ofOpt]
  | .sumL a, e, d, h => by
    simp only [pF] at h
    obtain ⟨x, h1, h⟩ := opt2 h
    simp only [evalF, pV_ok h1, Res.bind, h, ofOpt]
theorem pOpt_ok : ∀ {t : Option TE} {e : En} {d : Option Int}, pOpt C t e = some d → evalOpt C t e = .ok d e
  | none, e, d, h => by simp only [pOpt, Option.some.injEq] at h; subst h; rfl
  | some a, e, d, h => by
    simp only [pOpt] at h
    obtain ⟨x, h1, h⟩ := opt2 h
    simp only [evalOpt, pE_ok h1, Res.bind]
    cases x <;> simp_all
theorem pIfs_ok : ∀ {t : List TE} {e : En} {d : Bool}, pIfs C t e = some d → evalIfs C t e = .ok d e
  | [], e, d, h => by simp only [pIfs, Option.some.injEq] at h; subst h; rfl
  | a :: r, e, d, h => by
    simp only [pIfs] at h
    obtain ⟨x, h1, h⟩ := opt2 h
    simp only [evalIfs, pE_ok h1, Res.bind]
    cases x with
    | bl b' => cases b' with
      | true => simp only [if_true] at h; exact pIfs_ok h
      | false => simp only [Bool.false_eq_true, if_false, Option.some.injEq] at h; subst h; rfl
    | _ => cases h
end
mutual
theorem pO_ok : ∀ {t : TO} {e : En} {o : O}, pO C t e = some o → evalO C t e = .ok o e
  | .e a, e, d, h => by
    simp only [pO, Option.map_eq_some_iff] at h
    obtain ⟨x, h1, h⟩ := h
    simp only [evalO, pE_ok h1, Res.bind, h]
  | .f t, e, d, h => by
    simp only [pO, Option.map_eq_some_iff] at h
    obtain ⟨x, h1, h⟩ := h
    simp only [evalO, pF_ok h1, Res.bind, h]
  | .lst es, e, d, h => by
    simp only [pO, Option.map_eq_some_iff] at h
    obtain ⟨x, h1, h⟩ := h
    simp only [evalO, pOs_ok h1, Res.bind, h]
  | .tup es, e, d, h => by
    simp only [pO, Option.map_eq_some_iff] at h
    obtain ⟨x, h1, h⟩ := h
    simp only [evalO, pOs_ok h1, Res.bind, h]
  | .mv k, e, d, h => by simp [pO] at h
  | .comp elt tg it ifs own, e, d, h => by simp [pO] at h
  | .call f as perm, e, d, h => by
    simp only [pO] at h
    obtain ⟨ds, h1, h⟩ := opt2 h
    simp only [evalO, pAs_ok h1, Res.bind, cdO_call h]
  | .ife t a b, e, d, h => by
    simp only [pO] at h
    obtain ⟨x, h1, h⟩ := opt2 h
    simp only [evalO, pE_ok h1, Res.bind]
    cases x with
    | bl b' => cases b' with
      | true => simp only [if_true] at h; exact pO_ok h
      | false => simp only [Bool.false_eq_true, if_false] at h; exact pO_ok h
    | _ => cases h
theorem pOs_ok : ∀ {t : List TO} {e : En} {o : List O}, pOs C t e = some o → evalOs C t e = .ok o e
  | [], e, d, h => by simp only [pOs, Option.some.injEq] at h; subst h; rfl
  | a :: r, e, d, h => by
    simp only [pOs] at h
    obtain ⟨x, h1, h⟩ := opt2 h
    simp only [Option.map_eq_some_iff] at h
    obtain ⟨y, h2, h⟩ := h
    simp only [evalOs, pO_ok h1, pOs_ok h2, Res.bind, h]
end
theorem loopP_of {f : D → En → FRes} {g : D → En → Option PR} (h : ∀ d e r, g d e = some r → f d e = r.f) : ∀ {ds : List D} {e : En} {r : PR}, loopP g ds e = some r → loopF f ds e = r.f
  | [], e, r, hm => by simp only [loopP, Option.some.injEq] at hm; subst hm; rfl
  | d :: ds, e, r, hm => by
    simp only [loopP] at hm
    obtain ⟨x, h1, h2⟩ := opt2 hm
    rw [loopF, h d e x h1]
    cases x with
    | next e1 => exact loopP_of h h2
    | ret o e1 => simp only [PR.bind, Option.some.injEq] at h2; subst h2; rfl
mutual
theorem pS_ok : ∀ {t : TS} {e : En} {r : PR}, pS C t e = some r → exec C t e = r.f
  | .asg k a, e, r, h => by
    simp only [pS, Option.map_eq_some_iff] at h
    obtain ⟨x, h1, h⟩ := h
    subst h
    simp only [exec, pO_ok h1, Res.st, PR.f]
  | .asgT t a, e, r, h => by
    simp only [pS] at h
    obtain ⟨x, h1, h⟩ := opt2 h
    simp only [Option.map_eq_some_iff] at h
    obtain ⟨y, h2, h⟩ := h
    subst h
    simp only [exec, pE_ok h1, Res.st, PR.f, h2, optF]
  | .par ks es, e, r, h => by
    simp only [pS] at h
    obtain ⟨x, h1, h⟩ := opt2 h
    simp only [Option.map_eq_some_iff] at h
    obtain ⟨y, h2, h⟩ := h
    subst h
    simp only [exec, pOs_ok h1, Res.st, PR.f, h2, optF]
  | .store k path i a, e, r, h => by
    simp only [pS] at h
    obtain ⟨x, h1, h⟩ := opt2 h
    split at h
    · rename_i hl
      obtain ⟨p, h2, h⟩ := opt2 h
      obtain ⟨j, h3, h⟩ := opt2 h
      simp only [Option.map_eq_some_iff] at h
      obtain ⟨y, h4, h⟩ := h
      subst h
      simp only [exec, pO_ok h1, Res.st, hl, if_true, pEs_ok h2, pE_ok h3, h4, Option.map_some, optF, PR.f]
    · cases h
  | .aug k op a, e, r, h => by simp [pS] at h
  | .augS k i op a, e, r, h => by simp [pS] at h
  | .app k path a, e, r, h => by
    simp only [pS] at h
    split at h
    · rename_i hl
      obtain ⟨p, h2, h⟩ := opt2 h
      obtain ⟨x, h1, h⟩ := opt2 h
      simp only [Option.map_eq_some_iff] at h
      obtain ⟨y, h4, h⟩ := h
      subst h
      simp only [exec, hl, if_true, pEs_ok h2, Res.st, pO_ok h1, h4, Option.map_some, optF, PR.f]
    · cases h
  | .expr a, e, r, h => by
    simp only [pS, Option.map_eq_some_iff] at h
    obtain ⟨x, h1, h⟩ := h
    subst h
    simp only [exec, pE_ok h1, Res.st, PR.f]
  | .for_ t it body, e, r, h => by
    simp only [pS] at h
    obtain ⟨x, h1, h⟩ := opt2 h
    simp only [exec, pI_ok h1, Res.st]
    refine loopP_of (fun d e r hd => ?_) h
    obtain ⟨e1, hb, hd⟩ := opt2 hd
    simp only [hb]
    exact pSs_ok hd
  | .while_ c body, e, r, h => by simp [pS] at h
  | .if_ c a b, e, r, h => by
    simp only [pS] at h
    obtain ⟨x, h1, h⟩ := opt2 h
    simp only [exec, pE_ok h1, Res.st]
    cases x with
    | bl b' => cases b' with
      | true => simp only [if_true] at h; exact pSs_ok h
      | false => simp only [Bool.false_eq_true, if_false] at h; exact pSs_ok h
    | _ => cases h
  | .ret a, e, r, h => by
    simp only [pS] at h
    split at h
    · simp only [Option.map_eq_some_iff] at h
      obtain ⟨x, h1, h⟩ := h
      subst h
      simp only [exec, evalO, h1, Res.st, PR.f]
    · simp only [Option.map_eq_some_iff] at h
      obtain ⟨x, h1, h⟩ := h
      subst h
      simp only [exec, pO_ok h1, Res.st, PR.f]
  | .retN, e, r, h => by simp only [pS, Option.some.injEq] at h; subst h; rfl
  | .raise c a, e, r, h => by simp [pS] at h
  | .try_ body c k suite, e, r, h => by simp [pS] at h
  | .pass, e, r, h => by simp only [pS, Option.some.injEq] at h; subst h; rfl
  | .bad, e, r, h => by simp [pS] at h
theorem pSs_ok : ∀ {t : List TS} {e : En} {r : PR}, pSs C t e = some r → execs C t e = r.f
  | [], e, r, h => by simp only [pSs, Option.some.injEq] at h; subst h; rfl
  | a :: ss, e, r, h => by
    simp only [pSs] at h
    obtain ⟨x, h1, h⟩ := opt2 h
    rw [execs, pS_ok h1]
    cases x with
    | next e1 => exact pSs_ok h
    | ret o e1 => simp only [PR.bind, Option.some.injEq] at h; subst h; rfl
end
end TL

set_option maxRecDepth 100000
/-! the plain names may be more frozen than the real ones -/
namespace TL
open PySem
def Sl (a b : Option (Option O)) : Prop := a = b ∨ (∃ ds : List D, a = some (some (.frz (.lst ds))) ∧ b = some (some (.lst (ds.map O.frz)))) ∨ a = some none ∧ ∃ x, b = some x
def Lf (p e : En) : Prop := ∀ j : Nat, Sl p[j]? e[j]?
theorem Lf.rfl' (e : En) : Lf e e := fun _ => .inl rfl
theorem Sl.trans {a b c : Option (Option O)} (h : Sl a b) (g : Sl b c) : Sl a c := by
  rcases h with h | ⟨ds, h1, h2⟩ | ⟨h1, x, h2⟩
  · subst h; exact g
  · rcases g with g | ⟨es, g1, g2⟩ | ⟨g1, x, g2⟩
    · subst g; exact .inr (.inl ⟨ds, h1, h2⟩)
    · rw [h2] at g1; cases g1
    · rw [h2] at g1; cases g1
  · rcases g with g | ⟨es, g1, g2⟩ | ⟨g1, y, g2⟩
    · subst g; exact .inr (.inr ⟨h1, x, h2⟩)
    · exact .inr (.inr ⟨h1, _, g2⟩)
    · exact .inr (.inr ⟨h1, _, g2⟩)
theorem Lf.trans {p q e : En} (h : Lf p q) (g : Lf q e) : Lf p e := fun j => (h j).trans (g j)
theorem toDs_frz0 (l : List D) : O.toDs (l.map O.frz) = l := by
  induction l with
  | nil => rfl
  | cons a l ih => rw [List.map_cons, O.toDs, ih]; rfl
theorem allFrz_frz0 (l : List D) : allFrz (l.map O.frz) = some l := by
  induction l with
  | nil => rfl
  | cons a l ih =>
    rw [List.map_cons]
    show (allFrz (l.map O.frz)).map (a :: ·) = _
    rw [ih]; rfl
theorem Lf.len {p e : En} (L : Lf p e) : p.length = e.length := by
  have a := L p.length
  have b := L e.length
  rw [List.getElem?_eq_none (Nat.le_refl _)] at a b
  have h1 : e.length ≤ p.length := by
    rcases a with a | ⟨ds, a, _⟩ | ⟨a, _⟩
    · exact List.getElem?_eq_none_iff.mp a.symm
    · cases a
    · cases a
  have h2 : p.length ≤ e.length := by
    rcases b with b | ⟨ds, _, b⟩ | ⟨_, _, b⟩
    · exact List.getElem?_eq_none_iff.mp b
    · cases b
    · cases b
  omega
/-- at a place -/
theorem Lf.at_ {p e : En} (L : Lf p e) (k : Nat) : p.at k = e.at k ∨ (∃ ds : List D, p.at k = some (.frz (.lst ds)) ∧ e.at k = some (.lst (ds.map O.frz))) ∨ p.at k = none := by
  unfold En.at
  rcases L k with h | ⟨ds, h1, h2⟩ | ⟨h1, _⟩
  · left; rw [h]
  · right; left; exact ⟨ds, by rw [h1]; rfl, by rw [h2]; rfl⟩
  · right; right; rw [h1]; rfl
theorem Lf.put {p e : En} (L : Lf p e) (k : Nat) (o : O) : Lf (p.put k o) (e.put k o) := by
  intro j
  unfold En.put
  rw [List.getElem?_set, List.getElem?_set, L.len]
  by_cases h : k = j
  · subst h; simp; exact .inl rfl
  · simp only [h, if_false]; exact L j
theorem Lf.none_ {p e : En} (L : Lf p e) (k : Nat) : Lf (p.set k none) (e.set k none) := by
  intro j
  rw [List.getElem?_set, List.getElem?_set, L.len]
  by_cases h : k = j
  · subst h; simp; exact .inl rfl
  · simp only [h, if_false]; exact L j
/-- a name frozen -/
theorem Lf.frz {p e : En} (L : Lf p e) {k : Nat} {d : D} (h : p.at k = some (.frz d)) : Lf p (e.put k (.frz d)) := by
  intro j
  unfold En.put
  rw [List.getElem?_set]
  by_cases hj : k = j
  · subst hj
    simp only [if_true]
    unfold En.at at h
    have hl : k < p.length := by
      by_cases z : k < p.length
      · exact z
      · rw [List.getElem?_eq_none (by omega)] at h; cases h
    rw [if_pos (L.len ▸ hl)]
    rw [List.getElem?_eq_getElem hl] at h ⊢
    simp only [Option.bind_some, id] at h
    rw [h]
    exact .inl rfl
  · simp only [hj, if_false]; exact L j
theorem lf_get {p e : En} (L : Lf p e) {x : PV} {d : D} (h : x.get p = some d) : x.get e = some d := by
  cases x with
  | v d => exact h
  | r k =>
    have h : (p.at k).map O.toD = some d := h
    show (e.at k).map O.toD = some d
    rcases L.at_ k with g | ⟨ds, h1, h2⟩ | g
    · rw [← g]; exact h
    · rw [h1] at h
      rw [h2]
      simp only [Option.map_some, O.toD, toDs_frz0] at h ⊢
      exact h
    · rw [g] at h; cases h
theorem lf_list {p e : En} (L : Lf p e) {x : PV} {d : List D} (h : x.list p = some d) : x.list e = some d := by
  cases x with
  | v d => cases d <;> exact h
  | r k =>
    have h : ((p.at k).bind fun o => (match o with | .frz (.lst xs) => some xs | .lst os => allFrz os | _ => none)) = some d := h
    show ((e.at k).bind fun o => (match o with | .frz (.lst xs) => some xs | .lst os => allFrz os | _ => none)) = some d
    rcases L.at_ k with g | ⟨ds, h1, h2⟩ | g
    · rw [← g]; exact h
    · rw [h1] at h
      rw [h2]
      simp only [Option.bind_some, allFrz_frz0] at h ⊢
      exact h
    · rw [g] at h; cases h
theorem lf_listS {p e : En} (L : Lf p e) {x : PV} {d : List D} (h : x.listS p = some d) : x.listS e = some d := by
  cases x with
  | v d => cases d <;> exact h
  | r k => exact lf_list L (x := .r k) h
theorem lf_sub {p e : En} (L : Lf p e) {x : PV} {i d : D} (h : x.sub i p = some d) : x.sub i e = some d := by
  cases x with
  | v d => exact h
  | r k =>
    have h : ((p.at k).bind fun o => subO o i) = some d := h
    show ((e.at k).bind fun o => subO o i) = some d
    rcases L.at_ k with g | ⟨ds, h1, h2⟩ | g
    · rw [← g]; exact h
    · rw [h1] at h
      rw [h2]
      rw [← h]
      simp only [Option.bind_some, subO]
      cases i with
      | int i =>
        simp only [subO, subD, List.length_map]
        cases ixAt ds.length i with
        | none => rfl
        | some j =>
          simp only [Option.bind_some, List.getElem?_map]
          cases ds[j]? <;> rfl
      | _ => rfl
    · rw [g] at h; cases h
theorem getAll_mono {α β : Type} {f g : α → Option β} (hfg : ∀ a b, f a = some b → g a = some b) : ∀ {l : List α} {r : List β}, getAll f l = some r → getAll g l = some r
  | [], r, h => h
  | a :: l, r, h => by
    simp only [getAll] at h ⊢
    obtain ⟨b, h1, h⟩ := opt2 h
    simp only [Option.map_eq_some_iff] at h
    obtain ⟨y, h2, h⟩ := h
    simp only [hfg a b h1, Option.bind_some, getAll_mono hfg h2, Option.map_some, h]
mutual
theorem bindT_lf : ∀ {t : TT} {d : D} {p e p1 : En}, Lf p e → bindT t d p = some p1 → ∃ e1, bindT t d e = some e1 ∧ Lf p1 e1
  | .n k, d, p, e, p1, L, h => by
    simp only [bindT, Option.some.injEq] at h ⊢
    subst h
    exact ⟨_, rfl, L.put k _⟩
  | .t ts, .tup ds, p, e, p1, L, h => by
    simp only [bindT] at h ⊢
    exact bindTs_lf L h
  | .t ts, .lst ds, p, e, p1, L, h => by
    simp only [bindT] at h ⊢
    exact bindTs_lf L h
  | .t ts, .non, _, _, _, L, hb => by simp [bindT] at hb
  | .t ts, .bl _, _, _, _, L, hb => by simp [bindT] at hb
  | .t ts, .int _, _, _, _, L, hb => by simp [bindT] at hb
  | .t ts, .str _, _, _, _, L, hb => by simp [bindT] at hb
  | .t ts, .dic, _, _, _, L, hb => by simp [bindT] at hb
  | .t ts, .fn _, _, _, _, L, hb => by simp [bindT] at hb
  | .t ts, .exc _ _, _, _, _, L, hb => by simp [bindT] at hb
  | .t ts, .scr _, _, _, _, L, hb => by simp [bindT] at hb
theorem bindTs_lf : ∀ {t : List TT} {d : List D} {p e p1 : En}, Lf p e → bindTs t d p = some p1 → ∃ e1, bindTs t d e = some e1 ∧ Lf p1 e1
  | [], [], p, e, p1, L, h => by
    simp only [bindTs, Option.some.injEq] at h ⊢
    subst h
    exact ⟨_, rfl, L⟩
  | t :: ts, d :: ds, p, e, p1, L, h => by
    simp only [bindTs, Option.bind_eq_some_iff] at h
    obtain ⟨p2, h1, h2⟩ := h
    obtain ⟨e2, g1, L2⟩ := bindT_lf L h1
    obtain ⟨e3, g2, L3⟩ := bindTs_lf L2 h2
    exact ⟨e3, by simp only [bindTs, g1, Option.bind_some, g2], L3⟩
  | [], _ :: _, _, _, _, L, hb => by simp [bindTs] at hb
  | _ :: _, [], _, _, _, L, hb => by simp [bindTs] at hb
end
theorem putAll_lf : ∀ {ks : List Nat} {xs : List O} {p e p1 : En}, Lf p e → putAll ks xs p = some p1 → ∃ e1, putAll ks xs e = some e1 ∧ Lf p1 e1
  | [], [], p, e, p1, L, h => by
    simp only [putAll, Option.some.injEq] at h ⊢
    subst h
    exact ⟨_, rfl, L⟩
  | k :: ks, x :: xs, p, e, p1, L, h => by
    simp only [putAll] at h ⊢
    exact putAll_lf (L.put k x) h
  | [], _ :: _, _, _, _, L, hb => by simp [putAll] at hb
  | _ :: _, [], _, _, _, L, hb => by simp [putAll] at hb
/-- behind an item of a comprehension -/
theorem wipe_lf {own : List Nat} {t : TT} {d : D} {p p1 e : En} (h : tgIn own t = true) (hb : bindT t d p = some p1) (hf : ownFree p own = true) (L : Lf p1 e) : Lf p (wipeE e own) := by
  intro j
  have hw := wipe_bind h hb hf
  rw [← hw, wipe_get, wipe_get, L.len]
  by_cases c : j ∈ own ∧ j < e.length
  · simp only [c, if_true, and_self]; exact .inl rfl
  · simp only [c, if_false]; exact L j
theorem wipe_free_lf {own : List Nat} {p e : En} (hf : ownFree p own = true) (L : Lf p e) : Lf p (wipeE e own) := by
  intro j
  have hw := wipe_free hf
  conv => arg 1; rw [← hw]
  rw [wipe_get, wipe_get, L.len]
  by_cases c : j ∈ own ∧ j < e.length
  · simp only [c, if_true, and_self]; exact .inl rfl
  · simp only [c, if_false]; exact L j
theorem loopC_lf {α : Type} {f : D → En → Res (Option α)} {g : D → Option (Option α)} {p : En} (h : ∀ d o e, Lf p e → g d = some o → ∃ e', f d e = .ok o e' ∧ Lf p e') : ∀ {ds : List D} {xs : List α} {e : En}, Lf p e → mfM g ds = some xs → ∃ e', loopC f ds e = .ok xs e' ∧ Lf p e'
  | [], xs, e, L, hm => by
    simp only [mfM, Option.some.injEq] at hm
    subst hm; exact ⟨e, rfl, L⟩
  | d :: ds, xs, e, L, hm => by
    simp only [mfM, Option.bind_eq_some_iff, Option.map_eq_some_iff] at hm
    obtain ⟨o, h1, r, h2, h3⟩ := hm
    obtain ⟨e1, a1, L1⟩ := h d o e L h1
    obtain ⟨e2, a2, L2⟩ := loopC_lf h L1 h2
    refine ⟨e2, ?_, L2⟩
    rw [loopC, a1]
    simp only [Res.bind]
    rw [a2]
    simp only [Res.bind]
    rw [← h3]
    cases o <;> rfl
variable {C : Cfg}
mutual
theorem pE_lf : ∀ {t : TE} {p e : En} {d : D}, Lf p e → pE C t p = some d → ∃ e', evalE C t e = .ok d e' ∧ Lf p e'
  | .var k, p, e, d, L, h => by
    simp only [pE] at h
    split at h
    · rename_i d' hk
      cases h
      refine ⟨e.put k (.frz d), ?_, L.frz hk⟩
      rcases L.at_ k with g | ⟨ds, g1, g2⟩ | g
      · rw [hk] at g
        simp only [evalE, ← g, O.toD]
      · rw [hk] at g1
        cases g1
        simp only [evalE, g2, O.toD, toDs_frz0]
      · rw [hk] at g; cases g
    · cases h
  | .int i, p, e, d, L, h => by simp only [pE, Option.some.injEq] at h; subst h; exact ⟨e, rfl, L⟩
  | .str s, p, e, d, L, h => by simp only [pE, Option.some.injEq] at h; subst h; exact ⟨e, rfl, L⟩
  | .bl b, p, e, d, L, h => by simp only [pE, Option.some.injEq] at h; subst h; exact ⟨e, rfl, L⟩
  | .non, p, e, d, L, h => by simp only [pE, Option.some.injEq] at h; subst h; exact ⟨e, rfl, L⟩
  | .glob g, p, e, d, L, h => by
    simp only [pE] at h
    exact ⟨e, by simp only [evalE, h, ofOpt], L⟩
  | .fn f, p, e, d, L, h => by simp only [pE, Option.some.injEq] at h; subst h; exact ⟨e, rfl, L⟩
  | .bin op a b, p, e, d, L, h => by
    simp only [pE, opQ_eq] at h
    obtain ⟨x, h1, h⟩ := opt2 h
    obtain ⟨y, h2, h⟩ := opt2 h
    obtain ⟨e1, a1, L1⟩ := pV_lf L h1
    obtain ⟨e2, a2, L2⟩ := pV_lf L1 h2
    obtain ⟨x', g1, h⟩ := opt2 h
    obtain ⟨y', g2, h⟩ := opt2 h
    exact ⟨e2, by simp only [evalE, a1, a2, Res.bind, lf_get L2 g1, lf_get L2 g2, Option.bind_some, h, ofOpt], L2⟩
  | .neg a, p, e, d, L, h => by
    simp only [pE] at h
    obtain ⟨x, h1, h⟩ := opt2 h
    obtain ⟨e1, a1, L1⟩ := pE_lf L h1
    refine ⟨e1, ?_, L1⟩
    simp only [evalE, a1, Res.bind]
    cases x <;> simp_all
  | .cmp op a b, p, e, d, L, h => by
    simp only [pE] at h
    obtain ⟨x, h1, h⟩ := opt2 h
    obtain ⟨y, h2, h⟩ := opt2 h
    obtain ⟨e1, a1, L1⟩ := pV_lf L h1
    obtain ⟨e2, a2, L2⟩ := pV_lf L1 h2
    obtain ⟨x', g1, h⟩ := opt2 h
    obtain ⟨y', g2, h⟩ := opt2 h
    exact ⟨e2, by simp only [evalE, a1, a2, Res.bind, lf_get L2 g1, lf_get L2 g2, Option.bind_some, h, ofOpt], L2⟩
  | .chain o1 o2 a b c, p, e, d, L, h => by
    simp only [pE] at h
    obtain ⟨x, h1, h⟩ := opt2 h
    obtain ⟨y, h2, h⟩ := opt2 h
    obtain ⟨r, h3, h⟩ := opt2 h
    obtain ⟨e1, a1, L1⟩ := pV_lf L h1
    obtain ⟨e2, a2, L2⟩ := pV_lf L1 h2
    obtain ⟨x', g1, h3⟩ := opt2 h3
    obtain ⟨y', g2, h3⟩ := opt2 h3
    cases r with
    | false =>
      simp at h; subst h
      exact ⟨e2, by simp only [evalE, a1, a2, Res.bind, lf_get L2 g1, lf_get L2 g2, Option.bind_some, h3], L2⟩
    | true =>
      simp only [if_true] at h
      obtain ⟨z, h4, h⟩ := opt2 h
      obtain ⟨e3, a3, L3⟩ := pV_lf L2 h4
      obtain ⟨y'', g3, h⟩ := opt2 h
      obtain ⟨z', g4, h⟩ := opt2 h
      exact ⟨e3, by simp only [evalE, a1, a2, a3, Res.bind, lf_get L2 g1, lf_get L2 g2, lf_get L3 g3, lf_get L3 g4, Option.bind_some, h3, h, ofOpt], L3⟩
  | .and_ es, p, e, d, L, h => by simp only [pE] at h; simp only [evalE]; exact pAnd_lf L h
  | .or_ es, p, e, d, L, h => by simp only [pE] at h; simp only [evalE]; exact pOr_lf L h
  | .not_ a, p, e, d, L, h => by
    simp only [pE] at h
    obtain ⟨x, h1, h⟩ := opt2 h
    obtain ⟨e1, a1, L1⟩ := pE_lf L h1
    refine ⟨e1, ?_, L1⟩
    simp only [evalE, a1, Res.bind]
    cases x <;> simp_all
  | .ife t a b, p, e, d, L, h => by
    simp only [pE] at h
    obtain ⟨x, h1, h⟩ := opt2 h
    obtain ⟨e1, a1, L1⟩ := pE_lf L h1
    simp only [evalE, a1, Res.bind]
    cases x with
    | bl b' => cases b' with
      | true => simp only [if_true] at h; exact pE_lf L1 h
      | false => simp only [Bool.false_eq_true, if_false] at h; exact pE_lf L1 h
    | _ => cases h
  | .call f as perm, p, e, d, L, h => by
    simp only [pE] at h
    obtain ⟨ds, h1, h⟩ := opt2 h
    simp only [cd, Option.map_eq_some_iff] at h
    obtain ⟨o, h2, h3⟩ := h
    obtain ⟨e1, a1, L1⟩ := pAs_lf L h1
    exact ⟨e1, by simp only [evalE, a1, Res.bind, cdO_call h2, h3], L1⟩
  | .blt b as, p, e, d, L, h => by
    simp only [pE] at h
    obtain ⟨x, h1, h⟩ := opt2 h
    obtain ⟨e1, a1, L1⟩ := pVs_lf L h1
    refine ⟨e1, ?_, L1⟩
    obtain ⟨r, g1, h⟩ := opt2 h
    simp only [evalE, a1, Res.bind, getAll_mono (fun v d hv => lf_get L1 hv) g1, Option.bind_some, h, ofOpt]
  | .isi a ts, p, e, d, L, h => by
    simp only [pE] at h
    obtain ⟨x, h1, h⟩ := opt2 h
    obtain ⟨e1, a1, L1⟩ := pV_lf L h1
    obtain ⟨x', g1, h⟩ := opt2 h
    exact ⟨e1, by simp only [evalE, a1, Res.bind, lf_get L1 g1, Option.bind_some, h, ofOpt], L1⟩
  | .meth m r as, p, e, d, L, h => by
    simp only [pE] at h
    obtain ⟨x, h1, h⟩ := opt2 h
    obtain ⟨y, h2, h⟩ := opt2 h
    obtain ⟨e1, a1, L1⟩ := pV_lf L h1
    obtain ⟨e2, a2, L2⟩ := pVs_lf L1 h2
    refine ⟨e2, ?_, L2⟩
    obtain ⟨x', g1, h⟩ := opt2 h
    obtain ⟨r, g2, h⟩ := opt2 h
    simp only [evalE, a1, a2, Res.bind, lf_get L2 g1, getAll_mono (fun v d hv => lf_get L2 hv) g2, Option.bind_some, h, ofOpt]
  | .tup es, p, e, d, L, h => by
    simp only [pE, Option.map_eq_some_iff] at h
    obtain ⟨x, h1, h⟩ := h
    obtain ⟨e1, a1, L1⟩ := pLs_lf L h1
    exact ⟨e1, by simp only [evalE, a1, Res.bind, h], L1⟩
  | .sub a i, p, e, d, L, h => by
    simp only [pE] at h
    obtain ⟨x, h1, h⟩ := opt2 h
    obtain ⟨y, h2, h⟩ := opt2 h
    obtain ⟨e1, a1, L1⟩ := pV_lf L h1
    obtain ⟨e2, a2, L2⟩ := pE_lf L1 h2
    exact ⟨e2, by simp only [evalE, a1, a2, Res.bind, lf_sub L2 h, ofOpt], L2⟩
  | .slt a lo hi, p, e, d, L, h => by simp [pE] at h
  | .pop k path i, p, e, d, L, h => by simp [pE] at h
  | .val a, p, e, d, L, h => by simp [pE] at h
  | .f t, p, e, d, L, h => by
    simp only [pE, Option.map_eq_some_iff] at h
    obtain ⟨x, h1, h⟩ := h
    obtain ⟨e1, a1, L1⟩ := pF_lf L h1
    exact ⟨e1, by simp only [evalE, a1, Res.bind, h], L1⟩
  | .bad, p, e, d, L, h => by simp [pE] at h
theorem pEs_lf : ∀ {t : List TE} {p e : En} {d : List D}, Lf p e → pEs C t p = some d → ∃ e', evalEs C t e = .ok d e' ∧ Lf p e'
  | [], p, e, d, L, h => by simp only [pEs, Option.some.injEq] at h; subst h; exact ⟨e, rfl, L⟩
  | a :: r, p, e, d, L, h => by
    simp only [pEs] at h
    obtain ⟨x, h1, h⟩ := opt2 h
    simp only [Option.map_eq_some_iff] at h
    obtain ⟨y, h2, h⟩ := h
    obtain ⟨e1, a1, L1⟩ := pE_lf L h1
    obtain ⟨e2, a2, L2⟩ := pEs_lf L1 h2
    exact ⟨e2, by simp only [evalEs, a1, a2, Res.bind, h], L2⟩
theorem pAnd_lf : ∀ {t : List TE} {p e : En} {d : D}, Lf p e → pAnd C t p = some d → ∃ e', evalAnd C t e = .ok d e' ∧ Lf p e'
  | [], p, e, d, L, h => by simp [pAnd] at h
  | [a], p, e, d, L, h => by simp only [pAnd] at h; simp only [evalAnd]; exact pE_lf L h
  | a :: b :: r, p, e, d, L, h => by
    simp only [pAnd] at h
    obtain ⟨x, h1, h⟩ := opt2 h
    obtain ⟨e1, a1, L1⟩ := pE_lf L h1
    simp only [evalAnd, a1, Res.bind]
    cases x with
    | bl b' => cases b' with
      | true => simp only [if_true] at h; exact pAnd_lf (t := b :: r) L1 h
      | false => simp only [Bool.false_eq_true, if_false, Option.some.injEq] at h; subst h; exact ⟨e1, rfl, L1⟩
    | _ => cases h
theorem pOr_lf : ∀ {t : List TE} {p e : En} {d : D}, Lf p e → pOr C t p = some d → ∃ e', evalOr C t e = .ok d e' ∧ Lf p e'
  | [], p, e, d, L, h => by simp [pOr] at h
  | [a], p, e, d, L, h => by simp only [pOr] at h; simp only [evalOr]; exact pE_lf L h
  | a :: b :: r, p, e, d, L, h => by
    simp only [pOr] at h
    obtain ⟨x, h1, h⟩ := opt2 h
    obtain ⟨e1, a1, L1⟩ := pE_lf L h1
    simp only [evalOr, a1, Res.bind]
    cases x with
    | bl b' => cases b' with
      | false => simp only [Bool.false_eq_true, if_false] at h; exact pOr_lf (t := b :: r) L1 h
      | true => simp only [if_true, Option.some.injEq] at h; subst h; exact ⟨e1, rfl, L1⟩
    | _ => cases h
theorem pV_lf : ∀ {t : TP} {p e : En} {d : PV}, Lf p e → pV C t p = some d → ∃ e', evalP C t e = .ok d e' ∧ Lf p e'
  | .e a, p, e, d, L, h => by
    simp only [pV, Option.map_eq_some_iff] at h
    obtain ⟨x, h1, h⟩ := h
    obtain ⟨e1, a1, L1⟩ := pE_lf L h1
    exact ⟨e1, by simp only [evalP, a1, Res.bind, h], L1⟩
  | .pk k, p, e, d, L, h => by
    simp only [pV, Option.map_eq_some_iff] at h
    obtain ⟨x, h1, h⟩ := h
    refine ⟨e, ?_, L⟩
    rcases L.at_ k with g | ⟨ds, g1, g2⟩ | g
    · rw [h1] at g
      simp only [evalP, ← g, h]
    · simp only [evalP, g2, h]
    · rw [h1] at g; cases g
theorem pVs_lf : ∀ {t : List TP} {p e : En} {d : List PV}, Lf p e → pVs C t p = some d → ∃ e', evalPs C t e = .ok d e' ∧ Lf p e'
  | [], p, e, d, L, h => by simp only [pVs, Option.some.injEq] at h; subst h; exact ⟨e, rfl, L⟩
  | a :: r, p, e, d, L, h => by
    simp only [pVs] at h
    obtain ⟨x, h1, h⟩ := opt2 h
    simp only [Option.map_eq_some_iff] at h
    obtain ⟨y, h2, h⟩ := h
    obtain ⟨e1, a1, L1⟩ := pV_lf L h1
    obtain ⟨e2, a2, L2⟩ := pVs_lf L1 h2
    exact ⟨e2, by simp only [evalPs, a1, a2, Res.bind, h], L2⟩
theorem pA_lf : ∀ {t : TA} {p e : En} {d : D}, Lf p e → pA C t p = some d → ∃ e', evalA C t e = .ok (.v d) e' ∧ Lf p e'
  | .d a, p, e, d, L, h => by
    simp only [pA] at h
    obtain ⟨e1, a1, L1⟩ := pE_lf L h
    exact ⟨e1, by simp only [evalA, a1, Res.bind], L1⟩
  | .b k, p, e, d, L, h => by simp [pA] at h
  | .o a, p, e, d, L, h => by simp [pA] at h
theorem pAs_lf : ∀ {t : List TA} {p e : En} {d : List D}, Lf p e → pAs C t p = some d → ∃ e', evalAs C t e = .ok (d.map AV.v) e' ∧ Lf p e'
  | [], p, e, d, L, h => by simp only [pAs, Option.some.injEq] at h; subst h; exact ⟨e, rfl, L⟩
  | a :: r, p, e, d, L, h => by
    simp only [pAs] at h
    obtain ⟨x, h1, h⟩ := opt2 h
    simp only [Option.map_eq_some_iff] at h
    obtain ⟨y, h2, h⟩ := h
    subst h
    obtain ⟨e1, a1, L1⟩ := pA_lf L h1
    obtain ⟨e2, a2, L2⟩ := pAs_lf L1 h2
    exact ⟨e2, by simp only [evalAs, a1, a2, Res.bind, List.map], L2⟩
theorem pLs_lf : ∀ {t : List TL} {p e : En} {d : List D}, Lf p e → pLs C t p = some d → ∃ e', evalLs C t e = .ok d e' ∧ Lf p e'
  | [], p, e, d, L, h => by simp only [pLs, Option.some.injEq] at h; subst h; exact ⟨e, rfl, L⟩
  | .e a :: r, p, e, d, L, h => by
    simp only [pLs] at h
    obtain ⟨x, h1, h⟩ := opt2 h
    simp only [Option.map_eq_some_iff] at h
    obtain ⟨y, h2, h⟩ := h
    subst h
    obtain ⟨e1, a1, L1⟩ := pE_lf L h1
    obtain ⟨e2, a2, L2⟩ := pLs_lf L1 h2
    exact ⟨e2, by simp only [evalLs, a1, a2, Res.bind], L2⟩
  | .s a :: r, p, e, d, L, h => by
    simp only [pLs] at h
    obtain ⟨x, h1, h⟩ := opt2 h
    obtain ⟨l, h3, h⟩ := opt2 h
    simp only [Option.map_eq_some_iff] at h
    obtain ⟨y, h2, h⟩ := h
    subst h
    obtain ⟨e1, a1, L1⟩ := pE_lf L h1
    obtain ⟨e2, a2, L2⟩ := pLs_lf L1 h2
    exact ⟨e2, by simp only [evalLs, a1, h3, a2, Res.bind], L2⟩
theorem pI_lf : ∀ {t : TI} {p e : En} {d : List D}, Lf p e → pI C t p = some d → ∃ e', evalI C t e = .ok d e' ∧ Lf p e'
  | .seq a, p, e, d, L, h => by
    simp only [pI] at h
    obtain ⟨x, h1, h⟩ := opt2 h
    obtain ⟨e1, a1, L1⟩ := pE_lf L h1
    exact ⟨e1, by simp only [evalI, a1, Res.bind, h, ofOpt], L1⟩
  | .rng1 a, p, e, d, L, h => by
    simp only [pI] at h
    obtain ⟨x, h1, h⟩ := opt2 h
    obtain ⟨e1, a1, L1⟩ := pE_lf L h1
    refine ⟨e1, ?_, L1⟩
    simp only [evalI, a1, Res.bind]
    rw [rngA_eq] at h; unfold rngA0 at h
    cases x with
    | int j =>
      simp only at h ⊢
      split at h
      · rename_i hs; rw [if_pos hs]; cases h; rfl
      · cases h
    | _ => cases h
  | .rng2 a b, p, e, d, L, h => by
    simp only [pI] at h
    obtain ⟨x, h1, h⟩ := opt2 h
    obtain ⟨y, h2, h⟩ := opt2 h
    obtain ⟨e1, a1, L1⟩ := pE_lf L h1
    obtain ⟨e2, a2, L2⟩ := pE_lf L1 h2
    refine ⟨e2, ?_, L2⟩
    simp only [evalI, a1, a2, Res.bind]
    rw [rngB_eq] at h; unfold rngB0 at h
    cases x with
    | int i => cases y with
      | int j =>
        simp only at h ⊢
        split at h
        · rename_i hs; rw [if_pos hs]; cases h; rfl
        · cases h
      | _ => cases h
    | _ => cases h
  | .enum a, p, e, d, L, h => by
    simp only [pI] at h
    obtain ⟨x, h1, h⟩ := opt2 h
    obtain ⟨e1, a1, L1⟩ := pE_lf L h1
    refine ⟨e1, ?_, L1⟩
    simp only [evalI, a1, Res.bind]
    cases x <;> simp_all
  | .zip a b st, p, e, d, L, h => by
    simp only [pI] at h
    obtain ⟨x, h1, h⟩ := opt2 h
    obtain ⟨y, h2, h⟩ := opt2 h
    obtain ⟨e1, a1, L1⟩ := pE_lf L h1
    obtain ⟨e2, a2, L2⟩ := pE_lf L1 h2
    exact ⟨e2, by simp only [evalI, a1, a2, Res.bind, h, ofOpt], L2⟩
theorem pF_lf : ∀ {t : TF} {p e : En} {d : List D}, Lf p e → pF C t p = some d → ∃ e', evalF C t e = .ok d e' ∧ Lf p e'
  | .lst es, p, e, d, L, h => by simp only [pF] at h; simp only [evalF]; exact pLs_lf L h
  | .comp elt tg it ifs own, p, e, d, L, h => by
    simp only [pF] at h
    obtain ⟨x, h1, h⟩ := opt2 h
    split at h
    · rename_i hg
      rw [Bool.and_eq_true] at hg
      obtain ⟨e1, a1, L1⟩ := pI_lf L h1
      obtain ⟨e2, a2, L2⟩ := loopC_lf (f := fun d e => match bindT tg d e with
        | none => .stuck
        | some e => (evalIfs C ifs e).bind fun b e => if b then (evalE C elt e).bind fun x e => .ok (some x) (wipeE e own) else .ok none (wipeE e own)) (p := p) (fun d o e L hd => by
          obtain ⟨p1, hb, hd⟩ := opt2 hd
          obtain ⟨b, hi, hd⟩ := opt2 hd
          obtain ⟨e3, hb3, L3⟩ := bindT_lf L hb
          obtain ⟨e4, a4, L4⟩ := pIfs_lf L3 hi
          simp only [hb3, a4, Res.bind]
          cases b with
          | true =>
            simp only [if_true, Option.map_eq_some_iff] at hd ⊢
            obtain ⟨v, hv, ho⟩ := hd
            obtain ⟨e5, a5, L5⟩ := pE_lf L4 hv
            simp only [a5, ho]
            exact ⟨_, rfl, wipe_lf hg.2 hb hg.1 L5⟩
          | false =>
            simp only [Bool.false_eq_true, if_false, Option.some.injEq] at hd ⊢
            subst hd
            exact ⟨_, rfl, wipe_lf hg.2 hb hg.1 L4⟩) (wipe_free_lf hg.1 L1) h
      refine ⟨e2, ?_, L2⟩
      rw [evalF, a1]
      exact congrArg noExc a2
    · cases h
  | .cat a b, p, e, d, L, h => by
    simp only [pF] at h
    obtain ⟨x, h1, h⟩ := opt2 h
    obtain ⟨y, h2, h⟩ := opt2 h
    obtain ⟨e1, a1, L1⟩ := pV_lf L h1
    obtain ⟨e2, a2, L2⟩ := pV_lf L1 h2
    obtain ⟨x', g1, h⟩ := opt2 h
    obtain ⟨y', g2, h⟩ := opt2 h
    exact ⟨e2, by simp only [evalF, a1, a2, Res.bind, lf_list L2 g1, lf_list L2 g2, Option.bind_some, h, ofOpt], L2⟩
  | .rep a n, p, e, d, L, h => by
    simp only [pF] at h
    obtain ⟨x, h1, h⟩ := opt2 h
    obtain ⟨y, h2, h⟩ := opt2 h
    rw [repC_eq] at h; unfold rep0 at h
    obtain ⟨e1, a1, L1⟩ := pV_lf L h1
    obtain ⟨e2, a2, L2⟩ := pE_lf L1 h2
    obtain ⟨x', g1, h⟩ := opt2 h
    exact ⟨e2, by simp only [evalF, a1, a2, Res.bind, lf_list L2 g1, Option.bind_some, h, ofOpt], L2⟩
  | .slice a lo hi, p, e, d, L, h => by
    simp only [pF] at h
    obtain ⟨x, h1, h⟩ := opt2 h
    obtain ⟨y, h2, h⟩ := opt2 h
    obtain ⟨z, h3, h⟩ := opt2 h
    obtain ⟨e1, a1, L1⟩ := pV_lf L h1
    obtain ⟨e2, a2, L2⟩ := pOpt_lf L1 h2
    obtain ⟨e3, a3, L3⟩ := pOpt_lf L2 h3
    simp only [Option.map_eq_some_iff] at h
    obtain ⟨x', g1, h⟩ := h
    exact ⟨e3, by simp only [evalF, a1, a2, a3, Res.bind, lf_listS L3 g1, Option.map_some, h, ofOpt], L3⟩
  | .list_ it, p, e, d, L, h => by simp only [pF] at h; simp only [evalF]; exact pI_lf L h
  | .sorted a, p, e, d, L, h => by
    simp only [pF] at h
    obtain ⟨x, h1, h⟩ := opt2 h
    obtain ⟨e1, a1, L1⟩ := pV_lf L h1
    obtain ⟨x', g1, h⟩ := opt2 h
    exact ⟨e1, by simp only [evalF, a1, Res.bind, lf_list L1 g1, Option.bind_some, h, ofOpt], L1⟩
  | .sumL a, p, e, d, L, h => by
    simp only [pF] at h
    obtain ⟨x, h1, h⟩ := opt2 h
    obtain ⟨e1, a1, L1⟩ := pV_lf L h1
    obtain ⟨x', g1, h⟩ := opt2 h
    exact ⟨e1, by simp only [evalF, a1, Res.bind, lf_list L1 g1, Option.bind_some, h, ofOpt], L1⟩
theorem pOpt_lf : ∀ {t : Option TE} {p e : En} {d : Option Int}, Lf p e → pOpt C t p = some d → ∃ e', evalOpt C t e = .ok d e' ∧ Lf p e'
  | none, p, e, d, L, h => by simp only [pOpt, Option.some.injEq] at h; subst h; exact ⟨e, rfl, L⟩
  | some a, p, e, d, L, h => by
    simp only [pOpt] at h
    obtain ⟨x, h1, h⟩ := opt2 h
    obtain ⟨e1, a1, L1⟩ := pE_lf L h1
    refine ⟨e1, ?_, L1⟩
    simp only [evalOpt, a1, Res.bind]
    cases x <;> simp_all
theorem pIfs_lf : ∀ {t : List TE} {p e : En} {d : Bool}, Lf p e → pIfs C t p = some d → ∃ e', evalIfs C t e = .ok d e' ∧ Lf p e'
  | [], p, e, d, L, h => by simp only [pIfs, Option.some.injEq] at h; subst h; exact ⟨e, rfl, L⟩
  | a :: r, p, e, d, L, h => by
    simp only [pIfs] at h
    obtain ⟨x, h1, h⟩ := opt2 h
    obtain ⟨e1, a1, L1⟩ := pE_lf L h1
    simp only [evalIfs, a1, Res.bind]
    cases x with
    | bl b' => cases b' with
      | true => simp only [if_true] at h; exact pIfs_lf L1 h
      | false => simp only [Bool.false_eq_true, if_false, Option.some.injEq] at h; subst h; exact ⟨e1, rfl, L1⟩
    | _ => cases h
end
mutual
theorem pO_lf : ∀ {t : TO} {p e : En} {d : O}, Lf p e → pO C t p = some d → ∃ e', evalO C t e = .ok d e' ∧ Lf p e'
  | .e a, p, e, d, L, h => by
    simp only [pO, Option.map_eq_some_iff] at h
    obtain ⟨x, h1, h⟩ := h
    obtain ⟨e1, a1, L1⟩ := pE_lf L h1
    exact ⟨e1, by simp only [evalO, a1, Res.bind, h], L1⟩
  | .f t, p, e, d, L, h => by
    simp only [pO, Option.map_eq_some_iff] at h
    obtain ⟨x, h1, h⟩ := h
    obtain ⟨e1, a1, L1⟩ := pF_lf L h1
    exact ⟨e1, by simp only [evalO, a1, Res.bind, h], L1⟩
  | .lst es, p, e, d, L, h => by
    simp only [pO, Option.map_eq_some_iff] at h
    obtain ⟨x, h1, h⟩ := h
    obtain ⟨e1, a1, L1⟩ := pOs_lf L h1
    exact ⟨e1, by simp only [evalO, a1, Res.bind, h], L1⟩
  | .tup es, p, e, d, L, h => by
    simp only [pO, Option.map_eq_some_iff] at h
    obtain ⟨x, h1, h⟩ := h
    obtain ⟨e1, a1, L1⟩ := pOs_lf L h1
    exact ⟨e1, by simp only [evalO, a1, Res.bind, h], L1⟩
  | .mv k, p, e, d, L, h => by simp [pO] at h
  | .comp elt tg it ifs own, p, e, d, L, h => by simp [pO] at h
  | .call f as perm, p, e, d, L, h => by
    simp only [pO] at h
    obtain ⟨ds, h1, h⟩ := opt2 h
    obtain ⟨e1, a1, L1⟩ := pAs_lf L h1
    exact ⟨e1, by simp only [evalO, a1, Res.bind, cdO_call h], L1⟩
  | .ife t a b, p, e, d, L, h => by
    simp only [pO] at h
    obtain ⟨x, h1, h⟩ := opt2 h
    obtain ⟨e1, a1, L1⟩ := pE_lf L h1
    simp only [evalO, a1, Res.bind]
    cases x with
    | bl b' => cases b' with
      | true => simp only [if_true] at h; exact pO_lf L1 h
      | false => simp only [Bool.false_eq_true, if_false] at h; exact pO_lf L1 h
    | _ => cases h
theorem pOs_lf : ∀ {t : List TO} {p e : En} {d : List O}, Lf p e → pOs C t p = some d → ∃ e', evalOs C t e = .ok d e' ∧ Lf p e'
  | [], p, e, d, L, h => by simp only [pOs, Option.some.injEq] at h; subst h; exact ⟨e, rfl, L⟩
  | a :: r, p, e, d, L, h => by
    simp only [pOs] at h
    obtain ⟨x, h1, h⟩ := opt2 h
    simp only [Option.map_eq_some_iff] at h
    obtain ⟨y, h2, h⟩ := h
    obtain ⟨e1, a1, L1⟩ := pO_lf L h1
    obtain ⟨e2, a2, L2⟩ := pOs_lf L1 h2
    exact ⟨e2, by simp only [evalOs, a1, a2, Res.bind, h], L2⟩
end
/-- what a statement does on the real names -/
def PR.lf (r : PR) (f : FRes) : Prop := match r with
  | .next p => ∃ e, f = .next e ∧ Lf p e
  | .ret o p => ∃ e, ∃ o', f = .ret o' e ∧ o'.toD = o.toD ∧ Lf p e
theorem loopP_lf {f : D → En → FRes} {g : D → En → Option PR} (h : ∀ d p e r, Lf p e → g d p = some r → r.lf (f d e)) : ∀ {ds : List D} {p e : En} {r : PR}, Lf p e → loopP g ds p = some r → r.lf (loopF f ds e)
  | [], p, e, r, L, hm => by simp only [loopP, Option.some.injEq] at hm; subst hm; exact ⟨e, rfl, L⟩
  | d :: ds, p, e, r, L, hm => by
    simp only [loopP] at hm
    obtain ⟨x, h1, h2⟩ := opt2 hm
    have := h d p e x L h1
    cases x with
    | next p1 =>
      obtain ⟨e1, a1, L1⟩ := this
      rw [loopF, a1]
      exact loopP_lf h L1 h2
    | ret o p1 =>
      obtain ⟨e1, o', a1, ho⟩ := this
      simp only [PR.bind, Option.some.injEq] at h2
      subst h2
      rw [loopF, a1]
      exact ⟨e1, o', rfl, ho⟩
/-- a loop, step by step: behind each item the names may be more frozen, some forgotten -/
inductive LoopR (g : D → En → Option PR) : List D → En → En → Prop where
  | nil (p : En) : LoopR g [] p p
  | cons {d : D} {ds : List D} {p p1 p2 q : En} (h : g d p = some (.next p1)) (hf : Lf p2 p1) (t : LoopR g ds p2 q) : LoopR g (d :: ds) p q
theorem LoopR.run {f : D → En → FRes} {g : D → En → Option PR} (h : ∀ d p e r, Lf p e → g d p = some r → r.lf (f d e)) : ∀ {ds : List D} {p q e : En}, LoopR g ds p q → Lf p e → ∃ e', loopF f ds e = .next e' ∧ Lf q e'
  | [], _, _, e, .nil p, L => ⟨e, rfl, L⟩
  | d :: ds, p, q, e, .cons h1 hf t, L => by
    obtain ⟨e1, a1, L1⟩ := h d p e _ L h1
    rw [loopF, a1]
    exact LoopR.run h t (hf.trans L1)
theorem isLst_lf {p e : En} {k : Nat} (L : Lf p e) (h : isLstAt p k = true) : p.at k = e.at k ∧ isLstAt e k = true := by
  unfold isLstAt at h ⊢
  rcases L.at_ k with g | ⟨ds, g1, g2⟩ | g
  · rw [← g]; exact ⟨rfl, h⟩
  · rw [g1] at h; cases h
  · rw [g] at h; cases h
theorem modAt_lf {α : Type} {f : O → Option (O × α)} {k : Nat} {q : List D} {p e : En} {r : En × α} (L : Lf p e) (he : p.at k = e.at k) (h : En.modAt f k q p = some r) : ∃ e1, En.modAt f k q e = some (e1, r.2) ∧ Lf r.1 e1 := by
  unfold En.modAt at h ⊢
  rw [← he]
  obtain ⟨o, h1, h⟩ := opt2 h
  simp only [Option.map_eq_some_iff] at h
  obtain ⟨y, h2, h⟩ := h
  subst h
  simp only [h1, Option.bind_some, h2, Option.map_some]
  exact ⟨_, rfl, L.put k _⟩
mutual
theorem pS_lf : ∀ {t : TS} {p e : En} {r : PR}, Lf p e → pS C t p = some r → r.lf (exec C t e)
  | .asg k a, p, e, r, L, h => by
    simp only [pS, Option.map_eq_some_iff] at h
    obtain ⟨x, h1, h⟩ := h
    subst h
    obtain ⟨e1, a1, L1⟩ := pO_lf L h1
    simp only [exec, a1, Res.st]
    exact ⟨_, rfl, L1.put k x⟩
  | .asgT t a, p, e, r, L, h => by
    simp only [pS] at h
    obtain ⟨x, h1, h⟩ := opt2 h
    simp only [Option.map_eq_some_iff] at h
    obtain ⟨y, h2, h⟩ := h
    subst h
    obtain ⟨e1, a1, L1⟩ := pE_lf L h1
    obtain ⟨e2, a2, L2⟩ := bindT_lf L1 h2
    simp only [exec, a1, Res.st, a2, optF]
    exact ⟨_, rfl, L2⟩
  | .par ks es, p, e, r, L, h => by
    simp only [pS] at h
    obtain ⟨x, h1, h⟩ := opt2 h
    simp only [Option.map_eq_some_iff] at h
    obtain ⟨y, h2, h⟩ := h
    subst h
    obtain ⟨e1, a1, L1⟩ := pOs_lf L h1
    obtain ⟨e2, a2, L2⟩ := putAll_lf L1 h2
    simp only [exec, a1, Res.st, a2, optF]
    exact ⟨_, rfl, L2⟩
  | .store k path i a, p, e, r, L, h => by
    simp only [pS] at h
    obtain ⟨x, h1, h⟩ := opt2 h
    split at h
    · rename_i hl
      obtain ⟨q, h2, h⟩ := opt2 h
      obtain ⟨j, h3, h⟩ := opt2 h
      simp only [Option.map_eq_some_iff] at h
      obtain ⟨y, h4, h⟩ := h
      subst h
      obtain ⟨e1, a1, L1⟩ := pO_lf L h1
      obtain ⟨e2, a2, L2⟩ := pEs_lf L1 h2
      obtain ⟨e3, a3, L3⟩ := pE_lf L2 h3
      obtain ⟨e4, a4, L4⟩ := modAt_lf L3 (isLst_lf L3 hl).1 h4
      simp only [exec, a1, Res.st, (isLst_lf L1 hl).2, if_true, a2, a3, a4, Option.map_some, optF]
      exact ⟨_, rfl, L4⟩
    · cases h
  | .aug k op a, p, e, r, L, h => by simp [pS] at h
  | .augS k i op a, p, e, r, L, h => by simp [pS] at h
  | .app k path a, p, e, r, L, h => by
    simp only [pS] at h
    split at h
    · rename_i hl
      obtain ⟨q, h2, h⟩ := opt2 h
      obtain ⟨x, h1, h⟩ := opt2 h
      simp only [Option.map_eq_some_iff] at h
      obtain ⟨y, h4, h⟩ := h
      subst h
      obtain ⟨e2, a2, L2⟩ := pEs_lf L h2
      obtain ⟨e1, a1, L1⟩ := pO_lf L2 h1
      obtain ⟨e4, a4, L4⟩ := modAt_lf L1 (isLst_lf L1 hl).1 h4
      simp only [exec, (isLst_lf L hl).2, if_true, a2, Res.st, a1, a4, Option.map_some, optF]
      exact ⟨_, rfl, L4⟩
    · cases h
  | .expr a, p, e, r, L, h => by
    simp only [pS, Option.map_eq_some_iff] at h
    obtain ⟨x, h1, h⟩ := h
    subst h
    obtain ⟨e1, a1, L1⟩ := pE_lf L h1
    simp only [exec, a1, Res.st]
    exact ⟨_, rfl, L1⟩
  | .for_ t it body, p, e, r, L, h => by
    simp only [pS] at h
    obtain ⟨x, h1, h⟩ := opt2 h
    obtain ⟨e1, a1, L1⟩ := pI_lf L h1
    simp only [exec, a1, Res.st]
    refine loopP_lf (fun d p e r L hd => ?_) L1 h
    obtain ⟨p1, hb, hd⟩ := opt2 hd
    obtain ⟨e2, a2, L2⟩ := bindT_lf L hb
    simp only [a2]
    exact pSs_lf L2 hd
  | .while_ c body, p, e, r, L, h => by simp [pS] at h
  | .if_ c a b, p, e, r, L, h => by
    simp only [pS] at h
    obtain ⟨x, h1, h⟩ := opt2 h
    obtain ⟨e1, a1, L1⟩ := pE_lf L h1
    simp only [exec, a1, Res.st]
    cases x with
    | bl b' => cases b' with
      | true => simp only [if_true] at h; exact pSs_lf L1 h
      | false => simp only [Bool.false_eq_true, if_false] at h; exact pSs_lf L1 h
    | _ => cases h
  | .ret a, p, e, r, L, h => by
    simp only [pS] at h
    split at h
    · rename_i k
      simp only [Option.map_eq_some_iff] at h
      obtain ⟨x, h1, h⟩ := h
      subst h
      rcases L.at_ k with g | ⟨ds, g1, g2⟩ | g
      · rw [h1] at g
        simp only [exec, evalO, ← g, Res.st]
        exact ⟨_, _, rfl, rfl, L.none_ k⟩
      · simp only [exec, evalO, g2, Res.st]
        rw [h1] at g1
        cases g1
        exact ⟨_, _, rfl, by simp only [O.toD, toDs_frz0], L.none_ k⟩
      · rw [h1] at g; cases g
    · simp only [Option.map_eq_some_iff] at h
      obtain ⟨x, h1, h⟩ := h
      subst h
      obtain ⟨e1, a1, L1⟩ := pO_lf L h1
      simp only [exec, a1, Res.st]
      exact ⟨_, _, rfl, rfl, L1⟩
  | .retN, p, e, r, L, h => by simp only [pS, Option.some.injEq] at h; subst h; exact ⟨_, _, rfl, rfl, L⟩
  | .raise c a, p, e, r, L, h => by simp [pS] at h
  | .try_ body c k suite, p, e, r, L, h => by simp [pS] at h
  | .pass, p, e, r, L, h => by simp only [pS, Option.some.injEq] at h; subst h; exact ⟨_, rfl, L⟩
  | .bad, p, e, r, L, h => by simp [pS] at h
theorem pSs_lf : ∀ {t : List TS} {p e : En} {r : PR}, Lf p e → pSs C t p = some r → r.lf (execs C t e)
  | [], p, e, r, L, h => by simp only [pSs, Option.some.injEq] at h; subst h; exact ⟨_, rfl, L⟩
  | a :: ss, p, e, r, L, h => by
    simp only [pSs] at h
    obtain ⟨x, h1, h⟩ := opt2 h
    have := pS_lf L h1
    rw [execs]
    cases x with
    | next p1 =>
      obtain ⟨e1, a1, L1⟩ := this
      rw [a1]
      exact pSs_lf L1 h
    | ret o p1 =>
      obtain ⟨e1, o', a1, ho⟩ := this
      simp only [PR.bind, Option.some.injEq] at h
      subst h
      rw [a1]
      exact ⟨e1, o', rfl, ho⟩
end
/-- the text runs and its value is this -/
def Runs (C : Cfg) (ss : List TS) (p : En) (v : D) : Prop := ∀ e, Lf p e → (∃ o e', execs C ss e = .ret o e' ∧ o.toD = v) ∨ (∃ e', execs C ss e = .next e' ∧ v = .non)
theorem Runs.step {s : TS} {ss : List TS} {p p1 p2 : En} {v : D} (h : pS C s p = some (.next p1)) (hf : Lf p2 p1) (h2 : Runs C ss p2 v) : Runs C (s :: ss) p v := by
  intro e L
  obtain ⟨e1, a1, L1⟩ := pS_lf L h
  rw [execs, a1]
  exact h2 e1 (hf.trans L1)
theorem Runs.last {s : TS} {ss : List TS} {p p1 : En} {o : O} {v : D} (h : pS C s p = some (.ret o p1)) (hv : o.toD = v) : Runs C (s :: ss) p v := by
  intro e L
  obtain ⟨e1, o', a1, ho, _⟩ := pS_lf L h
  rw [execs, a1]
  exact .inl ⟨o', e1, rfl, ho.trans hv⟩
/-- a for loop whose items each end -/
theorem Runs.for_ {t : TT} {it : TI} {body ss : List TS} {p q : En} {ds : List D} {v : D} (hi : pI C it p = some ds) (hl : LoopR (fun d e => (bindT t d e).bind fun e => pSs C body e) ds p q) (h2 : Runs C ss q v) : Runs C (.for_ t it body :: ss) p v := by
  intro e L
  obtain ⟨e1, a1, L1⟩ := pI_lf L hi
  obtain ⟨e2, a2, L2⟩ := hl.run (f := fun d e => match bindT t d e with
    | some e => execs C body e
    | none => .stuck) (fun d p e r L hd => by
      obtain ⟨p1, hb, hd⟩ := opt2 hd
      obtain ⟨e2, a2, L2⟩ := bindT_lf L hb
      simp only [a2]
      exact pSs_lf L2 hd) L1
  have : execs C (.for_ t it body :: ss) e = execs C ss e2 := by
    rw [execs, exec, a1]
    show (loopF _ ds e1).bind _ = _
    have := congrArg (fun z => FRes.bind z (execs C ss)) a2
    exact this
  rw [this]
  exact h2 e2 L2
theorem Runs.nil {p : En} : Runs C [] p .non := fun e _ => .inr ⟨e, rfl, rfl⟩
end TL

set_option maxRecDepth 100000
/-! lots of alike places: plain -/
namespace TL
open PySem
def addL (vs : List D) (v : D) (i : Nat) : List (List Nat) → List (List Nat)
  | [] => [[i]]
  | g :: gs => if D.eq ((vs[g.headD 0]?).getD .non) v then (g ++ [i]) :: gs else g :: addL vs v i gs
def groupsL (vs : List D) : List D → Nat → List (List Nat) → List (List Nat)
  | [], _, gs => gs
  | v :: r, i, gs => groupsL vs r (i + 1) (addL vs v i gs)
def encG (g : List Nat) : O := .lst (g.map fun (n : Nat) => .frz (.int (n : Int)))
def x_alike_in (os : List O) : CRes := match os with
  | [o] => (match o.toD with
    | .lst vs => if D.oks 50 vs && decide (vs.length < 4000000) then .ok (.lst ((groupsL vs vs 0 []).map encG)) [none] else .stuck
    | _ => .stuck)
  | _ => .stuck
end TL

set_option maxRecDepth 100000
set_option maxHeartbeats 4000000
namespace TL
open PySem PySem.Spec PyProof.Rows L2
/-! ### a for loop over any step -/
def execFor (C : Cfg) (t : TT) (it : TI) (g : En → FRes) (e : En) : FRes := (evalI C it e).st fun ds e1 => loopF (fun d e => match bindT t d e with | some e => g e | none => .stuck) ds e1
section
variable {K : PySem.W.Frag} {fa ca : Nat → Addr} {C : Cfg} {W : WX} {P : List Nat} {D : Ends}
theorem for_weakG {t : TT} {it : TI} {gg : En → FRes} {σ : L2.St} {H : Hp} (hP : ∀ k, k ∈ tvars t → k ∉ P) (h : tS K fa ca W P (execFor C t it gg) D σ H) :
    tFor (rI K fa ca C W it) (gT K t) (tS K fa ca W P gg) D σ H := by
  obtain ⟨Hf, e, F, S, h⟩ := h
  simp only [execFor] at h
  refine ⟨Hf, e, F, S, Go.mono (GoS.st (R1 := RW K fa ca) (r := evalI C it e) h) ?_⟩
  rintro J H0 ⟨ds, e0, Hf0, F0, Fv, q0, f0, ⟨rfl, hl, wk⟩, h0⟩
  have h0 : GoS K fa ca W P (loopF (fun d e => match bindT t d e with | some e => gg e | none => .stuck) ds e0) Hf H F σ D := h0
  generalize hf : (fun d e => match bindT t d e with | some e => gg e | none => FRes.stuck) = f at h0
  have g0 := h0.from (P := P) f0 (fun _ _ => rfl)
  let Iv : Nat → L2.St → Hp → Prop := fun i σ H => ∃ Hf e F, Same Hf0 Hf ∧ Stt K fa ca Hf H σ e F ∧ GoS K fa ca W P (loopF f (ds.drop i) e) Hf H F σ D
  refine ⟨fun i m σ H => m = ds.length - i ∧ i ≤ ds.length ∧ Iv i σ H, ⟨ds.length, rfl, Nat.zero_le _, Hf0, e0, F0, Same.refl _, f0.st, by simpa using g0⟩, ?_⟩
  rintro i m σ H ⟨rfl, hi, Hf, e, F, sm, S, g⟩
  have smH : Same Hf0 H := sm.trans S.sub
  by_cases hlt : i < ds.length
  · have hd : ds.drop i = ds[i] :: ds.drop (i + 1) := List.drop_eq_getElem_cons hlt
    rw [hd] at g
    simp only [loopF] at g
    refine .inr ⟨wk.go i _ smH hlt, Iv (i + 1), fun σ' H' p' => ⟨ds.length - (i + 1), by omega, rfl, hlt, p'⟩, fun x H' y => ?_⟩
    have got : ∃ Hf1, Fin K fa ca Hf H F Hf1 H' σ e F [] ∧ repD K fa ca Hf1 ds[i] x := by
      rcases wk.yld i _ x H' ds[i] smH (List.getElem?_eq_getElem hlt) y with ⟨rfl, r0⟩ | ⟨T, vs, hT, rfl, r0⟩
      · exact ⟨Hf, S.fin, repD_mono sm r0⟩
      · refine ⟨upd Hf T (.tup vs), S.new hT, r0 Hf sm ?_⟩
        cases q : Hf T with
        | none => rfl
        | some o => rw [S.sub _ _ q] at hT; cases hT
    obtain ⟨Hf1, f1, rx⟩ := got
    have hfd : f ds[i] e = match bindT t ds[i] e with | some e => gg e | none => FRes.stuck := by rw [← hf]
    cases hb : bindT t ds[i] e with
    | none => rw [hfd, hb] at g; exact g.elim
    | some eb =>
      rw [hfd, hb] at g
      refine bind_ok hb rx f1.st fun σ2 F2 s2 st2 l2 k2 => ?_
      have fb : Fin K fa ca Hf H F Hf1 H' σ2 eb F2 [] := f1.sub' s2 st2.rel
      have g2 := g.from (P := P) fb fun k hk => k2 k fun z => hP k z hk
      dsimp only at g2
      refine ⟨Hf1, eb, F2, st2, ?_⟩
      have key : GoS K fa ca W P (gg eb) Hf1 H' F2 σ2 { D with nx := Iv (i + 1), ct := Iv (i + 1), bk := D.nx } := by
        revert g2
        generalize gg eb = r
        intro g2
        cases r with
        | next e' =>
          intro Hf3 H3 σ3 F3 f3 k3
          exact ⟨Hf3, e', F3, sm.trans (f1.ext.fz.trans f3.ext.fz), f3.st, GoS.from f3 k3 g2⟩
        | ret o e' => exact g2
        | exc c d e' => exact g2
        | stuck => exact g2
      exact key
  · have e0 : i = ds.length := by omega
    subst e0
    rw [List.drop_length] at g
    refine .inl ⟨wk.stop _ _ smH (Nat.le_refl _), ?_⟩
    exact g Hf H σ F S.fin fun _ _ => rfl
end
/-! ### the lots -/
def decN : List O → Option (List Nat)
  | [] => some []
  | .frz (.int i) :: r => if 0 ≤ i then (decN r).map (i.toNat :: ·) else none
  | _ => none
def decL : List O → Option (List (List Nat))
  | [] => some []
  | .lst g :: r => (decN g).bind fun g => (decL r).map (g :: ·)
  | _ => none
theorem decN_ok : ∀ {os : List O} {g : List Nat}, decN os = some g → os = g.map fun (n : Nat) => O.frz (.int (n : Int))
  | [], g, h => by simp only [decN, Option.some.injEq] at h; subst h; rfl
  | .frz (.int i) :: r, g, h => by
    simp only [decN] at h
    split at h
    · rename_i h0
      simp only [Option.map_eq_some_iff] at h
      obtain ⟨g', h1, h2⟩ := h
      subst h2
      rw [decN_ok h1, List.map_cons, Int.toNat_of_nonneg h0]
    · cases h
  | .frz .non :: r, g, h => by simp [decN] at h
  | .frz (.bl _) :: r, g, h => by simp [decN] at h
  | .frz (.str _) :: r, g, h => by simp [decN] at h
  | .frz (.lst _) :: r, g, h => by simp [decN] at h
  | .frz (.tup _) :: r, g, h => by simp [decN] at h
  | .frz .dic :: r, g, h => by simp [decN] at h
  | .frz (.fn _) :: r, g, h => by simp [decN] at h
  | .frz (.exc _ _) :: r, g, h => by simp [decN] at h
  | .frz (.scr _) :: r, g, h => by simp [decN] at h
  | .lst _ :: r, g, h => by simp [decN] at h
  | .tup _ :: r, g, h => by simp [decN] at h
theorem decL_ok : ∀ {os : List O} {L : List (List Nat)}, decL os = some L → os = L.map encG
  | [], L, h => by simp only [decL, Option.some.injEq] at h; subst h; rfl
  | .lst g :: r, L, h => by
    simp only [decL, Option.bind_eq_some_iff, Option.map_eq_some_iff] at h
    obtain ⟨g', h1, L', h2, h3⟩ := h
    subst h3
    rw [decL_ok h2, decN_ok h1]
    rfl
  | .frz _ :: r, L, h => by simp [decL] at h
  | .tup _ :: r, L, h => by simp [decL] at h
theorem decN_enc : ∀ g : List Nat, decN (g.map fun (n : Nat) => O.frz (.int (n : Int))) = some g
  | [] => rfl
  | a :: g => by
    rw [List.map_cons, decN, if_pos (by omega), decN_enc g]
    simp
theorem decL_enc : ∀ L : List (List Nat), decL (L.map encG) = some L
  | [] => rfl
  | g :: L => by
    rw [List.map_cons]
    show (decN (g.map fun (n : Nat) => O.frz (.int (n : Int)))).bind (fun g => (decL (L.map encG)).map (g :: ·)) = _
    rw [decN_enc, decL_enc L]
    rfl
/-- what is asked of the lots ahead -/
def alOk (vs : List D) (w : D) (i : Int) (L : List (List Nat)) : Bool := D.oks 50 vs && D.ok 50 w && decide (0 ≤ i) && decide (L.length < 4000000) && L.all (fun g => !g.isEmpty && decide (g.headD 0 < vs.length) && decide (g.length < 4000000))
def alPut (vs : List D) (w : D) (i : Int) (L : List (List Nat)) : List (List Nat) := addL vs w i.toNat L
/-- a turn -/
def gAl (e : En) : FRes := match e with
  | [some (.frz (.lst vs)), some (.lst gs), some (.frz (.int i)), some (.frz w), none, none] => (match decL gs with
    | some L => if alOk vs w i L then .next [some (.frz (.lst vs)), some (.lst ((alPut vs w i L).map encG)), some (.frz (.int i)), some (.frz w), none, none] else .stuck
    | none => .stuck)
  | _ => .stuck
def mtch (vs : List D) (w : D) (g : List Nat) : Bool := D.eq ((vs[g.headD 0]?).getD .non) w
theorem addL_none {vs : List D} {w : D} {i : Nat} : ∀ {L : List (List Nat)}, (∀ g ∈ L, mtch vs w g = false) → addL vs w i L = L ++ [[i]]
  | [], _ => rfl
  | g :: L, h => by
    have := h g List.mem_cons_self
    unfold mtch at this
    rw [addL, this]
    simp only [Bool.false_eq_true, if_false]
    rw [addL_none fun g hg => h g (List.mem_cons_of_mem _ hg)]
    rfl
theorem addL_some {vs : List D} {w : D} {i : Nat} : ∀ {L : List (List Nat)} {j : Nat} {g : List Nat}, L[j]? = some g → mtch vs w g = true → (∀ a g', a < j → L[a]? = some g' → mtch vs w g' = false) → addL vs w i L = L.set j (g ++ [i])
  | [], j, g, h, _, _ => by simp at h
  | g0 :: L, 0, g, h, hm, _ => by
    simp at h; subst h
    unfold mtch at hm
    rw [addL, hm]; rfl
  | g0 :: L, j + 1, g, h, hm, hn => by
    have h0 := hn 0 g0 (by omega) rfl
    unfold mtch at h0
    rw [addL, h0]
    simp only [Bool.false_eq_true, if_false]
    rw [addL_some (L := L) (j := j) (g := g) (by simpa using h) hm fun a g' ha hg => hn (a + 1) g' (by omega) (by simpa using hg)]
    rfl
end TL

set_option maxRecDepth 100000
set_option maxHeartbeats 4000000
namespace TL
open PySem PySem.Spec PyProof.Rows L2
def condTE : TE := .cmp .eq (.e (.sub (.e (.var 0)) (.sub (.e (.var 5)) (.int 0)))) (.e (.var 3))
def neTE : TE := .cmp .ne (.e (.var 4)) (.e (.f (.lst [])))
def appTS : TS := .app 1 [] (.f (.lst [.e (.var 2)]))
/-- like = [lot for lot in found if values[lot[0]] == value] -/
def chkAl1 (G : GT) (sc : Scope) : Stmt → Bool
  | .Assign [.Name x px] (.ListComp elt [⟨t, .Name f pf, [c], a⟩] scope pe) pos => decide (a = 0) && decide (G.N[4]? = some x) && isOwn sc x && okSet sc x px (.ListComp elt [⟨t, .Name f pf, [c], a⟩] scope pe) && isLoc sc x && chkV G sc 1 f && blkC G.N sc scope [((G.N[5]?).getD Str.empty, 5)] && chkT G scope (.n 5) t && chkEs1 G scope [condTE] [c] && chkP G scope (.pk 5) elt
  | _ => false
/-- if like != []: like[0].append(place); else: found.append([place]) -/
def chkAl2 (G : GT) (sc : Scope) : Stmt → Bool
  | .If tst [.Expr (.Call (.Attribute (.Subscript (.Name lk lp) ix sp) n ap) [pl] [] cp) ep] [els] _ => chkE G sc neTE tst && chkV G sc 4 lk && chkE G sc (.int 0) ix && isPlain ix && decide (n = ("append" : Str)) && chkE G sc (.var 2) pl && notStar pl && (ap.endLine == cp.line) && chkS G sc appTS els
  | _ => false
abbrev pk (k : Nat) : L2.TE := fun σ H Q => ∃ w, σ[k]? = some (some w) ∧ Q w H
section
variable {G : GT} {C : Cfg} {fa ca : Nat → Addr} {W : WX} {sc : Scope} {X : Cx}
theorem pk_sound (v : Ev G C fa ca W sc X) {k : Nat} {e : Expr} (h : chkP G sc (.pk k) e = true) : PE X e (pk k) := by
  unfold chkP at h; split at h <;> first | (cases h; done) | (rename_i q; cases q; done) | (rename_i q; cases q)
  exact pe_peek v h
theorem al1_sound (v : Ev G C fa ca W sc X) {st : Stmt} (h : chkAl1 G sc st = true) : PS X st (tAsg (tLc (iList X.K (pk 1)) (gT X.K (.n 5)) (rIfs X.K fa ca C WF [condTE]) (pk 5) [5]) (gName 4)) := by
  unfold chkAl1 at h; split at h <;> first | (cases h; done) | skip
  rename_i x px elt t f pf c a scope pe pos
  simp only [Bool.and_eq_true, decide_eq_true_eq] at h
  obtain ⟨⟨⟨⟨⟨⟨⟨⟨⟨h1, h2⟩, h3⟩, h4⟩, h5⟩, h6⟩, h7⟩, h8⟩, h9⟩, h10⟩ := h
  subst h1
  have ok := blk_ok v.S v.g.N h7
  have hk := ok.kind
  have L := lcp (pe := pe) v.g.calm v.g.nd (pi_list (tg := t) (pe_peek (px := pf) v h6)) ok (g := gT X.K (.n 5)) (tt := rIfs X.K fa ca C WF [condTE]) (te := pk 5)
    (fun s H Ca cl fp => s_tgt v.g.blk.calm v.g.blk.N v.g.blk.nd (SC.blk (X := X) hk).own h8) (fun s H Ca cl fp => sIfs [condTE] ⟨SC.blk hk, v.g.blk⟩ h9) (fun s H Ca cl fp => pk_sound ⟨SC.blk hk, v.g.blk⟩ h10) (fun y => rfl)
  have hi : X.N[4]? = some x := by rw [v.g.N]; exact h2
  unfold okSet at h4
  simp only [h5, Bool.true_and, Bool.not_true, Bool.or_false, Bool.and_eq_true] at h4
  have hloc := isLoc_ok v h5
  have sw := sw_true (elt := elt) (gs := [⟨t, .Name f pf, [c], 0⟩]) (l := pos.line) v.S.fnk hloc h4.1 (by simpa using h4.2)
  exact L.set hi hloc sw
theorem al2_sound (v : Ev G C fa ca W sc X) (hp : PassesOwn (model X.prog X.w) X.A X.env X.xe) {st : Stmt} (h : chkAl2 G sc st = true) : PS X st (tIfS (L2.tB (rE X.K fa ca C W neTE))
    (tDrop (tBM X.K "list" rAppend (tOp (rIxL X.K) (pk 4) (rE X.K fa ca C W (.int 0))) (tCons (rE X.K fa ca C W (.var 2)) tNil))) (tS X.K fa ca W G.P (exec C appTS))) := by
  unfold chkAl2 at h; split at h <;> first | (cases h; done) | skip
  rename_i tst lk lp ix sp n ap pl cp ep els pos
  simp only [Bool.and_eq_true, decide_eq_true_eq] at h
  obtain ⟨⟨⟨⟨⟨⟨⟨⟨h1, h2⟩, h3⟩, h4⟩, h5⟩, h6⟩, h7⟩, h8⟩, h9⟩ := h
  subst h5
  refine ps_if ((sE neTE v h1).2 rfl) (pss_one (ps_expr (pe_bm PySem.F.plainAttrs_list PySem.F.slot_list_append PySem.F.type_list_append (mtM_R mt_append) (pe_ix ix_list (pe_peek v h2) (sE (.int 0) v h3).1 (plainIx_of h4)) (pa_cons (sE (.var 2) v h6).1 pa_nil (starEach_of h7)) rfl (few_one h7) h8 (starEach_of h7) rfl) rfl)) (pss_one (sS appTS v hp h9))
end
end TL

set_option maxRecDepth 100000
set_option maxHeartbeats 4000000
namespace TL
open PySem PySem.Spec PyProof.Rows L2
section
variable {K : PySem.W.Frag} {fa ca : Nat → Addr} {C : Cfg} {W : WX} {Hf H H' : Hp} {σ : L2.St} {F : List Addr}
/-- everything looked at alone -/
theorem Stt.all {e : En} (h : relE K fa ca H H e σ []) : Stt K fa ca H H σ e [] := ⟨Same.refl _, h, List.nodup_nil, fun a ha => by cases ha⟩
theorem Fin.same {e : En} {Hf' : Hp} {F' Fv : List Addr} (f : Fin K fa ca H H [] Hf' H' σ e F' Fv) : Same H H' := fun a o h => f.ext.keep a o h (by simp)
/-- a lot's data -/
def dG (g : List Nat) : D := .lst (g.map fun (n : Nat) => .int (n : Int))
theorem toD_encG (g : List Nat) : (encG g).toD = dG g := by
  unfold encG dG O.toD
  congr 1
  induction g with
  | nil => rfl
  | cons a g ih => rw [List.map_cons, O.toDs, ih]; rfl
theorem dG_ok (n : Nat) (g : List Nat) : D.ok (n + 1) (dG g) = true := by
  unfold dG
  rw [D.ok]
  induction g with
  | nil => cases n <;> rfl
  | cons a g ih =>
    rw [List.map_cons, D.oks, ih]
    cases n <;> rfl
theorem dGs_ok (n : Nat) : ∀ L : List (List Nat), D.oks (n + 1) (L.map dG) = true
  | [] => rfl
  | g :: L => by rw [List.map_cons, D.oks, dG_ok, dGs_ok n L]; rfl
theorem oks_get {n : Nat} : ∀ {xs : List D} {i : Nat} {d : D}, D.oks n xs = true → xs[i]? = some d → D.ok n d = true
  | [], i, d, h, e => by simp at e
  | x :: xs, 0, d, h, e => by
    rw [D.oks, Bool.and_eq_true] at h
    simp at e; subst e; exact h.1
  | x :: xs, i + 1, d, h, e => by
    rw [D.oks, Bool.and_eq_true] at h
    exact oks_get h.2 (by simpa using e)
mutual
theorem ok_up : ∀ {n : Nat} {d : D}, D.ok n d = true → D.ok (n + 1) d = true
  | n, .non, h => by rw [D.ok]
  | n, .bl _, h => by rw [D.ok]
  | n, .int _, h => by rw [D.ok]
  | n, .str s, h => by rw [D.ok] at h ⊢; exact h
  | n + 1, .lst xs, h => by rw [D.ok] at h ⊢; exact oks_up h
  | n + 1, .tup xs, h => by rw [D.ok] at h ⊢; exact oks_up h
  | 0, .lst xs, h => by cases h
  | 0, .tup xs, h => by cases h
  | n, .dic, h => by cases n <;> cases h
  | n, .fn _, h => by cases n <;> cases h
  | n, .exc _ _, h => by cases n <;> cases h
  | n, .scr _, h => by cases n <;> cases h
theorem oks_up : ∀ {n : Nat} {xs : List D}, D.oks n xs = true → D.oks (n + 1) xs = true
  | n, [], h => by rw [D.oks]
  | n, x :: xs, h => by
    rw [D.oks, Bool.and_eq_true] at h ⊢
    exact ⟨ok_up h.1, oks_up h.2⟩
end
theorem ok_ups {n : Nat} {d : D} (h : D.ok n d = true) : ∀ m, D.ok (n + m) d = true
  | 0 => h
  | m + 1 => ok_up (ok_ups h m)
/-- the test of a lot -/
theorem cond_ok {vs : List D} {w : D} {g : List Nat} (hv : D.oks 50 vs = true) (hw : D.ok 50 w = true) (hg : g ≠ []) (hl : g.headD 0 < vs.length) : evalIfs C [condTE] [some (.frz (.lst vs)), none, none, some (.frz w), none, some (.frz (dG g))] = .ok (mtch vs w g) [some (.frz (.lst vs)), none, none, some (.frz w), none, some (.frz (dG g))] := by
  refine pIfs_ok ?_
  cases g with
  | nil => exact absurd rfl hg
  | cons a g =>
    simp only [List.headD_cons] at hl
    have h1 : subD (dG (a :: g)) (.int 0) = some (.int (a : Int)) := by simp [dG, subD, ixAt]
    have h2 : subD (.lst vs) (.int (a : Int)) = some vs[a] := by
      have : ixAt vs.length (a : Int) = some a := by
        unfold ixAt
        rw [if_pos (by omega), if_pos (by omega)]
        simp
      simp only [subD, this, Option.bind_some, List.getElem?_eq_getElem hl]
    have h3 : opC .eq vs[a] w = some (D.eq vs[a] w) := by
      have e1 := ok_ups (oks_get hv (List.getElem?_eq_getElem hl)) 10
      have e2 := ok_ups hw 10
      show (if D.ok 60 vs[a] && D.ok 60 w then some (D.eq vs[a] w) else none) = _
      rw [e1, e2]; rfl
    have h4 : mtch vs w (a :: g) = D.eq vs[a] w := by
      unfold mtch
      simp [List.getElem?_eq_getElem hl]
    rw [h4]
    simp [condTE, pIfs, pE, pV, En.at, PV.get, PV.sub, h1, h2, h3]
    cases D.eq vs[a] w <;> rfl
theorem ne_ok {L : List (List Nat)} : evalE C neTE [none, none, none, none, some (.frz (.lst (L.map dG))), none] = .ok (.bl (!L.isEmpty)) [none, none, none, none, some (.frz (.lst (L.map dG))), none] := by
  refine pE_ok ?_
  have h : opC .ne (.lst (L.map dG)) (.lst []) = some (!L.isEmpty) := by
    have e1 : D.ok 60 (.lst (L.map dG)) = true := by rw [D.ok]; exact dGs_ok 58 L
    have e2 : D.ok 60 (.lst []) = true := by rw [D.ok]; rfl
    show (if D.ok 60 (.lst (L.map dG)) && D.ok 60 (.lst []) then some (!D.eq (.lst (L.map dG)) (.lst [])) else none) = _
    rw [e1, e2]
    cases L <;> rfl
  simp [neTE, pE, pV, pF, pLs, En.at, PV.get, h]
/-- which lots are taken, with their places -/
def selL (vs : List D) (w : D) : List (List Nat) → List V → List (List Nat) × List V
  | g :: L, x :: xs => if mtch vs w g then (g :: (selL vs w L xs).1, x :: (selL vs w L xs).2) else selL vs w L xs
  | _, _ => ([], [])
theorem selL_snoc {vs : List D} {w : D} : ∀ {L : List (List Nat)} {xs : List V} {i : Nat} {g : List Nat} {x : V}, L[i]? = some g → xs[i]? = some x → selL vs w (L.take (i + 1)) (xs.take (i + 1)) = if mtch vs w g then ((selL vs w (L.take i) (xs.take i)).1 ++ [g], (selL vs w (L.take i) (xs.take i)).2 ++ [x]) else selL vs w (L.take i) (xs.take i)
  | [], xs, i, g, x, h, _ => by simp at h
  | g0 :: L, [], i, g, x, _, h => by simp at h
  | g0 :: L, x0 :: xs, 0, g, x, h, h' => by
    simp at h h'; subst h h'
    simp only [List.take_succ_cons, List.take_zero, selL]
    split <;> rfl
  | g0 :: L, x0 :: xs, i + 1, g, x, h, h' => by
    have ih := selL_snoc (vs := vs) (w := w) (L := L) (xs := xs) (i := i) (g := g) (x := x) (by simpa using h) (by simpa using h')
    simp only [List.take_succ_cons] at ih ⊢
    simp only [selL]
    rw [ih]
    cases mtch vs w g0 <;> cases mtch vs w g <;> simp
theorem selL_first {vs : List D} {w : D} : ∀ {L : List (List Nat)} {xs : List V}, L.length = xs.length → (selL vs w L xs).1 ≠ [] → ∃ (j : Nat) (g : List Nat) (x : V) (r : List (List Nat)) (r' : List V), L[j]? = some g ∧ xs[j]? = some x ∧ mtch vs w g = true ∧ (∀ a g', a < j → L[a]? = some g' → mtch vs w g' = false) ∧ selL vs w L xs = (g :: r, x :: r')
  | [], _, _, h => by simp [selL] at h
  | g :: L, [], hl, _ => by cases hl
  | g :: L, x :: xs, hl, h => by
    cases c : mtch vs w g with
    | true =>
      refine ⟨0, g, x, (selL vs w L xs).1, (selL vs w L xs).2, rfl, rfl, c, (fun a g' ha => by omega), ?_⟩
      simp [selL, c]
    | false =>
      have e : selL vs w (g :: L) (x :: xs) = selL vs w L xs := by simp [selL, c]
      rw [e] at h
      obtain ⟨j, g', x', r, r', h1, h2, h3, h4, h5⟩ := selL_first (by simpa using hl) h
      refine ⟨j + 1, g', x', r, r', by simpa using h1, by simpa using h2, h3, fun a g2 ha hg => ?_, by rw [e]; exact h5⟩
      cases a with
      | zero => simp at hg; subst hg; exact c
      | succ a => exact h4 a g2 (by omega) (by simpa using hg)
theorem selL_nil {vs : List D} {w : D} : ∀ {L : List (List Nat)} {xs : List V}, L.length = xs.length → (selL vs w L xs).1 = [] → ∀ g ∈ L, mtch vs w g = false
  | [], _, _, _, g, hg => by cases hg
  | g0 :: L, [], hl, _, _, _ => by cases hl
  | g0 :: L, x :: xs, hl, h, g, hg => by
    cases c : mtch vs w g0 with
    | true => simp [selL, c] at h
    | false =>
      rcases List.mem_cons.mp hg with z | z
      · subst z; exact c
      · exact selL_nil (by simpa using hl) (by simpa [selL, c] using h) g z
theorem selL_len {vs : List D} {w : D} : ∀ {L : List (List Nat)} {xs : List V}, (selL vs w L xs).1.length = (selL vs w L xs).2.length ∧ (selL vs w L xs).2.length ≤ xs.length
  | [], xs => by simp [selL]
  | _ :: _, [] => by simp [selL]
  | g :: L, x :: xs => by
    have := selL_len (vs := vs) (w := w) (L := L) (xs := xs)
    cases c : mtch vs w g <;> simp [selL, c] <;> omega
theorem selL_rep {vs : List D} {w : D} : ∀ {L : List (List Nat)} {xs : List V}, repDs K fa ca H (L.map dG) xs → repDs K fa ca H ((selL vs w L xs).1.map dG) (selL vs w L xs).2
  | [], _, h => by cases h; simp only [selL]; rfl
  | g :: L, _, ⟨x, r, h1, h2, h3⟩ => by
    subst h1
    have := selL_rep (vs := vs) (w := w) (L := L) h3
    cases c : mtch vs w g with
    | true => simp only [selL, c, if_true]; exact ⟨x, _, rfl, h2, this⟩
    | false => simp only [selL, c, Bool.false_eq_true, if_false]; exact this
end
end TL

set_option maxRecDepth 100000
set_option maxHeartbeats 4000000
namespace TL
open PySem PySem.Spec PyProof.Rows L2
section
variable {K : PySem.W.Frag} {fa ca : Nat → Addr} {C : Cfg} {W : WX} {Hf H H' : Hp} {σ : L2.St} {F : List Addr}
theorem repOs_encs : ∀ {L : List (List Nat)} {lvs : List V} {F : List Addr}, Same Hf H → repOs K fa ca Hf H (L.map encG) lvs F → repDs K fa ca H (L.map dG) lvs
  | [], _, _, _, h => h.1
  | g :: L, _, _, sm, ⟨v, r, F1, F2, h1, h2, h3, h4⟩ => by
    subst h1
    refine ⟨v, r, rfl, ?_, repOs_encs sm h4⟩
    have := repO_view sm h3
    rwa [toD_encG] at this
theorem alOk_parts {vs : List D} {w : D} {i : Int} {L : List (List Nat)} (h : alOk vs w i L = true) : D.oks 50 vs = true ∧ D.ok 50 w = true ∧ 0 ≤ i ∧ L.length < 4000000 ∧ ∀ g ∈ L, g ≠ [] ∧ g.headD 0 < vs.length ∧ g.length < 4000000 := by
  unfold alOk at h
  simp only [Bool.and_eq_true, decide_eq_true_eq, List.all_eq_true, Bool.not_eq_true'] at h
  obtain ⟨⟨⟨⟨h1, h2⟩, h3⟩, h4⟩, h5⟩ := h
  refine ⟨h1, h2, h3, h4, fun g hg => ?_⟩
  obtain ⟨⟨a, b⟩, c⟩ := h5 g hg
  exact ⟨(fun z => by subst z; cases a), b, c⟩
/-- the block's readings -/
theorem al_weak {X : Cx} {P : List Nat} {DD : Ends} {σ : L2.St} {H : Hp} (hP : P = []) (h : tS X.K fa ca W P gAl DD σ H) :
    tSeq (tAsg (tLc (iList X.K (pk 1)) (gT X.K (.n 5)) (rIfs X.K fa ca C WF [condTE]) (pk 5) [5]) (gName 4)) (tIfS (L2.tB (rE X.K fa ca C W neTE))
      (tDrop (tBM X.K "list" rAppend (tOp (rIxL X.K) (pk 4) (rE X.K fa ca C W (.int 0))) (tCons (rE X.K fa ca C W (.var 2)) tNil))) (tS X.K fa ca W P (exec C appTS))) DD σ H := by
  subst hP
  obtain ⟨Hf, e, F, S, h⟩ := h
  unfold gAl at h
  split at h
  · rename_i vs gs i w
    split at h
    · rename_i L hL
      split at h
      · rename_i hok
        have hgs := decL_ok hL
        subst hgs
        obtain ⟨hv, hw, hi, hLl, hg⟩ := alOk_parts hok
        have rel := S.rel
        -- the names
        obtain ⟨x0, σ, rfl⟩ : ∃ x r, σ = x :: r := by cases σ with | nil => exact rel.elim | cons x r => exact ⟨x, r, rfl⟩
        obtain ⟨v0, F0, F1, rfl, rfl, ⟨rfl, r0⟩, rel⟩ := rel
        obtain ⟨x1, σ, rfl⟩ : ∃ x r, σ = x :: r := by cases σ with | nil => exact rel.elim | cons x r => exact ⟨x, r, rfl⟩
        obtain ⟨v1, F1, F2, rfl, rfl, ⟨af, lvs, Fl, rfl, haf, rfl, hsz, rls⟩, rel⟩ := rel
        obtain ⟨x2, σ, rfl⟩ : ∃ x r, σ = x :: r := by cases σ with | nil => exact rel.elim | cons x r => exact ⟨x, r, rfl⟩
        obtain ⟨v2, F3, F4, rfl, rfl, ⟨rfl, r2⟩, rel⟩ := rel
        obtain ⟨x3, σ, rfl⟩ : ∃ x r, σ = x :: r := by cases σ with | nil => exact rel.elim | cons x r => exact ⟨x, r, rfl⟩
        obtain ⟨v3, F5, F6, rfl, rfl, ⟨rfl, r3⟩, rel⟩ := rel
        obtain ⟨x4, σ, rfl⟩ : ∃ x r, σ = x :: r := by cases σ with | nil => exact rel.elim | cons x r => exact ⟨x, r, rfl⟩
        obtain ⟨x5, σ, rfl⟩ : ∃ x r, σ = x :: r := by cases σ with | nil => exact rel.elim | cons x r => exact ⟨x, r, rfl⟩
        obtain rfl : σ = [] := by cases σ with | nil => rfl | cons x r => exact rel.elim
        obtain rfl : F6 = [] := rel
        have r2 : v2 = .int i := r2
        subst r2
        have smH := S.sub
        have dls := repOs_encs smH rls
        have hlen : L.length = lvs.length := by have := repDs_len dls; simpa using this
        -- the comprehension
        unfold tSeq tAsg tLc iList
        refine ⟨.ref af, rfl, af, rfl, ⟨lvs, SqL.of haf⟩, fun Dn hD => ?_⟩
        let Iv : Nat → Hp → Prop := fun j Hx => Same H Hx ∧ Hx Dn = some (.lst (selL vs w (L.take j) (lvs.take j)).2)
        refine ⟨fun j m Hx => m = L.length - j ∧ j ≤ L.length ∧ Iv j Hx, ⟨L.length, rfl, Nat.zero_le _, fun a o ha => by rw [upd_ne (ne_of_none ha hD)]; exact ha, by rw [upd_same]; simp [selL]⟩, ?_⟩
        rintro j m Hx ⟨rfl, hj, sx, hx⟩
        have hafx := sx _ _ haf
        by_cases hlt : j < L.length
        · refine .inr ⟨⟨lvs, lvs[j]'(by omega), SqL.of hafx, List.getElem?_eq_getElem (by omega)⟩, Iv (j + 1), fun Hy hy => ⟨L.length - (j + 1), by omega, rfl, hlt, hy⟩, ?_⟩
          rintro x Hx' ⟨rfl, hxv⟩
          have hxj := hxv lvs (SqL.of hafx)
          obtain ⟨gx, hgx, rgx⟩ := repDs_get' dls hxj
          have hgL : L[j]? = some L[j] := List.getElem?_eq_getElem hlt
          have : gx = dG L[j] := by
            rw [List.getElem?_map, hgL] at hgx
            simpa using hgx.symm
          subst this
          obtain ⟨hg1, hg2, hg3⟩ := hg L[j] (List.getElem_mem hlt)
          refine ⟨rfl, Hx', [some (.frz (.lst vs)), none, none, some (.frz w), none, some (.frz (dG L[j]))], [], Stt.all ?_, ?_⟩
          · have sm : Same Hf Hx' := smH.trans sx
            exact ⟨v0, [], [], rfl, rfl, ⟨rfl, repD_mono sm r0⟩, v3, [], [], rfl, rfl, ⟨rfl, repD_mono sm r3⟩, x, [], [], rfl, rfl, ⟨rfl, repD_mono sx rgx⟩, rfl⟩
          · show Go X.K fa ca WF (RB X.K fa ca) (evalIfs C [condTE] _) _ _ _ _ _
            rw [cond_ok (C := C) hv hw hg1 hg2]
            rintro b Hf2 H2 F2 Fv2 f2 ⟨rfl, rfl⟩
            have s2 := f2.same
            have hd2 := s2 _ _ hx
            have snoc := selL_snoc (vs := vs) (w := w) hgL hxj
            cases c : mtch vs w L[j] with
            | true =>
              rw [c] at snoc
              simp only [if_true] at snoc ⊢
              refine ⟨x, rfl, _, hd2, ?_, fun a o ha => ?_, ?_⟩
              · have := (selL_len (vs := vs) (w := w) (L := L.take j) (xs := lvs.take j)).2
                rw [List.length_take] at this
                rw [sizeLine_eq]
                omega
              · rw [upd_ne (ne_of_none ha hD)]; exact s2 _ _ (sx _ _ ha)
              · rw [upd_same, snoc]
            | false =>
              rw [c] at snoc
              simp only [Bool.false_eq_true, if_false] at snoc ⊢
              exact ⟨sx.trans s2, by rw [snoc]; exact hd2⟩
        · obtain rfl : j = L.length := by omega
          refine .inl ⟨⟨lvs, SqL.of hafx, by omega⟩, ?_⟩
          rw [List.take_length, List.take_of_length_le (by omega)] at hx
          -- like != []
          unfold gName tIfS L2.tB
          dsimp only
          have hsel := selL_len (vs := vs) (w := w) (L := L) (xs := lvs)
          have dsel := selL_rep (vs := vs) (w := w) (K := X.K) (fa := fa) (ca := ca) (repDs_mono sx dls)
          generalize hS : selL vs w L lvs = Sel at hx hsel dsel
          refine ⟨Hx, [none, none, none, none, some (.frz (.lst (Sel.1.map dG))), none], [], Stt.all ⟨.ref Dn, [], [], rfl, rfl, ⟨rfl, Dn, Sel.2, rfl, hx, by rw [List.length_map, sizeLine_eq]; omega, dsel⟩, rfl⟩, ?_⟩
          show Go X.K fa ca W (RD X.K fa ca) (evalE C neTE _) _ _ _ _ _
          rw [ne_ok]
          rintro v Hf3 H3 F3 Fv3 f3 ⟨rfl, rv⟩
          have s3 := sx.trans f3.same
          have hd3 := f3.same _ _ hx
          refine ⟨_, rv, ?_⟩
          -- the state behind it
          have st : ∀ {H4 : Hp}, Same H H4 → Fin X.K fa ca Hf H (([] : List Addr) ++ (af :: Fl ++ ([] ++ ([] ++ [])))) Hf H4 [some v0, some (.ref af), some (.int i), some v3, some (.ref Dn), x5] [some (.frz (.lst vs)), some (.lst (L.map encG)), some (.frz (.int i)), some (.frz w), none, none] (([] : List Addr) ++ (af :: Fl ++ ([] ++ ([] ++ [])))) [] := by
            intro H4 s4
            have fr : ∀ a ∈ (([] : List Addr) ++ (af :: Fl ++ ([] ++ ([] ++ [])))), H4 a = H a := fun a ha => by
              obtain ⟨vs', hv'⟩ := relE_mem S.rel a ha
              rw [s4 _ _ hv', hv']
            have rel4 := relE_frame (H' := H4) (Same.refl Hf) fr S.rel
            refine ⟨⟨smH.trans s4, relE_sig rel4 rfl fun k o ho => ?_, S.nd, S.dis⟩, by simpa using S.nd, by simp, Same.refl _, fun a o ha _ => s4 _ _ ha, fun a ha => ?_⟩
            · match k with
              | 0 => rfl
              | 1 => rfl
              | 2 => rfl
              | 3 => rfl
              | 4 => simp [En.at] at ho
              | 5 => rfl
              | k + 6 => rfl
            · rcases ha with z | z
              · exact .inl (by simpa using z)
              · exact .inr (.inl z)
          cases hE : Sel.1 with
          | nil =>
            -- a new lot
            show tS X.K fa ca W [] (exec C appTS) DD _ H3
            have f := st s3
            refine ⟨Hf, _, _, f.st, ?_⟩
            have hn := selL_nil (vs := vs) (w := w) hlen (by rw [hS]; exact hE)
            have hput : alPut vs w i L = L ++ [[i.toNat]] := addL_none hn
            rw [hput] at h
            have hex : exec C appTS [some (.frz (.lst vs)), some (.lst (L.map encG)), some (.frz (.int i)), some (.frz w), none, none] = .next [some (.frz (.lst vs)), some (.lst ((L ++ [[i.toNat]]).map encG)), some (.frz (.int i)), some (.frz w), none, none] := by
              have hll : L.length < listLine := by unfold listLine; omega
              simp [appTS, exec, isLstAt, En.at, evalEs, evalO, evalF, evalLs, evalE, O.toD, En.put, Res.bind, Res.st, En.modAt, O.modAt, appO, hll, optF, encG, Int.toNat_of_nonneg hi]
            rw [hex]
            exact h.from f fun k hk => by cases hk
          | cons g1 r1 =>
            -- the first of them
            rw [if_pos (by rfl)]
            unfold tDrop tBM tOp tCons
            obtain ⟨j, g, x, r, r', q1, q2, q3, q4, q5⟩ := selL_first (vs := vs) (w := w) hlen (by rw [hS, hE]; exact List.cons_ne_nil _ _)
            rw [hS] at q5
            subst q5
            refine ⟨.ref Dn, rfl, H3, [none, none, none, none, none, none], [], Stt.all rfl, ?_⟩
            show Go X.K fa ca W (RD X.K fa ca) (evalE C (.int 0) _) _ _ _ _ _
            rw [show evalE C (.int 0) [none, none, none, none, none, none] = .ok (.int 0) [none, none, none, none, none, none] from by rw [evalE]]
            rintro y Hf4 H4 F4 Fv4 f4 ⟨rfl, ry⟩
            have ry : y = .int 0 := ry
            subst ry
            have s4 := s3.trans f4.same
            have hd4 := f4.same _ _ hd3
            -- the lot's place
            obtain ⟨o, Fl1, Fx, Fr1, u1, u2, u3, u4⟩ := repOs_at rls (j := j) (o := encG g) (by rw [List.getElem?_map, q1]; rfl)
            rw [q2] at u1
            cases u1
            obtain ⟨aj, ivs, Fz, rfl, haj, rfl, hsz2, ris⟩ := u3
            obtain ⟨hFz, rid⟩ := allFrz_rep (ds := g.map fun (n : Nat) => D.int (n : Int)) (by rw [show (g.map fun (n : Nat) => O.frz (.int (n : Int))) = (g.map fun (n : Nat) => D.int (n : Int)).map O.frz from by rw [List.map_map]; rfl]; exact allFrz_map _) ris
            subst hFz
            have hil : g.length = ivs.length := by have := repDs_len rid; simpa using this
            have hg3 := (hg g (List.mem_of_getElem? q1)).2.2
            refine ⟨Dn, _, 0, .ref aj, rfl, rfl, SqL.of hd4, (by unfold atI; rw [← ixAt_eq]; simp [ixAt]), ?_⟩
            refine ⟨.inl ⟨rfl, ivs, SqL.of (s4 _ _ haj)⟩, H4, [none, none, some (.frz (.int i)), none, none, none], [], Stt.all ⟨.int i, [], [], rfl, rfl, ⟨rfl, rfl⟩, rfl⟩, ?_⟩
            show Go X.K fa ca W (RD X.K fa ca) (evalE C (.var 2) _) _ _ _ _ _
            rw [show evalE C (.var 2) [none, none, some (.frz (.int i)), none, none, none] = .ok (.int i) [none, none, some (.frz (.int i)), none, none, none] from by simp [evalE, En.at, En.put, O.toD]]
            rintro y Hf5 H5 F5 Fv5 f5 ⟨rfl, ry⟩
            have ry : y = .int i := ry
            subst ry
            have s5 := s4.trans f5.same
            refine ⟨aj, ivs, .int i, rfl, rfl, s5 _ _ haj, by rw [sizeLine_eq]; omega, ?_⟩
            -- what stands then
            have f := st s5
            have hput : alPut vs w i L = L.set j (g ++ [i.toNat]) := addL_some q1 q3 q4
            rw [hput] at h
            subst u2
            have nd := S.nd
            have naf : aj ≠ af := by
              intro z
              subst z
              simp at nd
            have nl : ∀ a ∈ Fl1 ++ Fr1, a ≠ aj := by
              intro a ha z
              subst z
              have := List.nodup_iff_count.mp nd a
              have hb := List.count_pos_iff.mpr ha
              simp only [List.nil_append, List.append_nil, List.count_append, List.count_cons, beq_self_eq_true, if_true] at this hb
              omega
            have hfj : Hf aj = none := S.dis aj (by simp)
            have hHa : ∀ a ∈ Fl1 ++ ([aj] ++ Fr1), H5 a = H a := fun a ha => by
              obtain ⟨vs', hv'⟩ := repOs_mem rls a ha
              rw [s5 _ _ hv', hv']
            have rnew : repO X.K fa ca Hf (upd H5 aj (.lst (ivs ++ [.int i]))) (encG (g ++ [i.toNat])) (.ref aj) [aj] := by
              refine ⟨aj, ivs ++ [.int i], [], rfl, upd_same, rfl, by simp; rw [sizeLine_eq]; omega, ?_⟩
              rw [show ((g ++ [i.toNat]).map fun (n : Nat) => O.frz (.int (n : Int))) = ((g.map fun (n : Nat) => D.int (n : Int)) ++ [D.int i]).map O.frz from by simp [Int.toNat_of_nonneg hi]]
              exact repOs_frz (repDs_append rid ⟨_, _, rfl, rfl, rfl⟩)
            have rls' := u4 (o' := encG (g ++ [i.toNat])) (v' := .ref aj) (F1' := [aj]) (H' := upd H5 aj (.lst (ivs ++ [.int i]))) (Same.refl Hf) (fun a ha => by
              rw [upd_ne (nl a ha)]
              exact hHa a (by rcases List.mem_append.mp ha with z | z <;> simp [z])) rnew
            have hset : lvs.set j (.ref aj) = lvs := by
              obtain ⟨h1, h2⟩ := List.getElem?_eq_some_iff.mp q2
              rw [← h2]; exact List.set_getElem_self h1
            rw [hset, show (L.map encG).set j (encG (g ++ [i.toNat])) = (L.set j (g ++ [i.toNat])).map encG from List.map_set.symm] at rls'
            refine h Hf _ _ _ (f.upd (a := aj) (o := .lst (ivs ++ [.int i])) (by simp) (F2 := ([] : List Addr) ++ (af :: (Fl1 ++ ([aj] ++ Fr1)) ++ ([] ++ ([] ++ [])))) ?_ nd (fun b hb => by simpa using hb)) fun k hk => by cases hk
            refine ⟨v0, [], _, rfl, rfl, ⟨rfl, r0⟩, .ref af, af :: (Fl1 ++ ([aj] ++ Fr1)), _, rfl, rfl, ⟨af, lvs, _, rfl, ?_, rfl, by simpa using hsz, rls'⟩, .int i, [], _, rfl, rfl, ⟨rfl, rfl⟩, v3, [], _, rfl, rfl, ⟨rfl, r3⟩, rfl⟩
            rw [upd_ne (fun z => naf z.symm)]
            exact s5 _ _ haf
      · exact h.elim
    · exact h.elim
  · exact h.elim
end
end TL

set_option maxRecDepth 100000
set_option maxHeartbeats 4000000
namespace TL
open PySem PySem.Spec PyProof.Rows L2
/-! ### the whole def -/
def asgTS : TS := .asg 1 (.f (.lst []))
def retTS : TS := .ret (.mv 1)
def forT : TT := .t [.n 2, .n 3]
def forI : TI := .enum (.var 0)
def bodyG (C : Cfg) (e : En) : FRes := (exec C asgTS e).bind fun e => (execFor C forT forI gAl e).bind (exec C retTS)
def chkAl (G : GT) (sc : Scope) : List Stmt → Bool
  | [a, .For tg i [s1, s2] [] _, r] => chkS G sc asgTS a && chkI G sc forI tg i && notSet i && chkT G sc forT tg && chkAl1 G sc s1 && chkAl2 G sc s2 && chkS G sc retTS r
  | _ => false
section
variable {G : GT} {C : Cfg} {fa ca : Nat → Addr} {W : WX} {sc : Scope} {X : Cx}
theorem al_body (v : Ev G C fa ca W sc X) (hp : PassesOwn (model X.prog X.w) X.A X.env X.xe) (hP : G.P = []) {body : List Stmt} (h : chkAl G sc body = true) : PSs X body (tS X.K fa ca W G.P (bodyG C)) := by
  unfold chkAl at h; split at h <;> first | (cases h; done) | skip
  rename_i a tg i s1 s2 pos r
  simp only [Bool.and_eq_true] at h
  obtain ⟨⟨⟨⟨⟨⟨h1, h2⟩, h3⟩, h4⟩, h5⟩, h6⟩, h7⟩ := h
  have hb : PSs X [s1, s2] (tS X.K fa ca W G.P gAl) := (pss_cons (al1_sound v h5) (pss_one (al2_sound v hp h6))).weak fun D σ H q => al_weak hP q
  have hf : PS X (.For tg i [s1, s2] [] pos) (tS X.K fa ca W G.P (execFor C forT forI gAl)) := (ps_for hp v.g.calm (sI forI v h2) (s_tgt v.g.calm v.g.N v.g.nd v.S.own h4) hb (folded_of h3)).weak fun D σ H q => for_weakG (fun k _ z => by rw [hP] at z; cases z) q
  have h8 : PSs X [.For tg i [s1, s2] [] pos, r] (tS X.K fa ca W G.P fun e => (execFor C forT forI gAl e).bind (exec C retTS)) :=
    (pss_cons hf (pss_one (sS retTS v hp h7))).weak fun D σ H ⟨Hf, e, F, S, q⟩ => ⟨Hf, e, F, S, GoS.seq (D' := { D with nx := tS X.K fa ca W G.P (exec C retTS) D }) q rfl rfl⟩
  exact (pss_cons (sS asgTS v hp h1) h8).weak fun D σ H ⟨Hf, e, F, S, q⟩ => ⟨Hf, e, F, S, GoS.seq (D' := { D with nx := tS X.K fa ca W G.P (fun e => (execFor C forT forI gAl e).bind (exec C retTS)) D }) q rfl rfl⟩
end
/-! ### what it computes -/
def lotOk (i : Nat) (n : Nat) (g : List Nat) : Prop := g ≠ [] ∧ g.headD 0 < n ∧ g.length ≤ i
theorem addL_inv {vs : List D} {w : D} {i n : Nat} (hi : i < n) : ∀ {L : List (List Nat)}, (∀ g ∈ L, lotOk i n g) → (∀ g ∈ addL vs w i L, lotOk (i + 1) n g) ∧ (addL vs w i L).length ≤ L.length + 1
  | [], _ => by
    refine ⟨fun g hg => ?_, by simp [addL]⟩
    simp only [addL, List.mem_singleton] at hg
    subst hg
    exact ⟨by simp, by simpa using hi, by simp⟩
  | g0 :: L, h => by
    have h0 := h g0 List.mem_cons_self
    have ih := addL_inv (vs := vs) (w := w) hi fun g hg => h g (List.mem_cons_of_mem _ hg)
    have up : ∀ g, lotOk i n g → lotOk (i + 1) n g := fun g hg => ⟨hg.1, hg.2.1, by have := hg.2.2; omega⟩
    rw [addL]
    split
    · refine ⟨fun g hg => ?_, by simp⟩
      rcases List.mem_cons.mp hg with z | z
      · subst z
        refine ⟨by simp, ?_, by have := h0.2.2; simp; omega⟩
        cases g0 with
        | nil => exact absurd rfl h0.1
        | cons a g0 => simpa using h0.2.1
      · exact up g (h g (List.mem_cons_of_mem _ z))
    · refine ⟨fun g hg => ?_, by simp; have := ih.2; omega⟩
      rcases List.mem_cons.mp hg with z | z
      · subst z; exact up g h0
      · exact ih.1 g z
theorem al_loop {vs : List D} (hv : D.oks 50 vs = true) (hn : vs.length < 4000000) : ∀ (d i : Nat) (L : List (List Nat)) (o2 o3 : Option O), i + d = vs.length → (∀ g ∈ L, lotOk i vs.length g) → L.length ≤ i → ∃ p2 p3, loopF (fun d e => match bindT forT d e with | some e => gAl e | none => .stuck) (((vs.drop i).zipIdx i).map fun p => D.tup [.int (p.2 : Nat), p.1]) [some (.frz (.lst vs)), some (.lst (L.map encG)), o2, o3, none, none] = .next [some (.frz (.lst vs)), some (.lst ((groupsL vs (vs.drop i) i L).map encG)), p2, p3, none, none]
  | 0, i, L, o2, o3, h, _, _ => by
    rw [List.drop_eq_nil_of_le (by omega)]
    exact ⟨o2, o3, rfl⟩
  | d + 1, i, L, o2, o3, h, hL, hl => by
    have hi : i < vs.length := by omega
    have inv := addL_inv (vs := vs) (w := vs[i]) hi hL
    obtain ⟨p2, p3, ih⟩ := al_loop hv hn d (i + 1) (addL vs vs[i] i L) (some (.frz (.int (i : Int)))) (some (.frz vs[i])) (by omega) inv.1 (by have := inv.2; omega)
    refine ⟨p2, p3, ?_⟩
    rw [List.drop_eq_getElem_cons hi, groupsL, List.zipIdx_cons, List.map_cons, loopF, ← ih]
    have hok : alOk vs vs[i] (i : Int) L = true := by
      unfold alOk
      simp only [Bool.and_eq_true, decide_eq_true_eq, List.all_eq_true, Bool.not_eq_true', List.isEmpty_eq_false_iff]
      refine ⟨⟨⟨⟨hv, oks_get hv (List.getElem?_eq_getElem hi)⟩, by omega⟩, by omega⟩, fun g hg => ?_⟩
      obtain ⟨a, b, c⟩ := hL g hg
      exact ⟨⟨a, b⟩, by omega⟩
    have hg : gAl [some (.frz (.lst vs)), some (.lst (L.map encG)), some (.frz (.int (i : Int))), some (.frz vs[i]), none, none] = .next [some (.frz (.lst vs)), some (.lst ((addL vs vs[i] i L).map encG)), some (.frz (.int (i : Int))), some (.frz vs[i]), none, none] := by
      simp only [gAl, decL_enc, hok, if_true, alPut, Int.toNat_natCast]
    have hb : bindT forT (.tup [.int (i : Nat), vs[i]]) [some (.frz (.lst vs)), some (.lst (L.map encG)), o2, o3, none, none] = some [some (.frz (.lst vs)), some (.lst (L.map encG)), some (.frz (.int (i : Int))), some (.frz vs[i]), none, none] := by
      simp [forT, bindT, bindTs, En.put]
    simp only [hb, hg, FRes.bind]
theorem al_comp {C : Cfg} {vs : List D} (hv : D.oks 50 vs = true) (hn : vs.length < 4000000) : ∃ p2 p3, bodyG C [some (.frz (.lst vs)), none, none, none, none, none] = .ret (.lst ((groupsL vs vs 0 []).map encG)) [some (.frz (.lst vs)), none, p2, p3, none, none] := by
  obtain ⟨p2, p3, h⟩ := al_loop hv hn vs.length 0 [] none none (by omega) (fun g hg => by cases hg) (by simp)
  rw [List.drop_zero] at h
  refine ⟨p2, p3, ?_⟩
  have h1 : exec C asgTS [some (.frz (.lst vs)), none, none, none, none, none] = .next [some (.frz (.lst vs)), some (.lst ([].map encG)), none, none, none, none] := by
    simp [asgTS, exec, evalO, evalF, evalLs, Res.bind, Res.st, En.put]
  have h2 : execFor C forT forI gAl [some (.frz (.lst vs)), some (.lst ([].map encG)), none, none, none, none] = .next [some (.frz (.lst vs)), some (.lst ((groupsL vs vs 0 []).map encG)), p2, p3, none, none] := by
    unfold execFor
    have hI : evalI C forI [some (.frz (.lst vs)), some (.lst ([].map encG)), none, none, none, none] = .ok (enumD vs) [some (.frz (.lst vs)), some (.lst ([].map encG)), none, none, none, none] := by
      simp [forI, evalI, evalE, En.at, En.put, O.toD, Res.bind]
    rw [hI]
    exact h
  unfold bodyG
  rw [h1]
  simp only [FRes.bind]
  rw [h2]
  simp [FRes.bind, retTS, exec, evalO, En.at, Res.st]
section
variable {Pg : Program} {w : World} {K : PySem.W.Frag} {mg : Str → Option Value} {base : Heap} {fa ca : Nat → Addr} {fns : List (Str × List Str)} {globs : List Str} {gl : Nat → Option D} {P : List TDef} {n : (En → Res D) → (En → FRes) → En → FRes}
/-- a def of alike places keeps its promise -/
theorem has_al (lp : LoopOk n) (pf : PF K mg fa ca fns globs gl) {k f : Nat} {ps : List Str} {G : GT} (hfd : ∃ x qual params body scope fd, FunD K x qual params body scope [] [] (fa f) fd ∧ FnScope G.N ps scope ∧ Binds K fd ps [] ∧ chkAl G scope body = true) (hps : ps.length = 1) (hN : G.N.length = 6) (hP : G.P = []) (hfns : G.fns = fns) (hglobs : G.globs = globs)
    (ih : ∀ f x ps, fns[f]? = some (x, ps) → Has Pg w K mg base fa ca k f ps (callT P gl n k f)) : Has Pg w K mg base fa ca (k + 1) f ps x_alike_in := by
  obtain ⟨x, qual, params, body, scope, fd, F, S, hb, hchk⟩ := hfd
  refine ⟨fd, F.ok S (fun vs H Q E h => h.1) (fun cdv A outer s H vs Q E hr h => ?_), hb, Lk.of F⟩
  obtain ⟨hv, Hf, os, F0, st, h⟩ := h
  generalize hX : cxOf (L2.CX Pg w) Pg w K mg base G.N qual scope (fa f) cdv A outer s H E = X
  have tk : Takes X (fun cls d _ H => E cls d H) := by subst hX; exact takes_of rfl rfl rfl rfl
  have ow : PassesOwn (model X.prog X.w) X.A X.env X.xe := by subst hX; exact passes_of rfl
  have sc : SC scope X := by
    subst hX
    refine ⟨fun x h => ?_, fun x h => ?_, fun x h => ?_, fun x h => h, fun x => Iff.rfl, S.kind⟩
    · unfold isVis at h
      show Vis scope x
      split at h
      · exact .inl (by assumption)
      · exact .inr (.inl (by assumption))
      · exact .inr (.inr (by assumption))
      · cases h
    · unfold isGlo at h
      show scope.names.lookup x = _
      split at h
      · assumption
      · cases h
    · unfold isOwn at h
      show Loc scope x ∧ _
      split at h
      · exact ⟨.inl (by assumption), .inl rfl⟩
      · exact ⟨.inr (by assumption), .inl rfl⟩
      · cases h
  have gx : GX G ⟨callT P gl n k, gl, n⟩ fa ca (fun cls d _ H => E cls d H) X := by
    subst hX
    refine ⟨rfl, S.nd, rfl, hr.mono (Nat.zero_le _), lp, tk, pf.blt, fun f' x' ps' hf => ?_, fun g x hg => pf.glob g x (by rw [← hglobs]; exact hg)⟩
    rw [hfns] at hf
    obtain ⟨h1, h2⟩ := pf.fn f' x' ps' hf
    obtain ⟨fd', h3, h4, _⟩ := ih f' x' ps' hf
    exact ⟨h1, h2, k, fd', h3, hr, h4⟩
  have ev : Ev G ⟨callT P gl n k, gl, n⟩ fa ca (fun cls d _ H => E cls d H) scope X := ⟨sc, gx⟩
  have hK : X.K = K := by subst hX; rfl
  refine ⟨_, al_body ev ow hP hchk, ?_⟩
  rw [hK]
  have hlo : os.length = 1 := by
    have := relE_len st.rel
    simp only [List.length_map] at this
    rw [this, hv, hps]
  have hvl : vs.length = 1 := by rw [hv, hps]
  have hstart : L2.start G.N vs = vs.map some ++ List.replicate 5 none := by
    unfold L2.start
    rw [hN, hvl]
  obtain ⟨Hf1, F1, f1⟩ := start_st (bor := [false]) 5 (by rw [hlo]; rfl) st
  rw [hstart]
  match os, hlo with
  | [o], _ =>
  match vs, hvl with
  | [u], _ =>
  cases hd : o.toD with
  | lst ds =>
    cases hc : (D.oks 50 ds && decide (ds.length < 4000000)) with
    | true =>
      have hx : x_alike_in [o] = .ok (.lst ((groupsL ds ds 0 []).map encG)) [none] := by simp only [x_alike_in, hd, hc, if_true]
      rw [hx] at h
      rw [Bool.and_eq_true, decide_eq_true_eq] at hc
      obtain ⟨p2, p3, hcomp⟩ := al_comp (C := ⟨callT P gl n k, gl, n⟩) hc.1 hc.2
      have est : frzL [false] [o] ++ List.replicate 5 none = [some (.frz (.lst ds)), none, none, none, none, none] := by
        show [some (O.frz o.toD), none, none, none, none, none] = _
        rw [hd]
      rw [est] at f1
      refine ⟨Hf1, _, F1, f1.st, ?_⟩
      rw [hcomp]
      intro v Hf' H' σ' F' Fv fin hPk ro
      have c := f1.comp fin
      exact h v Hf' H' [] Fv (c.sub' (List.nil_sublist _) rfl) ro
    | false =>
      have hx : x_alike_in [o] = .stuck := by simp only [x_alike_in, hd, hc, Bool.false_eq_true, if_false]
      rw [hx] at h
      exact h.elim
  | _ =>
    have hx : x_alike_in [o] = .stuck := by simp only [x_alike_in, hd]
    rw [hx] at h
    exact h.elim
end
end TL

set_option maxRecDepth 100000
set_option maxHeartbeats 0
namespace TL
open PySem
/-! the defs: 0 is_whole, 1 common_divisor, 2 lowest, 3 is_fraction, 4 is_amount, 5 plus, 6 times, 7 over, 8 is_less, 9 summed, 10 are_chances, 11 are_fractions, 12 greatest, 13 product, 14 is_look_by, 15 check_look, 16 standings_of, 17 marks_of, 18 column_of, 19 is_belief_by, 20 check_belief, 21 is_game_by, 22 check_game, 23 is_lot_of, 24 ordered, 25 are_parts_of, 26 how_many, 27 check_parts, 28 check_both, 29 check_lot, 30 alike_in, 31 number_of, 32 sure_look, 33 lies_in, 34 both_by, 35 both_parts, 36 known_by, 37 both_know, 38 known_along, 39 known_by_all, 40 check_told, 41 likely_by, 42 tellings, 43 told_in_turn, 44 agreed_by, 45 agreed, 46 check_asked, 47 weighed, 48 pays_at, 49 worth_by, 50 worth, 51 _law_hash, 52 _law_random, 53 _law_cell, 54 _law_generator, 55 _law_frac, 56 _law_below, 57 _law_exact, 58 _law_game, 59 _law_drawn_parts, 60 _law_full, 61 _law_known_right, 62 _law_worths_right, 63 law -/
/-- is_whole: 0 value -/
def t_is_whole : TDef := { np := 1, nv := 1, bor := [false], body := [
  .ret (.e (.and_ [.isi (.e (.var 0)) [.int], .not_ (.isi (.e (.var 0)) [.bool])]))] }
def n_is_whole : List Str := ["value"]
/-- common_divisor: 0 one 1 other -/
def t_common_divisor : TDef := { np := 2, nv := 2, bor := [false, false], body := [
  .par [0, 1] [.e (.blt .abs [.e (.var 0)]), .e (.blt .abs [.e (.var 1)])],
  .while_ (.cmp .gt (.e (.var 1)) (.e (.int 0))) [.par [0, 1] [.e (.var 1), .e (.bin .mod (.e (.var 0)) (.e (.var 1)))]],
  .ret (.e (.var 0))] }
def n_common_divisor : List Str := ["one", "other"]
/-- lowest: 0 top 1 under 2 common -/
def t_lowest : TDef := { np := 2, nv := 3, bor := [false, false], body := [
  .if_ (.cmp .lt (.e (.var 1)) (.e (.int 0))) [.par [0, 1] [.e (.bin .sub (.e (.int 0)) (.e (.var 0))), .e (.bin .sub (.e (.int 0)) (.e (.var 1)))]] [],
  .asg 2 (.e (.call 1 [.d (.var 0), .d (.var 1)] [])),
  .ret (.e (.tup [.e (.bin .fdiv (.e (.var 0)) (.e (.var 2))), .e (.bin .fdiv (.e (.var 1)) (.e (.var 2)))]))] }
def n_lowest : List Str := ["top", "under", "common"]
/-- is_fraction: 0 value -/
def t_is_fraction : TDef := { np := 1, nv := 1, bor := [false], body := [
  .if_ (.or_ [.not_ (.isi (.e (.var 0)) [.tuple]), .cmp .ne (.e (.blt .len [.e (.var 0)])) (.e (.int 2)), .not_ (.call 0 [.d (.sub (.e (.var 0)) (.int 0))] []), .not_ (.call 0 [.d (.sub (.e (.var 0)) (.int 1))] [])]) [.ret (.e (.bl false))] [],
  .ret (.e (.and_ [.cmp .gt (.e (.sub (.e (.var 0)) (.int 1))) (.e (.int 0)), .cmp .eq (.e (.call 1 [.d (.sub (.e (.var 0)) (.int 0)), .d (.sub (.e (.var 0)) (.int 1))] [])) (.e (.int 1))]))] }
def n_is_fraction : List Str := ["value"]
/-- is_amount: 0 value -/
def t_is_amount : TDef := { np := 1, nv := 1, bor := [false], body := [
  .ret (.e (.and_ [.call 3 [.d (.var 0)] [], .cmp .ge (.e (.sub (.e (.var 0)) (.int 0))) (.e (.int 0))]))] }
def n_is_amount : List Str := ["value"]
/-- plus: 0 one 1 other -/
def t_plus : TDef := { np := 2, nv := 2, bor := [false, false], body := [
  .ret (.call 2 [.d (.bin .add (.e (.bin .mul (.e (.sub (.e (.var 0)) (.int 0))) (.e (.sub (.e (.var 1)) (.int 1))))) (.e (.bin .mul (.e (.sub (.e (.var 1)) (.int 0))) (.e (.sub (.e (.var 0)) (.int 1)))))), .d (.bin .mul (.e (.sub (.e (.var 0)) (.int 1))) (.e (.sub (.e (.var 1)) (.int 1))))] [])] }
def n_plus : List Str := ["one", "other"]
/-- times: 0 one 1 other -/
def t_times : TDef := { np := 2, nv := 2, bor := [false, false], body := [
  .ret (.call 2 [.d (.bin .mul (.e (.sub (.e (.var 0)) (.int 0))) (.e (.sub (.e (.var 1)) (.int 0)))), .d (.bin .mul (.e (.sub (.e (.var 0)) (.int 1))) (.e (.sub (.e (.var 1)) (.int 1))))] [])] }
def n_times : List Str := ["one", "other"]
/-- over: 0 one 1 other -/
def t_over : TDef := { np := 2, nv := 2, bor := [false, false], body := [
  .ret (.call 2 [.d (.bin .mul (.e (.sub (.e (.var 0)) (.int 0))) (.e (.sub (.e (.var 1)) (.int 1)))), .d (.bin .mul (.e (.sub (.e (.var 0)) (.int 1))) (.e (.sub (.e (.var 1)) (.int 0))))] [])] }
def n_over : List Str := ["one", "other"]
/-- is_less: 0 one 1 other -/
def t_is_less : TDef := { np := 2, nv := 2, bor := [false, false], body := [
  .ret (.e (.cmp .lt (.e (.bin .mul (.e (.sub (.e (.var 0)) (.int 0))) (.e (.sub (.e (.var 1)) (.int 1))))) (.e (.bin .mul (.e (.sub (.e (.var 1)) (.int 0))) (.e (.sub (.e (.var 0)) (.int 1)))))))] }
def n_is_less : List Str := ["one", "other"]
/-- summed: 0 some 1 found 2 one -/
def t_summed : TDef := { np := 1, nv := 3, bor := [false], body := [
  .asg 1 (.e (.tup [.e (.int 0), .e (.int 1)])),
  .for_ (.n 2) (.seq (.var 0)) [.asg 1 (.e (.call 5 [.d (.var 1), .d (.var 2)] []))],
  .ret (.e (.var 1))] }
def n_summed : List Str := ["some", "found", "one"]
/-- are_chances: 0 value 1 many 2 one -/
def t_are_chances : TDef := { np := 2, nv := 3, bor := [false, false], body := [
  .if_ (.or_ [.not_ (.isi (.e (.var 0)) [.list]), .cmp .ne (.e (.blt .len [.e (.var 0)])) (.e (.var 1)), .not_ (.blt .all [.e (.f (.comp (.call 4 [.d (.var 2)] []) (.n 2) (.seq (.var 0)) [] [2]))])]) [.ret (.e (.bl false))] [],
  .ret (.e (.cmp .eq (.e (.call 9 [.d (.var 0)] [])) (.e (.tup [.e (.int 1), .e (.int 1)]))))] }
def n_are_chances : List Str := ["value", "many", "one"]
/-- are_fractions: 0 value 1 many 2 one -/
def t_are_fractions : TDef := { np := 2, nv := 3, bor := [false, false], body := [
  .ret (.e (.and_ [.isi (.e (.var 0)) [.list], .cmp .eq (.e (.blt .len [.e (.var 0)])) (.e (.var 1)), .blt .all [.e (.f (.comp (.call 3 [.d (.var 2)] []) (.n 2) (.seq (.var 0)) [] [2]))]]))] }
def n_are_fractions : List Str := ["value", "many", "one"]
/-- greatest: 0 some 1 found 2 one -/
def t_greatest : TDef := { np := 1, nv := 3, bor := [false], body := [
  .asg 1 (.e (.sub (.e (.var 0)) (.int 0))),
  .for_ (.n 2) (.seq (.var 0)) [.asg 1 (.e (.ife (.call 8 [.d (.var 1), .d (.var 2)] []) (.var 2) (.var 1)))],
  .ret (.e (.var 1))] }
def n_greatest : List Str := ["some", "found", "one"]
/-- product: 0 weights 1 numbers 2 weight 3 number -/
def t_product : TDef := { np := 2, nv := 4, bor := [false, false], body := [
  .ret (.call 9 [.d (.f (.comp (.call 6 [.d (.var 2), .d (.var 3)] []) (.t [.n 2, .n 3]) (.zip (.var 0) (.var 1) true) [] [2, 3]))] [])] }
def n_product : List Str := ["weights", "numbers", "weight", "number"]
/-- is_look_by: 0 value 1 rows 2 row -/
def t_is_look_by : TDef := { np := 1, nv := 3, bor := [false], body := [
  .if_ (.or_ [.not_ (.isi (.e (.var 0)) [.tuple]), .cmp .ne (.e (.blt .len [.e (.var 0)])) (.e (.int 2)), .not_ (.isi (.e (.sub (.e (.var 0)) (.int 0))) [.str]), .cmp .ne (.e (.sub (.e (.var 0)) (.int 0))) (.e (.str "look"))]) [.ret (.e (.bl false))] [],
  .asg 1 (.e (.sub (.e (.var 0)) (.int 1))),
  .if_ (.or_ [.not_ (.isi (.e (.var 1)) [.list]), .not_ (.chain .le .le (.e (.int 1)) (.e (.blt .len [.e (.var 1)])) (.e (.glob 1))), .not_ (.isi (.e (.sub (.e (.var 1)) (.int 0))) [.list])]) [.ret (.e (.bl false))] [],
  .ret (.e (.and_ [.chain .le .le (.e (.int 1)) (.e (.blt .len [.e (.sub (.e (.var 1)) (.int 0))])) (.e (.glob 0)), .blt .all [.e (.f (.comp (.call 10 [.d (.var 2), .d (.blt .len [.e (.sub (.e (.var 1)) (.int 0))])] []) (.n 2) (.seq (.var 1)) [] [2]))]]))] }
def n_is_look_by : List Str := ["value", "rows", "row"]
/-- check_look: 0 look -/
def t_check_look : TDef := { np := 1, nv := 1, bor := [false], body := [
  .if_ (.not_ (.call 14 [.d (.var 0)] [])) [.bad] []] }
def n_check_look : List Str := ["look"]
/-- standings_of: 0 look -/
def t_standings_of : TDef := { np := 1, nv := 1, bor := [false], body := [
  .ret (.e (.blt .len [.e (.sub (.e (.var 0)) (.int 1))]))] }
def n_standings_of : List Str := ["look"]
/-- marks_of: 0 look -/
def t_marks_of : TDef := { np := 1, nv := 1, bor := [false], body := [
  .ret (.e (.blt .len [.e (.sub (.e (.sub (.e (.var 0)) (.int 1))) (.int 0))]))] }
def n_marks_of : List Str := ["look"]
/-- column_of: 0 look 1 mark 2 row -/
def t_column_of : TDef := { np := 2, nv := 3, bor := [false, false], body := [
  .ret (.f (.comp (.sub (.e (.var 2)) (.var 1)) (.n 2) (.seq (.sub (.e (.var 0)) (.int 1))) [] [2]))] }
def n_column_of : List Str := ["look", "mark", "row"]
/-- is_belief_by: 0 look 1 value -/
def t_is_belief_by : TDef := { np := 2, nv := 2, bor := [false, false], body := [
  .ret (.call 10 [.d (.var 1), .d (.call 16 [.d (.var 0)] [])] [])] }
def n_is_belief_by : List Str := ["look", "value"]
/-- check_belief: 0 look 1 belief -/
def t_check_belief : TDef := { np := 2, nv := 2, bor := [false, false], body := [
  .if_ (.not_ (.call 19 [.d (.var 0), .d (.var 1)] [])) [.bad] []] }
def n_check_belief : List Str := ["look", "belief"]
/-- is_game_by: 0 value 1 pays 2 row -/
def t_is_game_by : TDef := { np := 1, nv := 3, bor := [false], body := [
  .if_ (.or_ [.not_ (.isi (.e (.var 0)) [.tuple]), .cmp .ne (.e (.blt .len [.e (.var 0)])) (.e (.int 2)), .not_ (.isi (.e (.sub (.e (.var 0)) (.int 0))) [.str]), .cmp .ne (.e (.sub (.e (.var 0)) (.int 0))) (.e (.str "game"))]) [.ret (.e (.bl false))] [],
  .asg 1 (.e (.sub (.e (.var 0)) (.int 1))),
  .if_ (.or_ [.not_ (.isi (.e (.var 1)) [.list]), .not_ (.chain .le .le (.e (.int 1)) (.e (.blt .len [.e (.var 1)])) (.e (.glob 2))), .not_ (.isi (.e (.sub (.e (.var 1)) (.int 0))) [.list])]) [.ret (.e (.bl false))] [],
  .ret (.e (.and_ [.chain .le .le (.e (.int 1)) (.e (.blt .len [.e (.sub (.e (.var 1)) (.int 0))])) (.e (.glob 1)), .blt .all [.e (.f (.comp (.call 11 [.d (.var 2), .d (.blt .len [.e (.sub (.e (.var 1)) (.int 0))])] []) (.n 2) (.seq (.var 1)) [] [2]))]]))] }
def n_is_game_by : List Str := ["value", "pays", "row"]
/-- check_game: 0 look 1 game -/
def t_check_game : TDef := { np := 2, nv := 2, bor := [false, false], body := [
  .if_ (.not_ (.call 21 [.d (.var 1)] [])) [.bad] [],
  .if_ (.cmp .ne (.e (.blt .len [.e (.sub (.e (.sub (.e (.var 1)) (.int 1))) (.int 0))])) (.e (.call 16 [.d (.var 0)] []))) [.bad] []] }
def n_check_game : List Str := ["look", "game"]
/-- is_lot_of: 0 value 1 many 2 at 3 one -/
def t_is_lot_of : TDef := { np := 2, nv := 4, bor := [false, false], body := [
  .if_ (.or_ [.not_ (.isi (.e (.var 0)) [.list]), .not_ (.blt .all [.e (.f (.comp (.and_ [.call 0 [.d (.var 3)] [], .chain .le .lt (.e (.int 0)) (.e (.var 3)) (.e (.var 1))]) (.n 3) (.seq (.var 0)) [] [3]))])]) [.ret (.e (.bl false))] [],
  .ret (.e (.blt .all [.e (.f (.comp (.cmp .lt (.e (.sub (.e (.var 0)) (.bin .sub (.e (.var 2)) (.e (.int 1))))) (.e (.sub (.e (.var 0)) (.var 2)))) (.n 2) (.rng2 (.int 1) (.blt .len [.e (.var 0)])) [] [2]))]))] }
def n_is_lot_of : List Str := ["value", "many", "at", "one"]
/-- ordered: 0 lots 1 lot -/
def t_ordered : TDef := { np := 1, nv := 2, bor := [false], body := [
  .ret (.f (.sorted (.e (.f (.comp (.f (.sorted (.e (.var 1)))) (.n 1) (.seq (.var 0)) [] [1])))))] }
def n_ordered : List Str := ["lots", "lot"]
/-- are_parts_of: 0 many 1 value 2 lot -/
def t_are_parts_of : TDef := { np := 2, nv := 3, bor := [false, false], body := [
  .if_ (.or_ [.not_ (.isi (.e (.var 1)) [.list]), .not_ (.blt .all [.e (.f (.comp (.and_ [.call 23 [.d (.var 2), .d (.var 0)] [], .cmp .ne (.e (.var 2)) (.e (.f (.lst [])))]) (.n 2) (.seq (.var 1)) [] [2]))])]) [.ret (.e (.bl false))] [],
  .ret (.e (.and_ [.cmp .eq (.e (.f (.sorted (.e (.f (.sumL (.e (.var 1)))))))) (.e (.f (.list_ (.rng1 (.var 0))))), .cmp .eq (.e (.call 24 [.d (.var 1)] [])) (.e (.var 1))]))] }
def n_are_parts_of : List Str := ["many", "value", "lot"]
/-- how_many: 0 value 1 lot -/
def t_how_many : TDef := { np := 1, nv := 2, bor := [false], body := [
  .if_ (.or_ [.not_ (.isi (.e (.var 0)) [.list]), .not_ (.blt .all [.e (.f (.comp (.isi (.e (.var 1)) [.list]) (.n 1) (.seq (.var 0)) [] [1]))])]) [.ret (.e (.int 0))] [],
  .ret (.e (.blt .sum [.e (.f (.comp (.blt .len [.e (.var 1)]) (.n 1) (.seq (.var 0)) [] [1]))]))] }
def n_how_many : List Str := ["value", "lot"]
/-- check_parts: 0 value 1 many -/
def t_check_parts : TDef := { np := 1, nv := 2, bor := [false], body := [
  .asg 1 (.e (.call 26 [.d (.var 0)] [])),
  .if_ (.or_ [.not_ (.chain .le .le (.e (.int 1)) (.e (.var 1)) (.e (.glob 1))), .not_ (.call 25 [.d (.var 1), .d (.var 0)] [])]) [.bad] []] }
def n_check_parts : List Str := ["value", "many"]
/-- check_both: 0 one 1 other -/
def t_check_both : TDef := { np := 2, nv := 2, bor := [false, false], body := [
  .expr (.call 27 [.d (.var 0)] []),
  .expr (.call 27 [.d (.var 1)] []),
  .if_ (.cmp .ne (.e (.call 26 [.d (.var 0)] [])) (.e (.call 26 [.d (.var 1)] []))) [.bad] []] }
def n_check_both : List Str := ["one", "other"]
/-- check_lot: 0 one 1 lot -/
def t_check_lot : TDef := { np := 2, nv := 2, bor := [false, false], body := [
  .if_ (.not_ (.call 23 [.d (.var 1), .d (.call 26 [.d (.var 0)] [])] [])) [.bad] []] }
def n_check_lot : List Str := ["one", "lot"]
/-- alike_in: 0 values 1 found 2 place 3 value 4 like 5 lot -/
def t_alike_in : TDef := { np := 1, nv := 6, bor := [false], body := [], ext := some x_alike_in }
def n_alike_in : List Str := ["values", "found", "place", "value", "like", "lot"]
/-- number_of: 0 parts 1 standing 2 at 3 lot -/
def t_number_of : TDef := { np := 2, nv := 4, bor := [false, false], body := [
  .ret (.e (.sub (.e (.f (.comp (.var 2) (.t [.n 2, .n 3]) (.enum (.var 0)) [.cmp .in_ (.e (.var 1)) (.e (.var 3))] [2, 3]))) (.int 0)))] }
def n_number_of : List Str := ["parts", "standing", "at", "lot"]
/-- sure_look: 0 parts 1 marks 2 standing 3 mark 4 at -/
def t_sure_look : TDef := { np := 1, nv := 5, bor := [false], body := [
  .expr (.call 27 [.d (.var 0)] []),
  .asg 1 (.f (.comp (.call 31 [.d (.var 0), .d (.var 2)] []) (.n 2) (.rng1 (.call 26 [.d (.var 0)] [])) [] [2])),
  .ret (.e (.tup [.e (.str "look"), .e (.f (.comp (.f (.comp (.ife (.cmp .eq (.e (.var 4)) (.e (.var 3))) (.glob 3) (.glob 4)) (.n 4) (.rng1 (.blt .len [.e (.var 0)])) [] [4])) (.n 3) (.seq (.var 1)) [] [3]))]))] }
def n_sure_look : List Str := ["parts", "marks", "standing", "mark", "at"]
/-- lies_in: 0 lot 1 other 2 one -/
def t_lies_in : TDef := { np := 2, nv := 3, bor := [false, false], body := [
  .ret (.e (.blt .all [.e (.f (.comp (.cmp .in_ (.e (.var 2)) (.e (.var 1))) (.n 2) (.seq (.var 0)) [] [2]))]))] }
def n_lies_in : List Str := ["lot", "other", "one"]
/-- both_by: 0 one 1 other 2 many 3 standing -/
def t_both_by : TDef := { np := 2, nv := 4, bor := [false, false], body := [
  .asg 2 (.e (.call 26 [.d (.var 0)] [])),
  .ret (.call 30 [.d (.f (.comp (.tup [.e (.call 31 [.d (.var 0), .d (.var 3)] []), .e (.call 31 [.d (.var 1), .d (.var 3)] [])]) (.n 3) (.rng1 (.var 2)) [] [3]))] [])] }
def n_both_by : List Str := ["one", "other", "many", "standing"]
/-- both_parts: 0 one 1 other -/
def t_both_parts : TDef := { np := 2, nv := 2, bor := [false, false], body := [
  .expr (.call 28 [.d (.var 0), .d (.var 1)] []),
  .ret (.call 34 [.d (.var 0), .d (.var 1)] [])] }
def n_both_parts : List Str := ["one", "other"]
/-- known_by: 0 one 1 lot 2 part -/
def t_known_by : TDef := { np := 2, nv := 3, bor := [false, false], body := [
  .ret (.f (.sorted (.e (.f (.sumL (.e (.f (.comp (.var 2) (.n 2) (.seq (.var 0)) [.call 33 [.d (.var 2), .d (.var 1)] []] [2]))))))))] }
def n_known_by : List Str := ["one", "lot", "part"]
/-- both_know: 0 one 1 other 2 lot 3 second 4 standing -/
def t_both_know : TDef := { np := 3, nv := 5, bor := [false, false, false], body := [
  .asg 3 (.e (.call 36 [.d (.var 1), .d (.var 2)] [])),
  .ret (.f (.comp (.var 4) (.n 4) (.seq (.call 36 [.d (.var 0), .d (.var 2)] [])) [.cmp .in_ (.e (.var 4)) (.e (.var 3))] [4]))] }
def n_both_know : List Str := ["one", "other", "lot", "second", "standing"]
/-- known_along: 0 one 1 other 2 lot 3 found 4 late -/
def t_known_along : TDef := { np := 3, nv := 5, bor := [false, false, false], body := [
  .par [3, 4] [.f (.lst []), .e (.call 37 [.d (.var 0), .d (.var 1), .d (.var 2)] [])],
  .while_ (.or_ [.cmp .eq (.pk 3) (.e (.f (.lst []))), .cmp .ne (.e (.var 4)) (.e (.sub (.pk 3) (.neg (.int 1))))]) [.app 3 [] (.e (.var 4)), .asg 4 (.e (.call 37 [.d (.var 0), .d (.var 1), .d (.var 4)] []))],
  .ret (.mv 3)] }
def n_known_along : List Str := ["one", "other", "lot", "found", "late"]
/-- known_by_all: 0 one 1 other 2 lot -/
def t_known_by_all : TDef := { np := 3, nv := 3, bor := [false, false, false], body := [
  .expr (.call 28 [.d (.var 0), .d (.var 1)] []),
  .expr (.call 29 [.d (.var 0), .d (.var 2)] []),
  .ret (.e (.sub (.e (.call 38 [.d (.var 0), .d (.var 1), .d (.var 2)] [])) (.neg (.int 1))))] }
def n_known_by_all : List Str := ["one", "other", "lot"]
/-- check_told: 0 one 1 other 2 belief 3 lot -/
def t_check_told : TDef := { np := 4, nv := 4, bor := [false, false, false, false], body := [
  .expr (.call 28 [.d (.var 0), .d (.var 1)] []),
  .if_ (.or_ [.not_ (.call 10 [.d (.var 2), .d (.call 26 [.d (.var 0)] [])] []), .cmp .in_ (.e (.glob 4)) (.e (.var 2))]) [.bad] [],
  .expr (.call 29 [.d (.var 0), .d (.var 3)] [])] }
def n_check_told : List Str := ["one", "other", "belief", "lot"]
/-- likely_by: 0 parts 1 belief 2 lot 3 found 4 part 5 whole 6 some 7 standing -/
def t_likely_by : TDef := { np := 3, nv := 8, bor := [false, false, false], body := [
  .asg 3 (.f (.rep (.e (.f (.lst [.e (.glob 4)]))) (.blt .len [.e (.var 1)]))),
  .for_ (.n 4) (.seq (.var 0)) [.asg 5 (.e (.call 9 [.d (.f (.comp (.sub (.e (.var 1)) (.var 7)) (.n 7) (.seq (.var 4)) [] [7]))] [])), .asg 6 (.e (.call 9 [.d (.f (.comp (.sub (.e (.var 1)) (.var 7)) (.n 7) (.seq (.var 4)) [.cmp .in_ (.e (.var 7)) (.e (.var 2))] [7]))] [])), .for_ (.n 7) (.seq (.var 4)) [.store 3 [] (.var 7) (.e (.call 7 [.d (.var 6), .d (.var 5)] []))]],
  .ret (.mv 3)] }
def n_likely_by : List Str := ["parts", "belief", "lot", "found", "part", "whole", "some", "standing"]
/-- tellings: 0 one 1 other 2 belief 3 lot 4 parts 5 found 6 quiet 7 who 8 chances 9 late 10 part -/
def t_tellings : TDef := { np := 4, nv := 11, bor := [false, false, false, false], body := [
  .par [4, 5, 6] [.f (.lst [.e (.var 0), .e (.var 1)]), .f (.lst []), .e (.int 0)],
  .while_ (.cmp .lt (.e (.var 6)) (.e (.int 2))) [.asg 7 (.e (.bin .mod (.e (.blt .len [.pk 5])) (.e (.int 2)))), .asg 8 (.e (.call 41 [.d (.sub (.pk 4) (.var 7)), .d (.var 2), .d (.var 3)] [])), .asg 9 (.e (.call 34 [.d (.sub (.pk 4) (.bin .sub (.e (.int 1)) (.e (.var 7)))), .d (.call 30 [.d (.var 8)] [])] [])), .asg 6 (.e (.ife (.cmp .eq (.e (.var 9)) (.e (.sub (.pk 4) (.bin .sub (.e (.int 1)) (.e (.var 7)))))) (.bin .add (.e (.var 6)) (.e (.int 1))) (.int 0))), .store 4 [] (.bin .sub (.e (.int 1)) (.e (.var 7))) (.e (.var 9)), .app 5 [] (.e (.tup [.e (.var 7), .e (.var 8), .e (.f (.comp (.f (.list_ (.seq (.var 10)))) (.n 10) (.seq (.var 9)) [] [10]))]))],
  .ret (.e (.tup [.e (.var 5), .e (.var 4)]))] }
def n_tellings : List Str := ["one", "other", "belief", "lot", "parts", "found", "quiet", "who", "chances", "late", "part"]
/-- told_in_turn: 0 one 1 other 2 belief 3 lot -/
def t_told_in_turn : TDef := { np := 4, nv := 4, bor := [false, false, false, false], body := [
  .expr (.call 40 [.d (.var 0), .d (.var 1), .d (.var 2), .d (.var 3)] []),
  .ret (.e (.sub (.e (.call 42 [.d (.var 0), .d (.var 1), .d (.var 2), .d (.var 3)] [])) (.int 0)))] }
def n_told_in_turn : List Str := ["one", "other", "belief", "lot"]
/-- agreed_by: 0 one 1 other 2 belief 3 lot 4 first 5 second 6 part -/
def t_agreed_by : TDef := { np := 4, nv := 7, bor := [false, false, false, false], body := [
  .expr (.call 40 [.d (.var 0), .d (.var 1), .d (.var 2), .d (.var 3)] []),
  .asgT (.t [.n 4, .n 5]) (.sub (.e (.call 42 [.d (.var 0), .d (.var 1), .d (.var 2), .d (.var 3)] [])) (.int 1)),
  .ret (.e (.tup [.e (.f (.comp (.f (.list_ (.seq (.var 6)))) (.n 6) (.seq (.var 4)) [] [6])), .e (.f (.comp (.f (.list_ (.seq (.var 6)))) (.n 6) (.seq (.var 5)) [] [6]))]))] }
def n_agreed_by : List Str := ["one", "other", "belief", "lot", "first", "second", "part"]
/-- agreed: 0 one 1 other 2 belief 3 lot -/
def t_agreed : TDef := { np := 4, nv := 4, bor := [false, false, false, false], body := [
  .expr (.call 40 [.d (.var 0), .d (.var 1), .d (.var 2), .d (.var 3)] []),
  .ret (.call 41 [.d (.sub (.e (.sub (.e (.call 42 [.d (.var 0), .d (.var 1), .d (.var 2), .d (.var 3)] [])) (.int 1))) (.int 0)), .d (.var 2), .d (.var 3)] [])] }
def n_agreed : List Str := ["one", "other", "belief", "lot"]
/-- check_asked: 0 look 1 belief 2 game -/
def t_check_asked : TDef := { np := 3, nv := 3, bor := [false, false, false], body := [
  .expr (.call 15 [.d (.var 0)] []),
  .expr (.call 20 [.d (.var 0), .d (.var 1)] []),
  .expr (.call 22 [.d (.var 0), .d (.var 2)] [])] }
def n_check_asked : List Str := ["look", "belief", "game"]
/-- weighed: 0 look 1 belief 2 mark 3 one 4 chance -/
def t_weighed : TDef := { np := 3, nv := 5, bor := [false, false, false], body := [
  .ret (.f (.comp (.call 6 [.d (.var 3), .d (.var 4)] []) (.t [.n 3, .n 4]) (.zip (.var 1) (.call 18 [.d (.var 0), .d (.var 2)] []) true) [] [3, 4]))] }
def n_weighed : List Str := ["look", "belief", "mark", "one", "chance"]
/-- pays_at: 0 look 1 belief 2 game 3 mark 4 parts 5 pays -/
def t_pays_at : TDef := { np := 4, nv := 6, bor := [false, false, false, false], body := [
  .asg 4 (.e (.call 47 [.d (.var 0), .d (.var 1), .d (.var 3)] [])),
  .ret (.f (.comp (.call 13 [.d (.var 4), .d (.var 5)] []) (.n 5) (.seq (.sub (.e (.var 2)) (.int 1))) [] [5]))] }
def n_pays_at : List Str := ["look", "belief", "game", "mark", "parts", "pays"]
/-- worth_by: 0 look 1 belief 2 game 3 mark -/
def t_worth_by : TDef := { np := 3, nv := 4, bor := [false, false, false], body := [
  .ret (.call 9 [.d (.f (.comp (.call 12 [.d (.call 48 [.d (.var 0), .d (.var 1), .d (.var 2), .d (.var 3)] [])] []) (.n 3) (.rng1 (.call 17 [.d (.var 0)] [])) [] [3]))] [])] }
def n_worth_by : List Str := ["look", "belief", "game", "mark"]
/-- worth: 0 look 1 belief 2 game -/
def t_worth : TDef := { np := 3, nv := 3, bor := [false, false, false], body := [
  .expr (.call 46 [.d (.var 0), .d (.var 1), .d (.var 2)] []),
  .ret (.call 49 [.d (.var 0), .d (.var 1), .d (.var 2)] [])] }
def n_worth : List Str := ["look", "belief", "game"]
/-- _law_hash: 0 seed 1 index 2 mixed -/
def t__law_hash : TDef := { np := 2, nv := 3, bor := [false, false], body := [
  .asg 2 (.e (.bin .mod (.e (.blt .int [.e (.bin .add (.e (.bin .add (.e (.bin .add (.e (.bin .mul (.e (.var 0)) (.e (.int 1220147)))) (.e (.bin .mul (.e (.bin .mul (.e (.int 16777903)) (.e (.var 1)))) (.e (.var 1)))))) (.e (.bin .mul (.e (.int 223)) (.e (.var 1)))))) (.e (.int 97)))])) (.e (.int 2147483629)))),
  .asg 2 (.e (.bin .mod (.e (.blt .int [.e (.bin .add (.e (.bin .add (.e (.bin .mul (.e (.var 2)) (.e (.var 2)))) (.e (.bin .mul (.e (.int 69019)) (.e (.var 1)))))) (.e (.int 32416187)))])) (.e (.int 2147483587)))),
  .ret (.e (.bin .mod (.e (.blt .int [.e (.bin .mul (.e (.var 2)) (.e (.int 48271)))])) (.e (.int 2147483647))))] }
def n__law_hash : List Str := ["seed", "index", "mixed"]
/-- _law_random: 0 generator 1 bound 2 drawn 3 turn -/
def t__law_random : TDef := { np := 2, nv := 4, bor := [true, false], body := [
  .if_ (.cmp .gt (.e (.sub (.pk 0) (.int 0))) (.e (.int 0))) [.asg 2 (.e (.bin .mod (.e (.blt .int [.e (.sub (.pk 0) (.int 0))])) (.e (.var 1)))), .store 0 [] (.int 0) (.e (.bin .fdiv (.e (.sub (.pk 0) (.int 0))) (.e (.var 1)))), .ret (.e (.var 2))] [],
  .asg 2 (.e (.int 0)),
  .for_ (.n 3) (.rng1 (.bin .add (.e (.int 1)) (.e (.bin .fdiv (.e (.meth .bits (.e (.var 1)) [])) (.e (.int 30)))))) [.store 0 [] (.int 2) (.e (.bin .add (.e (.sub (.pk 0) (.int 2))) (.e (.int 1)))), .asg 2 (.e (.bin .add (.e (.bin .mul (.e (.var 2)) (.e (.int 2147483587)))) (.e (.call 51 [.d (.sub (.pk 0) (.int 1)), .d (.sub (.pk 0) (.int 2))] []))))],
  .ret (.e (.bin .mod (.e (.blt .int [.e (.var 2)])) (.e (.var 1))))] }
def n__law_random : List Str := ["generator", "bound", "drawn", "turn"]
/-- _law_cell: 0 script 1 index -/
def t__law_cell : TDef := { np := 2, nv := 2, bor := [false, false], body := [
  .if_ (.cmp .lt (.e (.var 1)) (.e (.blt .len [.e (.var 0)]))) [.ret (.e (.sub (.e (.var 0)) (.var 1)))] [],
  .ret (.e (.bin .mod (.e (.blt .sum [.e (.f (.slice (.e (.var 0)) none (some (.int 1))))])) (.e (.int 1000003))))] }
def n__law_cell : List Str := ["script", "index"]
/-- _law_generator: 0 script 1 index 2 seed -/
def t__law_generator : TDef := { np := 2, nv := 3, bor := [false, false], body := [
  .asg 2 (.e (.call 53 [.d (.var 0), .d (.var 1)] [])),
  .ret (.f (.lst [.e (.bin .mod (.e (.blt .int [.e (.blt .max2 [.e (.bin .sub (.e (.var 2)) (.e (.bin .pow (.e (.int 10)) (.e (.int 18))))), .e (.int 0)])])) (.e (.bin .pow (.e (.bin .pow (.e (.int 10)) (.e (.int 60)))) (.e (.int 10))))), .e (.bin .mod (.e (.blt .int [.e (.var 2)])) (.e (.int 2147483647))), .e (.bin .mul (.e (.int 1000)) (.e (.var 1)))]))] }
def n__law_generator : List Str := ["script", "index", "seed"]
/-- _law_frac: 0 top 1 under 2 one 3 other -/
def t__law_frac : TDef := { np := 2, nv := 4, bor := [false, false], body := [
  .par [2, 3] [.e (.var 1), .e (.blt .abs [.e (.var 0)])],
  .while_ (.cmp .gt (.e (.var 3)) (.e (.int 0))) [.par [2, 3] [.e (.var 3), .e (.bin .mod (.e (.blt .int [.e (.var 2)])) (.e (.var 3)))]],
  .ret (.e (.tup [.e (.bin .fdiv (.e (.var 0)) (.e (.var 2))), .e (.bin .fdiv (.e (.var 1)) (.e (.var 2)))]))] }
def n__law_frac : List Str := ["top", "under", "one", "other"]
/-- _law_below: 0 one 1 other -/
def t__law_below : TDef := { np := 2, nv := 2, bor := [false, false], body := [
  .ret (.e (.cmp .lt (.e (.bin .mul (.e (.sub (.e (.var 0)) (.int 0))) (.e (.sub (.e (.var 1)) (.int 1))))) (.e (.bin .mul (.e (.sub (.e (.var 1)) (.int 0))) (.e (.sub (.e (.var 0)) (.int 1)))))))] }
def n__law_below : List Str := ["one", "other"]
/-- _law_exact: 0 due 1 told 2 at -/
def t__law_exact : TDef := { np := 2, nv := 3, bor := [false, false], body := [
  .if_ (.isi (.e (.var 0)) [.list, .tuple]) [.if_ (.or_ [.cmp .ne (.e (.isi (.e (.var 0)) [.list])) (.e (.isi (.e (.var 1)) [.list])), .cmp .ne (.e (.isi (.e (.var 0)) [.tuple])) (.e (.isi (.e (.var 1)) [.tuple]))]) [.ret (.e (.bl false))] [], .ret (.e (.and_ [.cmp .eq (.e (.blt .len [.e (.var 1)])) (.e (.blt .len [.e (.var 0)])), .cmp .eq (.e (.f (.comp (.var 2) (.n 2) (.rng1 (.blt .len [.e (.var 0)])) [.not_ (.call 57 [.d (.sub (.e (.var 0)) (.var 2)), .d (.sub (.e (.var 1)) (.var 2))] [])] [2]))) (.e (.f (.lst [])))]))] [],
  .if_ (.or_ [.cmp .is_ (.e (.var 0)) (.e (.non)), .isi (.e (.var 0)) [.bool]]) [.ret (.e (.or_ [.and_ [.cmp .is_ (.e (.var 0)) (.e (.non)), .cmp .is_ (.e (.var 1)) (.e (.non))], .and_ [.cmp .is_ (.e (.var 0)) (.e (.bl true)), .cmp .is_ (.e (.var 1)) (.e (.bl true))], .and_ [.cmp .is_ (.e (.var 0)) (.e (.bl false)), .cmp .is_ (.e (.var 1)) (.e (.bl false))]]))] [],
  .if_ (.isi (.e (.var 0)) [.str]) [.ret (.e (.and_ [.isi (.e (.var 1)) [.str], .cmp .eq (.e (.var 1)) (.e (.var 0))]))] [],
  .ret (.e (.and_ [.isi (.e (.var 1)) [.int], .not_ (.isi (.e (.var 1)) [.bool]), .cmp .eq (.e (.var 1)) (.e (.var 0))]))] }
def n__law_exact : List Str := ["due", "told", "at"]
/-- _law_game: 0 generator 1 many 2 deeds 3 deed 4 standing -/
def t__law_game : TDef := { np := 3, nv := 5, bor := [true, false, false], body := [
  .ret (.e (.tup [.e (.str "game"), .e (.f (.comp (.f (.comp (.call 55 [.d (.bin .sub (.e (.call 52 [.b 0, .d (.int 9)] [])) (.e (.int 4))), .d (.bin .add (.e (.int 1)) (.e (.call 52 [.b 0, .d (.int 2)] [])))] []) (.n 4) (.rng1 (.var 1)) [] [4])) (.n 3) (.rng1 (.var 2)) [] [3]))]))] }
def n__law_game : List Str := ["generator", "many", "deeds", "deed", "standing"]
/-- _law_drawn_parts: 0 generator 1 many 2 lots 3 standing 4 at -/
def t__law_drawn_parts : TDef := { np := 2, nv := 5, bor := [true, false], body := [
  .asg 2 (.e (.f (.lst []))),
  .for_ (.n 3) (.rng1 (.var 1)) [.asg 4 (.e (.call 52 [.b 0, .d (.bin .add (.e (.blt .len [.e (.var 2)])) (.e (.int 1)))] [])), .asg 2 (.e (.ife (.cmp .lt (.e (.var 4)) (.e (.blt .len [.e (.var 2)]))) (.f (.cat (.e (.f (.cat (.e (.f (.slice (.e (.var 2)) none (some (.var 4))))) (.e (.f (.lst [.e (.f (.cat (.e (.sub (.e (.var 2)) (.var 4))) (.e (.f (.lst [.e (.var 3)])))))])))))) (.e (.f (.slice (.e (.var 2)) (some (.bin .add (.e (.var 4)) (.e (.int 1)))) none))))) (.f (.cat (.e (.var 2)) (.e (.f (.lst [.e (.f (.lst [.e (.var 3)]))])))))))],
  .ret (.e (.var 2))] }
def n__law_drawn_parts : List Str := ["generator", "many", "lots", "standing", "at"]
/-- _law_full: 0 generator 1 many 2 counts 3 standing 4 count -/
def t__law_full : TDef := { np := 2, nv := 5, bor := [true, false], body := [
  .asg 2 (.f (.comp (.bin .add (.e (.int 1)) (.e (.call 52 [.b 0, .d (.int 3)] []))) (.n 3) (.rng1 (.var 1)) [] [3])),
  .ret (.f (.comp (.call 55 [.d (.var 4), .d (.blt .sum [.e (.var 2)])] []) (.n 4) (.seq (.var 2)) [] [4]))] }
def n__law_full : List Str := ["generator", "many", "counts", "standing", "count"]
/-- _law_known_right: 0 one 1 other 2 belief 3 lot 4 standing 5 chances 6 ends 7 same 8 near -/
def t__law_known_right : TDef := { np := 4, nv := 9, bor := [false, false, false, false], body := [
  .asgT (.t [.n 5, .n 6]) (.tup [.e (.call 45 [.d (.var 0), .d (.var 1), .d (.var 2), .d (.var 3)] []), .e (.call 44 [.d (.var 0), .d (.var 1), .d (.var 2), .d (.var 3)] [])]),
  .for_ (.n 4) (.rng1 (.blt .len [.e (.var 2)])) [.asg 7 (.f (.comp (.var 8) (.n 8) (.rng1 (.blt .len [.e (.var 2)])) [.cmp .eq (.e (.sub (.e (.var 5)) (.var 8))) (.e (.sub (.e (.var 5)) (.var 4)))] [8])), .if_ (.cmp .notin (.e (.var 4)) (.e (.call 39 [.d (.sub (.e (.var 6)) (.int 0)), .d (.sub (.e (.var 6)) (.int 1)), .d (.var 7)] []))) [.ret (.e (.bl false))] []],
  .ret (.e (.bl true))] }
def n__law_known_right : List Str := ["one", "other", "belief", "lot", "standing", "chances", "ends", "same", "near"]
/-- _law_worths_right: 0 generator 1 one 2 other 3 belief 4 lot 5 turn 6 ends 7 both 8 game 9 most 10 early 11 late 12 here -/
def t__law_worths_right : TDef := { np := 5, nv := 13, bor := [true, false, false, false, false], body := [
  .par [6, 7] [.e (.call 44 [.d (.var 1), .d (.var 2), .d (.var 3), .d (.var 4)] []), .e (.call 35 [.d (.var 1), .d (.var 2)] [])],
  .for_ (.n 5) (.rng1 (.int 3)) [.asg 8 (.e (.call 58 [.b 0, .d (.blt .len [.e (.var 3)]), .d (.bin .add (.e (.int 1)) (.e (.call 52 [.b 0, .d (.int 3)] [])))] [])), .asg 9 (.e (.call 50 [.d (.call 32 [.d (.var 7)] []), .d (.var 3), .d (.var 8)] [])), .for_ (.t [.n 10, .n 11]) (.zip (.f (.lst [.e (.var 1), .e (.var 2)])) (.var 6) false) [.asg 12 (.e (.call 50 [.d (.call 32 [.d (.var 11)] []), .d (.var 3), .d (.var 8)] [])), .if_ (.or_ [.call 56 [.d (.var 12), .d (.call 50 [.d (.call 32 [.d (.var 10)] []), .d (.var 3), .d (.var 8)] [])] [], .call 56 [.d (.var 9), .d (.var 12)] []]) [.ret (.e (.bl false))] []]],
  .ret (.e (.bl true))] }
def n__law_worths_right : List Str := ["generator", "one", "other", "belief", "lot", "turn", "ends", "both", "game", "most", "early", "late", "here"]
/-- law: 0 script 1 index 2 generator 3 many 4 ends 5 again 6 one 7 other 8 belief 9 lot 10 whole 11 none 12 standing 13 row -/
def t_law : TDef := { np := 1, nv := 14, bor := [false], body := [
  .for_ (.n 1) (.rng1 (.int 4)) [.asg 2 (.call 54 [.d (.var 0), .d (.var 1)] []), .asg 3 (.e (.bin .add (.e (.int 2)) (.e (.call 52 [.b 2, .d (.int 5)] [])))), .par [6, 7] [.e (.call 59 [.b 2, .d (.var 3)] []), .e (.call 59 [.b 2, .d (.var 3)] [])], .par [8, 9] [.e (.call 60 [.b 2, .d (.var 3)] []), .e (.f (.comp (.var 12) (.n 12) (.rng1 (.var 3)) [.cmp .eq (.e (.call 52 [.b 2, .d (.int 2)] [])) (.e (.int 0))] [12]))], .if_ (.or_ [.not_ (.call 61 [.d (.var 6), .d (.var 7), .d (.var 8), .d (.var 9)] []), .not_ (.call 61 [.d (.var 7), .d (.var 6), .d (.var 8), .d (.var 9)] []), .not_ (.call 62 [.b 2, .d (.var 6), .d (.var 7), .d (.var 8), .d (.var 9)] [])]) [.ret (.e (.bl false))] [], .asg 4 (.e (.call 44 [.d (.var 6), .d (.var 7), .d (.var 8), .d (.var 9)] [])), .asg 5 (.e (.call 43 [.d (.sub (.e (.var 4)) (.int 0)), .d (.sub (.e (.var 4)) (.int 1)), .d (.var 8), .d (.var 9)] [])), .if_ (.not_ (.call 57 [.d (.f (.lst [.e (.int 2), .e (.f (.lst [.e (.sub (.e (.var 4)) (.int 1)), .e (.sub (.e (.var 4)) (.int 0))])), .e (.var 4)])), .d (.f (.lst [.e (.blt .len [.e (.var 5)]), .e (.f (.comp (.sub (.e (.var 13)) (.int 2)) (.n 13) (.seq (.var 5)) [] [13])), .e (.call 44 [.d (.sub (.e (.var 4)) (.int 0)), .d (.sub (.e (.var 4)) (.int 1)), .d (.var 8), .d (.var 9)] [])]))] [])) [.ret (.e (.bl false))] [], .par [10, 11] [.e (.f (.list_ (.rng1 (.var 3)))), .e (.f (.lst []))], .if_ (.not_ (.call 57 [.d (.f (.lst [.e (.f (.rep (.e (.f (.lst [.e (.tup [.e (.int 1), .e (.int 1)])]))) (.var 3))), .e (.f (.rep (.e (.f (.lst [.e (.tup [.e (.int 0), .e (.int 1)])]))) (.var 3)))])), .d (.f (.lst [.e (.call 45 [.d (.var 6), .d (.var 7), .d (.var 8), .d (.var 10)] []), .e (.call 45 [.d (.var 6), .d (.var 7), .d (.var 8), .d (.var 11)] [])]))] [])) [.ret (.e (.bl false))] [], .if_ (.not_ (.call 57 [.d (.f (.rep (.e (.f (.lst [.e (.tup [.e (.var 6), .e (.var 7)])]))) (.int 2))), .d (.f (.lst [.e (.call 44 [.d (.var 6), .d (.var 7), .d (.var 8), .d (.var 10)] []), .e (.call 44 [.d (.var 6), .d (.var 7), .d (.var 8), .d (.var 11)] [])]))] [])) [.ret (.e (.bl false))] []],
  .ret (.e (.bl true))] }
def n_law : List Str := ["script", "index", "generator", "many", "ends", "again", "one", "other", "belief", "lot", "whole", "none", "standing", "row"]
def tdefs : List TDef := [t_is_whole, t_common_divisor, t_lowest, t_is_fraction, t_is_amount, t_plus, t_times, t_over, t_is_less, t_summed, t_are_chances, t_are_fractions, t_greatest, t_product, t_is_look_by, t_check_look, t_standings_of, t_marks_of, t_column_of, t_is_belief_by, t_check_belief, t_is_game_by, t_check_game, t_is_lot_of, t_ordered, t_are_parts_of, t_how_many, t_check_parts, t_check_both, t_check_lot, t_alike_in, t_number_of, t_sure_look, t_lies_in, t_both_by, t_both_parts, t_known_by, t_both_know, t_known_along, t_known_by_all, t_check_told, t_likely_by, t_tellings, t_told_in_turn, t_agreed_by, t_agreed, t_check_asked, t_weighed, t_pays_at, t_worth_by, t_worth, t__law_hash, t__law_random, t__law_cell, t__law_generator, t__law_frac, t__law_below, t__law_exact, t__law_game, t__law_drawn_parts, t__law_full, t__law_known_right, t__law_worths_right, t_law]
def fnsL : List (Str × List Str) := [⟨"is_whole", ["value"]⟩, ⟨"common_divisor", ["one", "other"]⟩, ⟨"lowest", ["top", "under"]⟩, ⟨"is_fraction", ["value"]⟩, ⟨"is_amount", ["value"]⟩, ⟨"plus", ["one", "other"]⟩, ⟨"times", ["one", "other"]⟩, ⟨"over", ["one", "other"]⟩, ⟨"is_less", ["one", "other"]⟩, ⟨"summed", ["some"]⟩, ⟨"are_chances", ["value", "many"]⟩, ⟨"are_fractions", ["value", "many"]⟩, ⟨"greatest", ["some"]⟩, ⟨"product", ["weights", "numbers"]⟩, ⟨"is_look_by", ["value"]⟩, ⟨"check_look", ["look"]⟩, ⟨"standings_of", ["look"]⟩, ⟨"marks_of", ["look"]⟩, ⟨"column_of", ["look", "mark"]⟩, ⟨"is_belief_by", ["look", "value"]⟩, ⟨"check_belief", ["look", "belief"]⟩, ⟨"is_game_by", ["value"]⟩, ⟨"check_game", ["look", "game"]⟩, ⟨"is_lot_of", ["value", "many"]⟩, ⟨"ordered", ["lots"]⟩, ⟨"are_parts_of", ["many", "value"]⟩, ⟨"how_many", ["value"]⟩, ⟨"check_parts", ["value"]⟩, ⟨"check_both", ["one", "other"]⟩, ⟨"check_lot", ["one", "lot"]⟩, ⟨"alike_in", ["values"]⟩, ⟨"number_of", ["parts", "standing"]⟩, ⟨"sure_look", ["parts"]⟩, ⟨"lies_in", ["lot", "other"]⟩, ⟨"both_by", ["one", "other"]⟩, ⟨"both_parts", ["one", "other"]⟩, ⟨"known_by", ["one", "lot"]⟩, ⟨"both_know", ["one", "other", "lot"]⟩, ⟨"known_along", ["one", "other", "lot"]⟩, ⟨"known_by_all", ["one", "other", "lot"]⟩, ⟨"check_told", ["one", "other", "belief", "lot"]⟩, ⟨"likely_by", ["parts", "belief", "lot"]⟩, ⟨"tellings", ["one", "other", "belief", "lot"]⟩, ⟨"told_in_turn", ["one", "other", "belief", "lot"]⟩, ⟨"agreed_by", ["one", "other", "belief", "lot"]⟩, ⟨"agreed", ["one", "other", "belief", "lot"]⟩, ⟨"check_asked", ["look", "belief", "game"]⟩, ⟨"weighed", ["look", "belief", "mark"]⟩, ⟨"pays_at", ["look", "belief", "game", "mark"]⟩, ⟨"worth_by", ["look", "belief", "game"]⟩, ⟨"worth", ["look", "belief", "game"]⟩, ⟨"_law_hash", ["seed", "index"]⟩, ⟨"_law_random", ["generator", "bound"]⟩, ⟨"_law_cell", ["script", "index"]⟩, ⟨"_law_generator", ["script", "index"]⟩, ⟨"_law_frac", ["top", "under"]⟩, ⟨"_law_below", ["one", "other"]⟩, ⟨"_law_exact", ["due", "told"]⟩, ⟨"_law_game", ["generator", "many", "deeds"]⟩, ⟨"_law_drawn_parts", ["generator", "many"]⟩, ⟨"_law_full", ["generator", "many"]⟩, ⟨"_law_known_right", ["one", "other", "belief", "lot"]⟩, ⟨"_law_worths_right", ["generator", "one", "other", "belief", "lot"]⟩, ⟨"law", ["script"]⟩]
def globsL : List Str := ["MOST_MARKS", "MOST_STANDINGS", "MOST_DEEDS", "ONE", "NONE"]
-- globs: MOST_MARKS = 8; MOST_STANDINGS = 6; MOST_DEEDS = 8; ONE = (1, 1); NONE = (0, 1)
def topIx : List Nat := [9, 10, 11, 12, 13, 14, 15, 16, 17, 18, 19, 20, 21, 22, 27, 28, 29, 30, 31, 32, 33, 34, 35, 36, 40, 41, 42, 43, 44, 45, 46, 47, 48, 49, 50, 51, 52, 53, 54, 55, 56, 57, 58, 59, 60, 61, 63, 64, 65, 66, 67, 69, 70, 71, 72, 73, 74, 75, 77, 78, 79, 80, 81, 82]
def namesL : List (List Str) := [n_is_whole, n_common_divisor, n_lowest, n_is_fraction, n_is_amount, n_plus, n_times, n_over, n_is_less, n_summed, n_are_chances, n_are_fractions, n_greatest, n_product, n_is_look_by, n_check_look, n_standings_of, n_marks_of, n_column_of, n_is_belief_by, n_check_belief, n_is_game_by, n_check_game, n_is_lot_of, n_ordered, n_are_parts_of, n_how_many, n_check_parts, n_check_both, n_check_lot, n_alike_in, n_number_of, n_sure_look, n_lies_in, n_both_by, n_both_parts, n_known_by, n_both_know, n_known_along, n_known_by_all, n_check_told, n_likely_by, n_tellings, n_told_in_turn, n_agreed_by, n_agreed, n_check_asked, n_weighed, n_pays_at, n_worth_by, n_worth, n__law_hash, n__law_random, n__law_cell, n__law_generator, n__law_frac, n__law_below, n__law_exact, n__law_game, n__law_drawn_parts, n__law_full, n__law_known_right, n__law_worths_right, n_law]

def glL : List D := [.int 8, .int 6, .int 8, .tup [.int 1, .int 1], .tup [.int 0, .int 1]]
def glD (i : Nat) : Option D := glL[i]?
end TL

set_option maxRecDepth 100000
namespace TL
open PySem
variable (C : Cfg)
theorem gcd_step (a b : Int) (ha : 0 ≤ a) (hb : 0 < b) : (Int.gcd b (a % b) : Int) = Int.gcd a b := by
  have := Int.gcd_comm b (a % b)
  have h2 : Int.gcd (a % b) b = Int.gcd a b := by
    rw [Int.emod_def, Int.mul_comm]; exact Int.gcd_sub_mul_right_left b a (a / b)
  rw [this, h2]
theorem gcd_loop : ∀ (n : Nat) (a b : Int), 0 ≤ a → 0 ≤ b → b.toNat ≤ n → loopU (evalE C (.cmp .gt (.e (.var 1)) (.e (.int 0)))) (execs C [.par [0, 1] [.e (.var 1), .e (.bin .mod (.e (.var 0)) (.e (.var 1)))]]) [some (.frz (.int a)), some (.frz (.int b))] = .next [some (.frz (.int (Int.gcd a b))), some (.frz (.int 0))] := by
  have stop : ∀ a : Int, 0 ≤ a → loopU (evalE C (.cmp .gt (.e (.var 1)) (.e (.int 0)))) (execs C [.par [0, 1] [.e (.var 1), .e (.bin .mod (.e (.var 0)) (.e (.var 1)))]]) [some (.frz (.int a)), some (.frz (.int 0))] = .next [some (.frz (.int (Int.gcd a 0))), some (.frz (.int 0))] := fun a ha => by
    rw [loopU_eq]
    show FRes.next [some (.frz (.int a)), some (.frz (.int 0))] = _
    simp [Int.natAbs_of_nonneg ha]
  intro n
  induction n with
  | zero =>
    intro a b ha hb hn
    obtain rfl : b = 0 := by omega
    exact stop a ha
  | succ n ih =>
    intro a b ha hb hn
    by_cases h : 0 < b
    · rw [loopU_eq]
      have e1 : evalE C (.cmp .gt (.e (.var 1)) (.e (.int 0))) [some (.frz (.int a)), some (.frz (.int b))] = .ok (.bl true) [some (.frz (.int a)), some (.frz (.int b))] := by
        show Res.ok (D.bl (decide (0 < b))) _ = _
        rw [decide_eq_true h]
        rfl
      have e2 : execs C [.par [0, 1] [.e (.var 1), .e (.bin .mod (.e (.var 0)) (.e (.var 1)))]] [some (.frz (.int a)), some (.frz (.int b))] = .next [some (.frz (.int b)), some (.frz (.int (a % b)))] := by
        simp [execs, exec, evalOs, evalO, evalE, evalP, En.at, En.put, O.toD, Res.bind, Res.st, PV.get, ofOpt, opB, h, FRes.bind, optF, putAll]
      rw [e1]
      simp only [Res.st]
      rw [e2]
      simp only [FRes.bind]
      rw [ih b (a % b) (by omega) (Int.emod_nonneg _ (by omega)) (by have := Int.emod_lt_of_pos a h; omega), gcd_step a b ha h]
    · obtain rfl : b = 0 := by omega
      exact stop a ha
noncomputable abbrev CT (k : Nat) : Nat → List O → CRes := callT tdefs glD loopU k
noncomputable abbrev CC (k : Nat) : Cfg := ⟨CT k, glD, loopU⟩
theorem ct_eq (k f : Nat) (os : List O) {d : TDef} (h : tdefs[f]? = some d) : CT (k + 1) f os = runDef (CC k) d os := by
  show callT tdefs glD loopU (k + 1) f os = _
  simp only [callT, h]
theorem absI_gcd (a b : Int) : Int.gcd (absI a) (absI b) = Int.gcd a b := by
  have h : ∀ x : Int, (absI x).natAbs = x.natAbs := fun x => by unfold absI; split <;> simp
  unfold Int.gcd
  rw [h, h]
theorem absI_nonneg (a : Int) : 0 ≤ absI a := by unfold absI; split <;> omega
theorem c_gcd (k : Nat) (a b : Int) : CT (k + 1) 1 [.frz (.int a), .frz (.int b)] = .ok (.frz (.int (Int.gcd a b))) [none, none] := by
  rw [ct_eq k 1 _ (d := t_common_divisor) rfl]
  refine run_ret (e := [some (.frz (.int (Int.gcd a b))), some (.frz (.int 0))]) ?_ rfl ⟨rfl, rfl⟩ rfl
  show execs _ (_ :: _ :: _ :: []) [some (.frz (.int a)), some (.frz (.int b))] = _
  rw [execs_cons, show exec (CC k) (.par [0, 1] [.e (.blt .abs [.e (.var 0)]), .e (.blt .abs [.e (.var 1)])]) [some (.frz (.int a)), some (.frz (.int b))] = .next [some (.frz (.int (absI a))), some (.frz (.int (absI b)))] from rfl, bind_next, execs_cons]
  rw [show exec (CC k) (.while_ (.cmp .gt (.e (.var 1)) (.e (.int 0))) [.par [0, 1] [.e (.var 1), .e (.bin .mod (.e (.var 0)) (.e (.var 1)))]]) [some (.frz (.int (absI a))), some (.frz (.int (absI b)))] = .next [some (.frz (.int (Int.gcd a b))), some (.frz (.int 0))] from by
    rw [← absI_gcd a b]
    exact gcd_loop (CC k) (absI b).toNat (absI a) (absI b) (absI_nonneg a) (absI_nonneg b) (Nat.le_refl _)]
  rfl
/-! ### fractions -/
def fr (q : Rat) : D := .tup [.int q.num, .int q.den]
theorem log2_le {a b : Nat} (h : a ≤ b) : a.log2 ≤ b.log2 := by
  by_cases h0 : a = 0
  · subst h0; simp
  · have hb : b ≠ 0 := by omega
    refine Nat.le_of_lt_succ ((Nat.log2_lt h0).mpr (Nat.lt_of_le_of_lt h ?_))
    exact (Nat.log2_lt hb).mp (Nat.lt_succ_self _)
theorem log2_mul (a b : Nat) : (a * b).log2 ≤ a.log2 + b.log2 + 1 := by
  by_cases ha : a = 0
  · subst ha; simp
  by_cases hb : b = 0
  · subst hb; simp
  refine Nat.le_of_lt_succ ((Nat.log2_lt (Nat.mul_ne_zero ha hb)).mpr ?_)
  have h1 := (Nat.log2_lt ha).mp (Nat.lt_succ_self _)
  have h2 := (Nat.log2_lt hb).mp (Nat.lt_succ_self _)
  have : a * b < 2 ^ (a.log2 + 1) * 2 ^ (b.log2 + 1) := Nat.mul_lt_mul'' h1 h2
  rw [← Nat.pow_add] at this
  exact Nat.lt_of_lt_of_le this (Nat.pow_le_pow_right (by omega) (by omega))
theorem log2_add (a b : Nat) : (a + b).log2 ≤ max a.log2 b.log2 + 1 := by
  by_cases h0 : a + b = 0
  · rw [h0]; simp
  refine Nat.le_of_lt_succ ((Nat.log2_lt h0).mpr ?_)
  have l1 : a < 2 ^ (max a.log2 b.log2 + 1) := by
    by_cases ha : a = 0
    · subst ha; exact Nat.two_pow_pos _
    · exact Nat.lt_of_lt_of_le ((Nat.log2_lt ha).mp (Nat.lt_succ_self _)) (Nat.pow_le_pow_right (by omega) (by omega))
  have l2 : b < 2 ^ (max a.log2 b.log2 + 1) := by
    by_cases hb : b = 0
    · subst hb; exact Nat.two_pow_pos _
    · exact Nat.lt_of_lt_of_le ((Nat.log2_lt hb).mp (Nat.lt_succ_self _)) (Nat.pow_le_pow_right (by omega) (by omega))
  rw [Nat.pow_succ]
  omega
theorem fr_pos {t u : Int} (hu : 0 < u) : fr (Rat.divInt t u) = .tup [.int (t / Int.gcd t u), .int (u / Int.gcd t u)] := by
  have en : (Rat.divInt t u).num = t / Int.gcd t u := by
    rw [Rat.num_divInt, Int.sign_eq_one_of_pos hu, Int.one_mul, Int.gcd_comm]
  have ed : ((Rat.divInt t u).den : Int) = u / Int.gcd t u := by
    rw [Rat.den_divInt, if_neg (by omega), Int.gcd_comm, Int.natCast_ediv, Int.natAbs_of_nonneg (by omega)]
  rw [fr, en, ed]
theorem low_tail (k : Nat) (t u : Int) (hu : 0 < u) (hb : u.natAbs.log2 < 9000) : execs (CC (k + 1)) [.asg 2 (.e (.call 1 [.d (.var 0), .d (.var 1)] [])), .ret (.e (.tup [.e (.bin .fdiv (.e (.var 0)) (.e (.var 2))), .e (.bin .fdiv (.e (.var 1)) (.e (.var 2)))]))] [some (.frz (.int t)), some (.frz (.int u)), none] = .ret (.frz (fr (Rat.divInt t u))) [some (.frz (.int t)), some (.frz (.int u)), some (.frz (.int (Int.gcd t u)))] := by
  have hg : 0 < (Int.gcd t u : Int) := by
    have := Int.gcd_pos_of_ne_zero_right t (b := u) (by omega)
    omega
  have hd : divOk (Int.gcd t u) = true := by
    unfold divOk
    have h1 : Int.gcd t u ≤ u.natAbs := Nat.le_of_dvd (by omega) (Nat.gcd_dvd_right ..)
    simp only [Bool.and_eq_true, decide_eq_true_eq]
    refine ⟨hg, ?_⟩
    rw [Int.natAbs_natCast]
    exact Nat.lt_of_le_of_lt (log2_le h1) hb
  have e1 : exec (CC (k + 1)) (.asg 2 (.e (.call 1 [.d (.var 0), .d (.var 1)] []))) [some (.frz (.int t)), some (.frz (.int u)), none] = .next [some (.frz (.int t)), some (.frz (.int u)), some (.frz (.int (Int.gcd t u)))] := by
    have h : evalE (CC (k + 1)) (.call 1 [.d (.var 0), .d (.var 1)] []) [some (.frz (.int t)), some (.frz (.int u)), none] = .ok (.int (Int.gcd t u)) [some (.frz (.int t)), some (.frz (.int u)), none] := by
      show Res.bind (doCall (CC (k + 1)) 1 ([.int t, .int u].map AV.v) [some (.frz (.int t)), some (.frz (.int u)), none]) _ = _
      rw [doCall_v (outs := [none, none]) (c_gcd k t u) rfl]
      rfl
    simp only [exec, evalO, h, Res.bind, Res.st]
    rfl
  rw [execs_cons, e1, bind_next, execs_cons]
  have e2 : exec (CC (k + 1)) (.ret (.e (.tup [.e (.bin .fdiv (.e (.var 0)) (.e (.var 2))), .e (.bin .fdiv (.e (.var 1)) (.e (.var 2)))]))) [some (.frz (.int t)), some (.frz (.int u)), some (.frz (.int (Int.gcd t u)))] = .ret (.frz (.tup [.int (t / Int.gcd t u), .int (u / Int.gcd t u)])) [some (.frz (.int t)), some (.frz (.int u)), some (.frz (.int (Int.gcd t u)))] := by
    simp [exec, evalO, evalE, evalLs, evalP, En.at, En.put, O.toD, Res.bind, Res.st, PV.get, ofOpt, opB, hd]
  rw [e2, bind_ret, fr_pos hu]
theorem c_lowest (k : Nat) (t u : Int) (hu : u ≠ 0) (hb : u.natAbs.log2 < 9000) : ∃ o, CT (k + 2) 2 [.frz (.int t), .frz (.int u)] = .ok (.frz (fr (Rat.divInt t u))) o ∧ o.length = 2 := by
  rw [ct_eq (k + 1) 2 _ (d := t_lowest) rfl]
  by_cases hn : u < 0
  · refine ⟨[none, none], run_ret (e := [some (.frz (.int (0 - t))), some (.frz (.int (0 - u))), some (.frz (.int (Int.gcd (0 - t) (0 - u))))]) ?_ rfl ⟨rfl, rfl⟩ rfl, rfl⟩
    show execs _ (_ :: _ :: _ :: []) [some (.frz (.int t)), some (.frz (.int u)), none] = _
    rw [execs_cons]
    have e1 : exec (CC (k + 1)) (.if_ (.cmp .lt (.e (.var 1)) (.e (.int 0))) [.par [0, 1] [.e (.bin .sub (.e (.int 0)) (.e (.var 0))), .e (.bin .sub (.e (.int 0)) (.e (.var 1)))]] []) [some (.frz (.int t)), some (.frz (.int u)), none] = .next [some (.frz (.int (0 - t))), some (.frz (.int (0 - u))), none] := by
      show (match D.bl (decide (u < 0)) with | .bl true => _ | .bl false => _ | _ => _) = _
      rw [decide_eq_true hn]
      rfl
    rw [e1, bind_next]
    have := low_tail k (0 - t) (0 - u) (by omega) (by have : (0 - u).natAbs = u.natAbs := by omega
                                                      rw [this]; exact hb)
    rw [this, Int.zero_sub, Int.zero_sub, Rat.neg_divInt_neg]
  · refine ⟨[none, none], run_ret (e := [some (.frz (.int t)), some (.frz (.int u)), some (.frz (.int (Int.gcd t u)))]) ?_ rfl ⟨rfl, rfl⟩ rfl, rfl⟩
    show execs _ (_ :: _ :: _ :: []) [some (.frz (.int t)), some (.frz (.int u)), none] = _
    rw [execs_cons]
    have e1 : exec (CC (k + 1)) (.if_ (.cmp .lt (.e (.var 1)) (.e (.int 0))) [.par [0, 1] [.e (.bin .sub (.e (.int 0)) (.e (.var 0))), .e (.bin .sub (.e (.int 0)) (.e (.var 1)))]] []) [some (.frz (.int t)), some (.frz (.int u)), none] = .next [some (.frz (.int t)), some (.frz (.int u)), none] := by
      show (match D.bl (decide (u < 0)) with | .bl true => _ | .bl false => _ | _ => _) = _
      rw [decide_eq_false hn]
      rfl
    rw [e1, bind_next]
    exact low_tail k t u (by omega) hb
/-- the sizes of a fraction -/
def Sz (B : Nat) (q : Rat) : Prop := q.num.natAbs.log2 ≤ B ∧ q.den.log2 ≤ B
theorem mul_ok {a b : Int} {A B : Nat} (ha : a.natAbs.log2 ≤ A) (hb : b.natAbs.log2 ≤ B) (h : A + B < 1000000) : mulOk a b = true := by
  unfold mulOk
  simp only [decide_eq_true_eq]
  omega
theorem call_low {k : Nat} {as : List TA} {e e1 : En} {t u : Int} (ha : evalAs (CC (k + 2)) as e = .ok [.v (.int t), .v (.int u)] e1) (hu : u ≠ 0) (hb : u.natAbs.log2 < 9000) : evalO (CC (k + 2)) (.call 2 as []) e = .ok (.frz (fr (Rat.divInt t u))) e1 := by
  obtain ⟨o, h1, h2⟩ := c_lowest k t u hu hb
  simp only [evalO, ha, Res.bind]
  exact doCall_v (ds := [.int t, .int u]) h1 h2
theorem c_plus (k : Nat) {p q : Rat} {A B : Nat} (hp : Sz A p) (hq : Sz B q) (h : A + B < 8000) : ∃ o, CT (k + 3) 5 [.frz (fr p), .frz (fr q)] = .ok (.frz (fr (p + q))) o ∧ o.length = 2 := by
  rw [ct_eq (k + 2) 5 _ (d := t_plus) rfl]
  refine ⟨[none, none], run_ret (e := [some (.frz (fr p)), some (.frz (fr q))]) ?_ rfl ⟨rfl, rfl⟩ rfl, rfl⟩
  show execs _ (_ :: []) [some (.frz (fr p)), some (.frz (fr q))] = _
  have m1 : mulOk p.num q.den = true := mul_ok hp.1 (by simpa using hq.2) (by omega)
  have m2 : mulOk q.num p.den = true := mul_ok hq.1 (by simpa using hp.2) (by omega)
  have m3 : mulOk p.den q.den = true := mul_ok (by simpa using hp.2) (by simpa using hq.2) (by omega)
  have hd : ((p.den : Int) * (q.den : Int)) ≠ 0 := by
    have h1 := p.den_pos
    have h2 := q.den_pos
    exact Int.mul_ne_zero (by omega) (by omega)
  have e := call_low (k := k) (as := [.d (.bin .add (.e (.bin .mul (.e (.sub (.e (.var 0)) (.int 0))) (.e (.sub (.e (.var 1)) (.int 1))))) (.e (.bin .mul (.e (.sub (.e (.var 1)) (.int 0))) (.e (.sub (.e (.var 0)) (.int 1)))))), .d (.bin .mul (.e (.sub (.e (.var 0)) (.int 1))) (.e (.sub (.e (.var 1)) (.int 1))))]) (e := [some (.frz (fr p)), some (.frz (fr q))]) (e1 := [some (.frz (fr p)), some (.frz (fr q))]) (t := p.num * q.den + q.num * p.den) (u := p.den * q.den)
    (by simp [evalAs, evalA, evalE, evalP, En.at, En.put, O.toD, Res.bind, PV.get, PV.sub, ofOpt, opB, fr, subD, ixAt, m1, m2, m3]) hd (by
      rw [Int.natAbs_mul, Int.natAbs_natCast, Int.natAbs_natCast]
      have := log2_mul p.den q.den
      have h1 := hp.2
      have h2 := hq.2
      omega)
  rw [execs_cons]
  have e2 : Rat.divInt (p.num * q.den + q.num * p.den) (p.den * q.den) = p + q := by
    rw [← Rat.divInt_add_divInt _ _ (by have := p.den_pos; omega) (by have := q.den_pos; omega), Rat.num_divInt_den, Rat.num_divInt_den]
  rw [e2] at e
  simp only [exec, e, Res.st]
  rfl
theorem c_times (k : Nat) {p q : Rat} {A B : Nat} (hp : Sz A p) (hq : Sz B q) (h : A + B < 8000) : ∃ o, CT (k + 3) 6 [.frz (fr p), .frz (fr q)] = .ok (.frz (fr (p * q))) o ∧ o.length = 2 := by
  rw [ct_eq (k + 2) 6 _ (d := t_times) rfl]
  refine ⟨[none, none], run_ret (e := [some (.frz (fr p)), some (.frz (fr q))]) ?_ rfl ⟨rfl, rfl⟩ rfl, rfl⟩
  show execs _ (_ :: []) [some (.frz (fr p)), some (.frz (fr q))] = _
  have m1 : mulOk p.num q.num = true := mul_ok hp.1 hq.1 (by omega)
  have m3 : mulOk p.den q.den = true := mul_ok (by simpa using hp.2) (by simpa using hq.2) (by omega)
  have hd : ((p.den : Int) * (q.den : Int)) ≠ 0 := by
    have h1 := p.den_pos
    have h2 := q.den_pos
    exact Int.mul_ne_zero (by omega) (by omega)
  have e := call_low (k := k) (as := [.d (.bin .mul (.e (.sub (.e (.var 0)) (.int 0))) (.e (.sub (.e (.var 1)) (.int 0)))), .d (.bin .mul (.e (.sub (.e (.var 0)) (.int 1))) (.e (.sub (.e (.var 1)) (.int 1))))]) (e := [some (.frz (fr p)), some (.frz (fr q))]) (e1 := [some (.frz (fr p)), some (.frz (fr q))]) (t := p.num * q.num) (u := p.den * q.den)
    (by simp [evalAs, evalA, evalE, evalP, En.at, En.put, O.toD, Res.bind, PV.get, PV.sub, ofOpt, opB, fr, subD, ixAt, m1, m3]) hd (by
      rw [Int.natAbs_mul, Int.natAbs_natCast, Int.natAbs_natCast]
      have := log2_mul p.den q.den
      have h1 := hp.2
      have h2 := hq.2
      omega)
  rw [execs_cons]
  have e2 : Rat.divInt (p.num * q.num) (p.den * q.den) = p * q := by
    rw [← Rat.divInt_mul_divInt, Rat.num_divInt_den, Rat.num_divInt_den]
  rw [e2] at e
  simp only [exec, e, Res.st]
  rfl
theorem c_over (k : Nat) {p q : Rat} {A B : Nat} (hp : Sz A p) (hq : Sz B q) (h : A + B < 8000) (h0 : q ≠ 0) : ∃ o, CT (k + 3) 7 [.frz (fr p), .frz (fr q)] = .ok (.frz (fr (p / q))) o ∧ o.length = 2 := by
  rw [ct_eq (k + 2) 7 _ (d := t_over) rfl]
  refine ⟨[none, none], run_ret (e := [some (.frz (fr p)), some (.frz (fr q))]) ?_ rfl ⟨rfl, rfl⟩ rfl, rfl⟩
  show execs _ (_ :: []) [some (.frz (fr p)), some (.frz (fr q))] = _
  have m1 : mulOk p.num q.den = true := mul_ok hp.1 (by simpa using hq.2) (by omega)
  have m3 : mulOk p.den q.num = true := mul_ok (by simpa using hp.2) hq.1 (by omega)
  have hn : q.num ≠ 0 := fun z => h0 (Rat.num_eq_zero.mp z)
  have hd : ((p.den : Int) * q.num) ≠ 0 := by
    have h1 := p.den_pos
    exact Int.mul_ne_zero (by omega) hn
  have e := call_low (k := k) (as := [.d (.bin .mul (.e (.sub (.e (.var 0)) (.int 0))) (.e (.sub (.e (.var 1)) (.int 1)))), .d (.bin .mul (.e (.sub (.e (.var 0)) (.int 1))) (.e (.sub (.e (.var 1)) (.int 0))))]) (e := [some (.frz (fr p)), some (.frz (fr q))]) (e1 := [some (.frz (fr p)), some (.frz (fr q))]) (t := p.num * q.den) (u := p.den * q.num)
    (by simp [evalAs, evalA, evalE, evalP, En.at, En.put, O.toD, Res.bind, PV.get, PV.sub, ofOpt, opB, fr, subD, ixAt, m1, m3]) hd (by
      rw [Int.natAbs_mul, Int.natAbs_natCast]
      have := log2_mul p.den q.num.natAbs
      have h1 := hp.2
      have h2 := hq.1
      omega)
  rw [execs_cons]
  have e2 : Rat.divInt (p.num * q.den) (p.den * q.num) = p / q := by
    rw [Rat.div_def]
    conv => rhs; rw [← Rat.num_divInt_den p, ← Rat.num_divInt_den q, Rat.inv_divInt, Rat.divInt_mul_divInt]
  rw [e2] at e
  simp only [exec, e, Res.st]
  rfl
theorem c_less (k : Nat) {p q : Rat} {A B : Nat} (hp : Sz A p) (hq : Sz B q) (h : A + B < 8000) : CT (k + 1) 8 [.frz (fr p), .frz (fr q)] = .ok (.frz (.bl (decide (p < q)))) [none, none] := by
  rw [ct_eq k 8 _ (d := t_is_less) rfl]
  refine run_ret (e := [some (.frz (fr p)), some (.frz (fr q))]) ?_ rfl ⟨rfl, rfl⟩ rfl
  show execs _ (_ :: []) [some (.frz (fr p)), some (.frz (fr q))] = _
  have m1 : mulOk p.num q.den = true := mul_ok hp.1 (by simpa using hq.2) (by omega)
  have m2 : mulOk q.num p.den = true := mul_ok hq.1 (by simpa using hp.2) (by omega)
  have e3 : decide (p.num * (q.den : Int) < q.num * (p.den : Int)) = decide (p < q) := decide_eq_decide.mpr (Rat.lt_iff p q).symm
  rw [execs_cons, ← e3]
  simp [exec, evalO, evalE, evalP, En.at, En.put, O.toD, Res.bind, Res.st, PV.get, PV.sub, ofOpt, opB, opC, fr, subD, ixAt, m1, m2, bind_ret]
end TL

/-! parts lists as classes of an equivalence: plain facts -/
namespace TL
structure Eqv (r : Nat → Nat → Bool) : Prop where
  refl : ∀ s, r s s = true
  symm : ∀ {s t}, r s t = true → r t s = true
  trans : ∀ {s t u}, r s t = true → r t u = true → r s u = true
theorem Eqv.of {α : Type} [DecidableEq α] (u : Nat → α) : Eqv fun s t => decide (u s = u t) where
  refl s := by simp
  symm h := by simp at h ⊢; exact h.symm
  trans h g := by simp at h g ⊢; exact h.trans g
theorem Eqv.and {r q : Nat → Nat → Bool} (h : Eqv r) (g : Eqv q) : Eqv fun s t => r s t && q s t where
  refl s := by simp [h.refl, g.refl]
  symm a := by simp at a ⊢; exact ⟨h.symm a.1, g.symm a.2⟩
  trans a b := by simp at a b ⊢; exact ⟨h.trans a.1 b.1, g.trans a.2 b.2⟩
theorem Eqv.comm {r : Nat → Nat → Bool} (h : Eqv r) (s t : Nat) : r s t = r t s := by
  cases a : r s t with
  | true => exact (h.symm a).symm
  | false => cases b : r t s with
    | true => rw [h.symm b] at a; cases a
    | false => rfl
theorem Eqv.left {r : Nat → Nat → Bool} (h : Eqv r) {q s : Nat} (a : r q s = true) (t : Nat) : r q t = r s t := by
  cases b : r s t with
  | true => exact h.trans a b
  | false => cases c : r q t with
    | true => rw [h.trans (h.symm a) c] at b; cases b
    | false => rfl
def isRep (r : Nat → Nat → Bool) (s : Nat) : Bool := (List.range s).all fun t => !r t s
def reps (n : Nat) (r : Nat → Nat → Bool) : List Nat := (List.range n).filter (isRep r)
def cls (n : Nat) (r : Nat → Nat → Bool) (s : Nat) : List Nat := (List.range n).filter (r s)
def grp (n : Nat) (r : Nat → Nat → Bool) : List (List Nat) := (reps n r).map (cls n r)
variable {n : Nat} {r : Nat → Nat → Bool}
theorem isRep_iff {s : Nat} : isRep r s = true ↔ ∀ t, t < s → r t s = false := by
  unfold isRep
  simp
theorem mem_reps {q : Nat} : q ∈ reps n r ↔ q < n ∧ ∀ t, t < q → r t q = false := by
  unfold reps
  rw [List.mem_filter, List.mem_range, isRep_iff]
theorem mem_cls {q s : Nat} : s ∈ cls n r q ↔ s < n ∧ r q s = true := by
  unfold cls
  rw [List.mem_filter, List.mem_range]
theorem grp_congr {p : Nat → Nat → Bool} (h : ∀ s t, s < n → t < n → r s t = p s t) : grp n r = grp n p := by
  have e : reps n r = reps n p := by
    unfold reps
    apply List.filter_congr
    intro s hs
    rw [List.mem_range] at hs
    rw [Bool.eq_iff_iff, isRep_iff, isRep_iff]
    constructor <;> intro g t ht
    · rw [← h t s (by omega) hs]; exact g t ht
    · rw [h t s (by omega) hs]; exact g t ht
  unfold grp
  rw [e]
  apply List.map_congr_left
  intro q hq
  have := (mem_reps.mp hq).1
  unfold cls
  apply List.filter_congr
  intro s hs
  rw [List.mem_range] at hs
  exact h q s this hs
theorem exists_rep (h : Eqv r) : ∀ {s : Nat}, s < n → ∃ q, q ∈ reps n r ∧ r q s = true := by
  intro s
  induction s using Nat.strongRecOn with
  | ind s ih =>
    intro hs
    by_cases g : ∀ t, t < s → r t s = false
    · exact ⟨s, mem_reps.mpr ⟨hs, g⟩, h.refl s⟩
    · obtain ⟨t, ht⟩ := Classical.not_forall.mp g
      obtain ⟨h1, h2⟩ := Classical.not_imp.mp ht
      have h2 : r t s = true := by simpa using h2
      obtain ⟨q, hq, hr⟩ := ih t h1 (by omega)
      exact ⟨q, hq, h.trans hr h2⟩
theorem rep_uniq (h : Eqv r) {q p : Nat} (hq : q ∈ reps n r) (hp : p ∈ reps n r) (hr : r q p = true) : q = p := by
  have a := mem_reps.mp hq
  have b := mem_reps.mp hp
  by_cases h1 : q < p
  · have := b.2 q h1; rw [hr] at this; cases this
  · by_cases h2 : p < q
    · have := a.2 p h2; rw [h.symm hr] at this; cases this
    · omega
theorem grp_len_le : (grp n r).length ≤ n := by
  unfold grp reps
  rw [List.length_map]
  have := List.length_filter_le (isRep r) (List.range n)
  simpa using this
theorem reps_lt : (reps n r).Pairwise (· < ·) := List.pairwise_lt_range.filter _
theorem cls_lt {q : Nat} : (cls n r q).Pairwise (· < ·) := List.pairwise_lt_range.filter _
theorem mem_grp {l : List Nat} : l ∈ grp n r ↔ ∃ q, q ∈ reps n r ∧ cls n r q = l := by
  unfold grp; exact List.mem_map
theorem cls_head (h : Eqv r) {q : Nat} (hq : q ∈ reps n r) : ∃ l, cls n r q = q :: l := by
  have a := mem_reps.mp hq
  have hm : q ∈ cls n r q := mem_cls.mpr ⟨a.1, h.refl q⟩
  cases e : cls n r q with
  | nil => rw [e] at hm; cases hm
  | cons x l =>
    have hx : x ∈ cls n r q := by rw [e]; exact List.mem_cons_self
    have hx2 := mem_cls.mp hx
    have hs := cls_lt (n := n) (r := r) (q := q)
    rw [e] at hs hm
    have : x = q := by
      rcases List.mem_cons.mp hm with z | z
      · exact z.symm
      · have := (List.pairwise_cons.mp hs).1 q z
        have := a.2 x this
        rw [h.symm hx2.2] at this
        cases this
    exact ⟨l, by rw [this]⟩
theorem grp_lt {l : List Nat} (hl : l ∈ grp n r) : l.Pairwise (· < ·) := by
  obtain ⟨q, _, e⟩ := mem_grp.mp hl
  rw [← e]; exact cls_lt
theorem grp_mem_lt {l : List Nat} (hl : l ∈ grp n r) {s : Nat} (hs : s ∈ l) : s < n := by
  obtain ⟨q, _, e⟩ := mem_grp.mp hl
  rw [← e] at hs; exact (mem_cls.mp hs).1
theorem grp_ne (h : Eqv r) {l : List Nat} (hl : l ∈ grp n r) : l ≠ [] := by
  obtain ⟨q, hq, e⟩ := mem_grp.mp hl
  obtain ⟨l', e'⟩ := cls_head h hq
  rw [← e, e']; exact List.cons_ne_nil _ _
theorem grp_heads (h : Eqv r) : (grp n r).Pairwise fun a b => a.headD 0 < b.headD 0 := by
  unfold grp
  rw [List.pairwise_map]
  refine List.Pairwise.imp_of_mem (fun {a b} ha hb hab => ?_) (reps_lt (n := n) (r := r))
  obtain ⟨l, e⟩ := cls_head h ha
  obtain ⟨l', e'⟩ := cls_head h hb
  rw [e, e']
  exact hab
theorem grp_flat_nodup (h : Eqv r) : (grp n r).flatten.Nodup := by
  unfold List.Nodup
  rw [List.pairwise_flatten]
  refine ⟨fun l hl => (grp_lt hl).imp fun a => Nat.ne_of_lt a, ?_⟩
  unfold grp
  rw [List.pairwise_map]
  refine List.Pairwise.imp_of_mem (fun {a b} ha hb hab => ?_) (reps_lt (n := n) (r := r))
  intro x hx y hy e
  subst e
  have := rep_uniq h ha hb (h.trans (mem_cls.mp hx).2 (h.symm (mem_cls.mp hy).2))
  omega
theorem grp_flat_mem (h : Eqv r) {s : Nat} : s ∈ (grp n r).flatten ↔ s < n := by
  rw [List.mem_flatten]
  constructor
  · rintro ⟨l, hl, hs⟩
    exact grp_mem_lt hl hs
  · intro hs
    obtain ⟨q, hq, hr⟩ := exists_rep h hs
    exact ⟨cls n r q, mem_grp.mpr ⟨q, hq, rfl⟩, mem_cls.mpr ⟨hs, hr⟩⟩
theorem grp_flat (h : Eqv r) : (grp n r).flatten.Perm (List.range n) := by
  rw [List.perm_ext_iff_of_nodup (grp_flat_nodup h) List.nodup_range]
  intro a
  rw [grp_flat_mem h, List.mem_range]
/-- the number of the lot of a standing -/
def num (P : List (List Nat)) (s : Nat) : Nat := P.findIdx fun l => l.contains s
theorem num_lt (h : Eqv r) {s : Nat} (hs : s < n) : num (grp n r) s < (grp n r).length := by
  apply List.findIdx_lt_length_of_exists
  obtain ⟨q, hq, hr⟩ := exists_rep h hs
  exact ⟨cls n r q, mem_grp.mpr ⟨q, hq, rfl⟩, by simp [mem_cls, hs, hr]⟩
theorem num_get (h : Eqv r) {s t : Nat} (hs : s < n) (ht : t < n) (hl : num (grp n r) s < (grp n r).length) : t ∈ (grp n r)[num (grp n r) s] ↔ r s t = true := by
  have h1 := List.findIdx_getElem (p := fun l : List Nat => l.contains s) (xs := grp n r) (w := hl)
  have hm : (grp n r)[num (grp n r) s] ∈ grp n r := List.getElem_mem hl
  obtain ⟨q, hq, e⟩ := mem_grp.mp hm
  have h1 : s ∈ (grp n r)[num (grp n r) s] := List.contains_iff_mem.mp h1
  rw [← e] at h1 ⊢
  rw [mem_cls] at h1 ⊢
  have := h.left h1.2 t
  rw [this]
  exact ⟨fun z => z.2, fun z => ⟨ht, z⟩⟩
theorem num_iff (h : Eqv r) {s t : Nat} (hs : s < n) (ht : t < n) : num (grp n r) s = num (grp n r) t ↔ r s t = true := by
  constructor
  · intro e
    have hl := num_lt h hs
    have hl' := num_lt h ht
    have := (num_get h ht ht hl').mpr (h.refl t)
    rw [← num_get h hs ht hl]
    simpa [e] using this
  · intro hr
    unfold num
    have : ∀ l, l ∈ grp n r → l.contains s = l.contains t := by
      intro l hl
      obtain ⟨q, hq, e⟩ := mem_grp.mp hl
      rw [Bool.eq_iff_iff, List.contains_iff_mem, List.contains_iff_mem, ← e, mem_cls, mem_cls]
      constructor
      · rintro ⟨_, z⟩; exact ⟨ht, h.trans z hr⟩
      · rintro ⟨_, z⟩; exact ⟨hs, h.trans z (h.symm hr)⟩
    generalize grp n r = P at this
    induction P with
    | nil => rfl
    | cons a P ih =>
      rw [List.findIdx_cons, List.findIdx_cons, this a List.mem_cons_self, ih fun l hl => this l (List.mem_cons_of_mem _ hl)]
theorem num_dec (h : Eqv r) {s t : Nat} (hs : s < n) (ht : t < n) : decide (num (grp n r) s = num (grp n r) t) = r s t := by
  rw [Bool.eq_iff_iff, decide_eq_true_eq]
  exact num_iff h hs ht
theorem grp_inj {p : Nat → Nat → Bool} (h : Eqv r) (g : Eqv p) (e : grp n r = grp n p) {s t : Nat} (hs : s < n) (ht : t < n) : r s t = p s t := by
  rw [← num_dec h hs ht, ← num_dec g hs ht, e]
/-- a standing more -/
theorem grp_new (h : Eqv r) {m : Nat} (hn : ∀ t, t < m → r t m = false) : grp (m + 1) r = grp m r ++ [[m]] := by
  have e : reps (m + 1) r = reps m r ++ [m] := by
    unfold reps
    rw [List.range_succ, List.filter_append]
    have : isRep r m = true := isRep_iff.mpr hn
    simp [this]
  unfold grp
  rw [e, List.map_append]
  congr 1
  · apply List.map_congr_left
    intro q hq
    have := (mem_reps.mp hq).1
    unfold cls
    rw [List.range_succ, List.filter_append]
    simp [hn q this]
  · unfold cls
    simp only [List.map_cons, List.map_nil]
    rw [List.range_succ, List.filter_append]
    have : List.filter (r m) (List.range m) = [] := by
      rw [List.filter_eq_nil_iff]
      intro t ht
      rw [List.mem_range] at ht
      rw [h.comm, hn t ht]
      simp
    rw [this]
    simp [h.refl]
theorem grp_old {m : Nat} (hn : ∃ t, t < m ∧ r t m = true) : grp (m + 1) r = (reps m r).map fun q => if r q m then cls m r q ++ [m] else cls m r q := by
  have e : reps (m + 1) r = reps m r := by
    unfold reps
    rw [List.range_succ, List.filter_append]
    have : isRep r m = false := by
      obtain ⟨t, ht, hr⟩ := hn
      rw [← Bool.not_eq_true, isRep_iff]
      intro z
      rw [z t ht] at hr
      cases hr
    simp [this]
  unfold grp
  rw [e]
  apply List.map_congr_left
  intro q hq
  unfold cls
  rw [List.range_succ, List.filter_append]
  by_cases z : r q m = true
  · simp [z]
  · simp [z]
theorem grp_zero : grp 0 r = [] := rfl
theorem grp_pos (h : Eqv r) (hn : 0 < n) : 0 < (grp n r).length := by
  have := num_lt h hn
  omega
/-- how many pairs -/
def pairsN (n : Nat) (r : Nat → Nat → Bool) : Nat := ((List.range n).flatMap fun s => (List.range n).map fun t => (s, t)).countP fun p => r p.1 p.2
theorem pairsN_lt {p : Nat → Nat → Bool} (h : ∀ s t, p s t = true → r s t = true) {s t : Nat} (hs : s < n) (ht : t < n) (h1 : r s t = true) (h2 : p s t = false) : pairsN n p < pairsN n r := by
  unfold pairsN
  have hm : (s, t) ∈ ((List.range n).flatMap fun s => (List.range n).map fun t => (s, t)) := by
    rw [List.mem_flatMap]
    exact ⟨s, List.mem_range.mpr hs, List.mem_map.mpr ⟨t, List.mem_range.mpr ht, rfl⟩⟩
  generalize ((List.range n).flatMap fun s => (List.range n).map fun t => (s, t)) = L at hm
  induction L with
  | nil => cases hm
  | cons a L ih =>
    rw [List.countP_cons, List.countP_cons]
    rcases List.mem_cons.mp hm with z | z
    · subst z
      have := List.countP_mono_left (p := fun q : Nat × Nat => p q.1 q.2) (q := fun q : Nat × Nat => r q.1 q.2) (l := L) (fun x _ hx => h _ _ hx)
      simp only [h1, h2]
      simp
      omega
    · have := ih z
      have h3 : (if p a.1 a.2 = true then 1 else 0) ≤ (if r a.1 a.2 = true then 1 else 0) := by
        by_cases c : p a.1 a.2 = true
        · simp [c, h _ _ c]
        · simp [c]
      omega
theorem pairsN_le : pairsN n r ≤ n * n := by
  unfold pairsN
  refine Nat.le_trans List.countP_le_length ?_
  have : ∀ L : List Nat, (L.flatMap fun s => (List.range n).map fun t => (s, t)).length = L.length * n := by
    intro L
    induction L with
    | nil => simp
    | cons a L ih => rw [List.flatMap_cons, List.length_append, ih, List.length_map, List.length_range, List.length_cons, Nat.succ_mul]; omega
  rw [this, List.length_range]
  exact Nat.le_refl _
end TL

/-! sums, greatest ones, what parts are worth -/
namespace TL
def sumN (f : Nat → Rat) : Nat → Rat
  | 0 => 0
  | m + 1 => sumN f m + f m
def sumQ (l : List Rat) : Rat := l.foldl (· + ·) 0
def maxF (l : List Rat) : Rat := l.foldl (fun f q => if f < q then q else f) (l.headD 0)
theorem sumQ_range (f : Nat → Rat) : ∀ m, sumQ ((List.range m).map f) = sumN f m
  | 0 => rfl
  | m + 1 => by
    unfold sumQ
    rw [List.range_succ, List.map_append, List.foldl_append]
    show (List.foldl (· + ·) 0 ((List.range m).map f)) + f m = _
    rw [show List.foldl (· + ·) 0 ((List.range m).map f) = sumQ ((List.range m).map f) from rfl, sumQ_range f m]
    rfl
theorem sumQ_filter (f : Nat → Rat) (p : Nat → Bool) : ∀ m, sumQ (((List.range m).filter p).map f) = sumN (fun s => if p s then f s else 0) m
  | 0 => rfl
  | m + 1 => by
    unfold sumQ
    rw [List.range_succ, List.filter_append, List.map_append, List.foldl_append, show List.foldl (· + ·) 0 (((List.range m).filter p).map f) = sumQ (((List.range m).filter p).map f) from rfl, sumQ_filter f p m]
    show _ = sumN _ m + _
    by_cases h : p m = true
    · simp [h]
    · simp [h, Rat.add_zero]
theorem sumN_congr {f g : Nat → Rat} : ∀ {m : Nat}, (∀ s, s < m → f s = g s) → sumN f m = sumN g m
  | 0, _ => rfl
  | m + 1, h => by
    rw [sumN, sumN, h m (by omega), sumN_congr fun s hs => h s (by omega)]
theorem sumN_add (f g : Nat → Rat) : ∀ m, sumN (fun s => f s + g s) m = sumN f m + sumN g m
  | 0 => by simp [sumN, Rat.add_zero]
  | m + 1 => by rw [sumN, sumN, sumN, sumN_add f g m]; grind
theorem sumN_le {f g : Nat → Rat} : ∀ {m : Nat}, (∀ s, s < m → f s ≤ g s) → sumN f m ≤ sumN g m
  | 0, _ => by simp [sumN]
  | m + 1, h => by
    have h1 := h m (by omega)
    have h2 := sumN_le (f := f) (g := g) (m := m) fun s hs => h s (by omega)
    rw [sumN, sumN]
    grind
theorem sumN_zero : ∀ m, sumN (fun _ => 0) m = 0
  | 0 => rfl
  | m + 1 => by rw [sumN, sumN_zero m, Rat.add_zero]
theorem sumN_nonneg {f : Nat → Rat} {m : Nat} (h : ∀ s, s < m → 0 ≤ f s) : 0 ≤ sumN f m := by
  rw [← sumN_zero m]; exact sumN_le h
theorem sumN_pos {f : Nat → Rat} : ∀ {m : Nat}, (∀ s, s < m → 0 ≤ f s) → (∃ s, s < m ∧ 0 < f s) → 0 < sumN f m
  | 0, _, ⟨s, h, _⟩ => by omega
  | m + 1, h, ⟨s, hs, hp⟩ => by
    rw [sumN]
    have h1 := h m (by omega)
    have h2 := sumN_nonneg (f := f) (m := m) fun t ht => h t (by omega)
    by_cases e : s = m
    · subst e; grind
    · have := sumN_pos (f := f) (m := m) (fun t ht => h t (by omega)) ⟨s, by omega, hp⟩
      grind
theorem sumN_pick (x : Rat) (f : Nat → Rat) (k : Nat) : ∀ m, sumN (fun j => (x * if k = j then 1 else 0) * f j) m = if k < m then x * f k else 0
  | 0 => by simp [sumN]
  | m + 1 => by
    rw [sumN, sumN_pick x f k m]
    by_cases h : k < m
    · have : ¬ k = m := by omega
      simp only [h, this, if_true, if_false, show k < m + 1 from by omega]
      grind
    · by_cases e : k = m
      · subst e
        simp
        grind
      · have : ¬ k < m + 1 := by omega
        simp only [h, e, this, if_false]
        grind
theorem gather (b : Nat → Rat) (k : Nat → Nat) (f : Nat → Nat → Rat) (m : Nat) : ∀ n, (∀ s, s < n → k s < m) → sumN (fun j => sumN (fun s => (b s * if k s = j then 1 else 0) * f j s) n) m = sumN (fun s => b s * f (k s) s) n
  | 0, _ => by simp only [sumN]; exact sumN_zero m
  | n + 1, h => by
    simp only [sumN]
    rw [sumN_add, gather b k f m n fun s hs => h s (by omega), sumN_pick (b n) (fun j => f j n) (k n) m, if_pos (h n (by omega))]
theorem foldl_ge (l : List Rat) : ∀ x : Rat, x ≤ l.foldl (fun f q => if f < q then q else f) x ∧ ∀ q ∈ l, q ≤ l.foldl (fun f q => if f < q then q else f) x := by
  induction l with
  | nil => intro x; exact ⟨Rat.le_refl, fun q hq => by cases hq⟩
  | cons a l ih =>
    intro x
    obtain ⟨h1, h2⟩ := ih (if x < a then a else x)
    rw [List.foldl_cons]
    have ha : a ≤ (if x < a then a else x) ∧ x ≤ (if x < a then a else x) := by split <;> grind
    refine ⟨Rat.le_trans ha.2 h1, fun q hq => ?_⟩
    rcases List.mem_cons.mp hq with z | z
    · subst z; exact Rat.le_trans ha.1 h1
    · exact h2 q z
theorem foldl_mem (l : List Rat) : ∀ x : Rat, l.foldl (fun f q => if f < q then q else f) x = x ∨ l.foldl (fun f q => if f < q then q else f) x ∈ l := by
  induction l with
  | nil => intro x; exact .inl rfl
  | cons a l ih =>
    intro x
    rw [List.foldl_cons]
    rcases ih (if x < a then a else x) with z | z
    · rw [z]
      split
      · exact .inr List.mem_cons_self
      · exact .inl rfl
    · exact .inr (List.mem_cons_of_mem _ z)
theorem maxF_ge {l : List Rat} {q : Rat} (h : q ∈ l) : q ≤ maxF l := (foldl_ge l _).2 q h
theorem maxF_mem {l : List Rat} (h : l ≠ []) : maxF l ∈ l := by
  rcases foldl_mem l (l.headD 0) with z | z
  · unfold maxF
    rw [z]
    cases l with
    | nil => exact absurd rfl h
    | cons a l => exact List.mem_cons_self
  · exact z
/-- what a parts list is worth -/
def wth (n : Nat) (P : List (List Nat)) (b : Nat → Rat) (pays : List (Nat → Rat)) : Rat :=
  sumN (fun j => maxF (pays.map fun pay => sumN (fun s => (b s * if num P s = j then 1 else 0) * pay s) n)) P.length
theorem wth_mono {n : Nat} {r p : Nat → Nat → Bool} (hr : Eqv r) (hp : Eqv p) (h : ∀ s t, r s t = true → p s t = true) (b : Nat → Rat) {pays : List (Nat → Rat)} (hn : pays ≠ []) : wth n (grp n p) b pays ≤ wth n (grp n r) b pays := by
  classical
  have hd : ∀ j : Nat, ∃ d, d ∈ pays ∧ maxF (pays.map fun pay => sumN (fun s => (b s * if num (grp n p) s = j then 1 else 0) * pay s) n) = sumN (fun s => (b s * if num (grp n p) s = j then 1 else 0) * d s) n := by
    intro j
    have := maxF_mem (l := pays.map fun pay => sumN (fun s => (b s * if num (grp n p) s = j then 1 else 0) * pay s) n) (by simpa using hn)
    obtain ⟨d, h1, h2⟩ := List.mem_map.mp this
    exact ⟨d, h1, h2.symm⟩
  have hc := Classical.axiomOfChoice hd
  obtain ⟨δ, hδ⟩ := hc
  unfold wth
  rw [sumN_congr fun j _ => (hδ j).2, gather b (num (grp n p)) δ _ n fun s hs => num_lt hp hs, ← gather b (num (grp n r)) (fun _ s => δ (num (grp n p) s) s) _ n fun s hs => num_lt hr hs]
  refine sumN_le fun j _ => ?_
  by_cases he : ∃ s, s < n ∧ num (grp n r) s = j
  · obtain ⟨s0, h0, e0⟩ := he
    have e : sumN (fun s => (b s * if num (grp n r) s = j then 1 else 0) * δ (num (grp n p) s) s) n = sumN (fun s => (b s * if num (grp n r) s = j then 1 else 0) * δ (num (grp n p) s0) s) n := by
      refine sumN_congr fun s hs => ?_
      by_cases z : num (grp n r) s = j
      · have : r s s0 = true := (num_iff hr hs h0).mp (z.trans e0.symm)
        rw [(num_iff hp hs h0).mpr (h _ _ this)]
      · simp only [z, if_false]
        grind
    rw [e]
    exact maxF_ge (List.mem_map.mpr ⟨_, (hδ _).1, rfl⟩)
  · have e : ∀ d : Nat → Rat, sumN (fun s => (b s * if num (grp n r) s = j then 1 else 0) * d s) n = 0 := by
      intro d
      refine (sumN_congr (g := fun _ => 0) fun s hs => ?_).trans (sumN_zero n)
      have : ¬ num (grp n r) s = j := fun z => he ⟨s, hs, z⟩
      simp only [this, if_false]
      grind
    have e2 : sumN (fun s => (b s * if num (grp n r) s = j then 1 else 0) * δ (num (grp n p) s) s) n = 0 := e fun s => δ (num (grp n p) s) s
    rw [e2]
    have h3 := maxF_ge (List.mem_map.mpr ⟨_, (hδ 0).1, rfl⟩ : sumN (fun s => (b s * if num (grp n r) s = j then 1 else 0) * δ 0 s) n ∈ pays.map fun pay => sumN (fun s => (b s * if num (grp n r) s = j then 1 else 0) * pay s) n)
    have h4 := e (δ 0)
    rw [h4] at h3
    exact h3
end TL

set_option maxRecDepth 100000
/-! how numbers, lots, fractions stand as data; loops over them -/
namespace TL
open PySem
def iD (n : Nat) : D := .int n
def iL (l : List Nat) : D := .lst (l.map iD)
def pL (P : List (List Nat)) : D := .lst (P.map iL)
def fL (q : List Rat) : D := .lst (q.map fr)
/-! ### == and depth -/
@[simp] theorem iD_eq (a b : Nat) : D.eq (iD a) (iD b) = decide (a = b) := by
  unfold iD
  rw [D.eq, Bool.eq_iff_iff, beq_iff_eq, decide_eq_true_eq]
  omega
theorem int_eq (a b : Int) : D.eq (.int a) (.int b) = decide (a = b) := by
  rw [D.eq, Bool.eq_iff_iff, beq_iff_eq, decide_eq_true_eq]
theorem eqs_map {α : Type} [DecidableEq α] {f : α → D} (h : ∀ a b, D.eq (f a) (f b) = decide (a = b)) : ∀ l m : List α, D.eqs (l.map f) (m.map f) = decide (l = m)
  | [], [] => by simp [D.eqs]
  | [], _ :: _ => by simp [D.eqs]
  | _ :: _, [] => by simp [D.eqs]
  | a :: l, b :: m => by
    rw [List.map_cons, List.map_cons, D.eqs, h, eqs_map h l m, Bool.eq_iff_iff]
    simp
@[simp] theorem iL_eq (l m : List Nat) : D.eq (iL l) (iL m) = decide (l = m) := by
  unfold iL
  rw [D.eq, eqs_map iD_eq]
@[simp] theorem pL_eq (l m : List (List Nat)) : D.eq (pL l) (pL m) = decide (l = m) := by
  unfold pL
  rw [D.eq, eqs_map iL_eq]
@[simp] theorem fr_eq (p q : Rat) : D.eq (fr p) (fr q) = decide (p = q) := by
  unfold fr
  rw [D.eq, D.eqs, D.eqs, D.eqs, int_eq, int_eq, Bool.eq_iff_iff]
  simp only [Bool.and_eq_true, Bool.and_true, decide_eq_true_eq]
  constructor
  · rintro ⟨h1, h2⟩
    exact Rat.ext h1 (by omega)
  · rintro h; subst h; exact ⟨rfl, rfl⟩
@[simp] theorem fL_eq (l m : List Rat) : D.eq (fL l) (fL m) = decide (l = m) := by
  unfold fL
  rw [D.eq, eqs_map fr_eq]
theorem oks_map {α : Type} {f : α → D} {n : Nat} (h : ∀ a, D.ok n (f a) = true) : ∀ l : List α, D.oks n (l.map f) = true
  | [] => by cases n <;> rfl
  | a :: l => by
    rw [List.map_cons, D.oks, h, oks_map h l]; rfl
@[simp] theorem iD_ok (n a : Nat) : D.ok n (iD a) = true := by cases n <;> rfl
@[simp] theorem int_ok' (n : Nat) (a : Int) : D.ok n (.int a) = true := by cases n <;> rfl
@[simp] theorem iL_ok (n : Nat) (l : List Nat) : D.ok (n + 1) (iL l) = true := by
  unfold iL
  rw [D.ok]; exact oks_map (iD_ok n) l
@[simp] theorem pL_ok (n : Nat) (l : List (List Nat)) : D.ok (n + 2) (pL l) = true := by
  unfold pL
  rw [D.ok]; exact oks_map (iL_ok n) l
@[simp] theorem fr_ok (n : Nat) (q : Rat) : D.ok (n + 1) (fr q) = true := by
  unfold fr
  rw [D.ok, D.oks, D.oks, D.oks]; simp
@[simp] theorem fL_ok (n : Nat) (l : List Rat) : D.ok (n + 2) (fL l) = true := by
  unfold fL
  rw [D.ok]; exact oks_map (fr_ok n) l
@[simp] theorem iDs_ok (n : Nat) (l : List Nat) : D.oks n (l.map iD) = true := oks_map (iD_ok n) l
@[simp] theorem iLs_ok (n : Nat) (l : List (List Nat)) : D.oks (n + 1) (l.map iL) = true := oks_map (iL_ok n) l
@[simp] theorem frs_ok (n : Nat) (l : List Rat) : D.oks (n + 1) (l.map fr) = true := oks_map (fr_ok n) l
@[simp] theorem any_iD (l : List Nat) (a : Nat) : ((l.map iD).any fun z => D.eq z (iD a)) = l.contains a := by
  induction l with
  | nil => rfl
  | cons b l ih =>
    rw [List.map_cons, List.any_cons, ih, iD_eq, List.contains_cons, Bool.eq_iff_iff]
    simp
    constructor <;> (rintro (h | h) <;> simp_all)
theorem any_fr (l : List Rat) (a : Rat) : ((l.map fr).any fun z => D.eq z (fr a)) = l.contains a := by
  induction l with
  | nil => rfl
  | cons b l ih =>
    rw [List.map_cons, List.any_cons, ih, fr_eq, List.contains_cons, Bool.eq_iff_iff]
    simp
    constructor <;> (rintro (h | h) <;> simp_all)
/-! ### places -/
@[simp] theorem ixAt_nat {n i : Nat} (h : i < n) : ixAt n (i : Int) = some i := by
  unfold ixAt
  rw [if_pos (by omega), if_pos (by omega)]
  simp
theorem subD_lst {xs : List D} {i : Nat} (h : i < xs.length) : subD (.lst xs) (.int (i : Int)) = some xs[i] := by
  simp only [subD, ixAt_nat h, Option.bind_some, List.getElem?_eq_getElem h]
theorem sub_fL {l : List Rat} {i : Nat} (h : i < l.length) : subD (fL l) (iD i) = some (fr l[i]) := by
  unfold fL iD
  rw [subD_lst (by simpa using h)]
  simp
theorem sub_iL {l : List Nat} {i : Nat} (h : i < l.length) : subD (iL l) (iD i) = some (iD l[i]) := by
  unfold iL iD
  rw [subD_lst (by simpa using h)]
  simp [iD]
theorem sub_pL {l : List (List Nat)} {i : Nat} (h : i < l.length) : subD (pL l) (iD i) = some (iL l[i]) := by
  unfold pL iD
  rw [subD_lst (by simpa using h)]
  simp
/-! ### loops -/
theorem mfM_enc {α β : Type} {enc : α → D} {f : D → Option (Option β)} {p : α → Bool} {g : α → β} : ∀ {l : List α}, (∀ a, a ∈ l → f (enc a) = some (if p a then some (g a) else none)) → mfM f (l.map enc) = some ((l.filter p).map g)
  | [], _ => rfl
  | a :: l, h => by
    rw [List.map_cons, mfM, h a List.mem_cons_self, mfM_enc (p := p) (g := g) fun b hb => h b (List.mem_cons_of_mem _ hb), List.filter_cons]
    cases p a <;> rfl
theorem mfM_all {α β : Type} {enc : α → D} {f : D → Option (Option β)} {g : α → β} : ∀ {l : List α}, (∀ a, a ∈ l → f (enc a) = some (some (g a))) → mfM f (l.map enc) = some (l.map g)
  | [], _ => rfl
  | a :: l, h => by
    rw [List.map_cons, mfM, h a List.mem_cons_self, mfM_all (g := g) fun b hb => h b (List.mem_cons_of_mem _ hb)]
    rfl
theorem loopP_enc {α σ : Type} {enc : α → D} {f : D → En → Option PR} (E : σ → En) (g : σ → α → σ) (I : σ → Prop) : ∀ {l : List α} {s : σ}, I s → (∀ a s, a ∈ l → I s → f (enc a) (E s) = some (.next (E (g s a))) ∧ I (g s a)) → loopP f (l.map enc) (E s) = some (.next (E (l.foldl g s))) ∧ I (l.foldl g s)
  | [], s, hs, _ => ⟨rfl, hs⟩
  | a :: l, s, hs, h => by
    obtain ⟨h1, h2⟩ := h a s List.mem_cons_self hs
    rw [List.map_cons, loopP, h1]
    exact loopP_enc E g I h2 fun b s hb => h b s (List.mem_cons_of_mem _ hb)
@[simp] theorem rangeD_nat (n : Nat) : rangeD 0 (n : Int) = (List.range n).map iD := by
  unfold rangeD
  rw [show ((n : Int) - 0).toNat = n from by omega]
  apply List.map_congr_left
  intro a _
  unfold iD
  congr 1
  omega
theorem enum_enc {α : Type} (enc : α → D) (l : List α) : enumD (l.map enc) = l.zipIdx.map fun p => .tup [iD p.2, enc p.1] := by
  unfold enumD
  rw [List.zipIdx_map, List.map_map]
  rfl
theorem zip_enc {α β : Type} (e1 : α → D) (e2 : β → D) (l : List α) (m : List β) : zipD (l.map e1) (m.map e2) = (l.zip m).map fun p => .tup [e1 p.1, e2 p.2] := by
  unfold zipD
  rw [List.zip_map, List.map_map]
  rfl
@[simp] theorem sumI_iD (l : List Nat) : sumI (l.map iD) = some (l.sum : Nat) := by
  induction l with
  | nil => rfl
  | cons a l ih =>
    rw [List.map_cons]
    show (sumI (l.map iD)).map ((a : Int) + ·) = _
    rw [ih]
    simp
@[simp] theorem sumL_iL (P : List (List Nat)) : sumL (P.map iL) = some (P.flatten.map iD) := by
  induction P with
  | nil => rfl
  | cons a P ih =>
    rw [List.map_cons]
    show (sumL (P.map iL)).map (a.map iD ++ ·) = _
    rw [ih]
    simp
theorem boolsOf_mapP {α : Type} (p : α → Bool) (l : List α) : boolsOf (l.map fun a => D.bl (p a)) = some (l.map p) := by
  induction l with
  | nil => rfl
  | cons a l ih =>
    rw [List.map_cons]
    show (boolsOf (l.map fun a => D.bl (p a))).map (p a :: ·) = _
    rw [ih]
    rfl
theorem intsOf_iD (l : List Nat) : intsOf (l.map iD) = some (l.map fun (a : Nat) => (a : Int)) := by
  induction l with
  | nil => rfl
  | cons a l ih =>
    rw [List.map_cons]
    show (intsOf (l.map iD)).map ((a : Int) :: ·) = _
    rw [ih]
    rfl
theorem intssOf_iL (P : List (List Nat)) : intssOf (P.map iL) = some (P.map fun l => l.map fun (a : Nat) => (a : Int)) := by
  induction P with
  | nil => rfl
  | cons a P ih =>
    rw [List.map_cons]
    show (intsOf (a.map iD)).bind (fun ns => (intssOf (P.map iL)).map (ns :: ·)) = _
    rw [intsOf_iD, ih]
    rfl
theorem map_iD (l : List Nat) : (l.map fun (a : Nat) => (a : Int)).map D.int = l.map iD := by
  rw [List.map_map]
  rfl
/-- what is sorted stays -/
theorem sortD_iL {l : List Nat} (h : l.Pairwise (· ≤ ·)) : sortD (l.map iD) = some (l.map iD) := by
  unfold sortD
  rw [intsOf_iD]
  dsimp only
  rw [List.mergeSort_of_pairwise, map_iD]
  rw [List.pairwise_map]
  exact h.imp fun {a b} hab => by simpa using hab
/-- a list that holds the same as a sorted one -/
theorem sortD_perm {l m : List Nat} (h : m.Pairwise (· ≤ ·)) (hp : l.Perm m) : sortD (l.map iD) = some (m.map iD) := by
  unfold sortD
  rw [intsOf_iD]
  dsimp only
  rw [← map_iD m]
  congr 2
  have h1 : (m.map fun (a : Nat) => (a : Int)).Pairwise fun a b => (decide (a ≤ b)) = true := by
    rw [List.pairwise_map]
    exact h.imp fun {a b} hab => by simpa using hab
  have h2 : ((l.map fun (a : Nat) => (a : Int)).mergeSort fun a b => decide (a ≤ b)).Pairwise fun a b => (decide (a ≤ b)) = true := List.pairwise_mergeSort (fun a b c x y => by simp at x y ⊢; omega) (fun a b => by simp; omega) _
  refine List.Perm.eq_of_pairwise (fun a b _ _ x y => ?_) h2 h1 ((List.mergeSort_perm _ _).trans (hp.map _))
  simp at x y
  omega
theorem sortD_pL {P : List (List Nat)} (h : P.Pairwise fun a b => a.headD 0 < b.headD 0) (hn : ∀ l ∈ P, l ≠ []) : sortD (P.map iL) = some (P.map iL) := by
  unfold sortD
  cases P with
  | nil => simp [intsOf, List.mergeSort]
  | cons a P =>
    have : intsOf ((a :: P).map iL) = none := rfl
    rw [this, intssOf_iL]
    dsimp only
    rw [Option.map_some, List.mergeSort_of_pairwise]
    · rw [List.map_map]
      congr 1
      apply List.map_congr_left
      intro l _
      show D.lst ((l.map fun (a : Nat) => (a : Int)).map D.int) = _
      rw [map_iD]; rfl
    · rw [List.pairwise_map]
      refine List.Pairwise.imp_of_mem (fun {x y} hx hy hxy => ?_) h
      have h1 := hn x hx
      have h2 := hn y hy
      cases x with
      | nil => exact absurd rfl h1
      | cons p x => cases y with
        | nil => exact absurd rfl h2
        | cons q y =>
          simp only [List.headD_cons] at hxy
          rw [decide_eq_true_eq, List.map_cons, List.map_cons, List.cons_le_cons_iff]
          left; omega
/-! ### a def's call -/
def PR.val : PR → Option D
  | .ret o _ => some o.toD
  | .next _ => some .non
theorem outsOf_len : ∀ (b : List Bool) (e : En), (outsOf b e).length = b.length
  | [], _ => rfl
  | _ :: bs, [] => by rw [outsOf, List.length_cons, outsOf_len bs]; rfl
  | _ :: bs, _ :: e => by rw [outsOf, List.length_cons, outsOf_len bs]; rfl
theorem cdO_ret {k f : Nat} {ds : List D} (d : TDef) {o : O} {e : En} (h : tdefs[f]? = some d) (hx : d.ext = none) (hl : ds.length = d.np) (hb : d.bor.length = d.np) (he : pSs (CC k) d.body (startE d (ds.map O.frz)) = some (.ret o e)) : cdO (CC (k + 1)) f ds = some o := by
  have : CT (k + 1) f (ds.map O.frz) = .ok o (outsOf d.bor e) := by
    rw [ct_eq k f _ h]
    exact run_ret (pSs_ok he) hx ⟨by simpa using hl, hb⟩ rfl
  unfold cdO
  show (match CT (k + 1) f (ds.map O.frz) with | .ok o outs => if outs.length = ds.length then some o else none | _ => none) = _
  rw [this]
  simp only [outsOf_len, hb, hl, if_true]
theorem cdO_next {k f : Nat} {ds : List D} (d : TDef) {e : En} (h : tdefs[f]? = some d) (hx : d.ext = none) (hl : ds.length = d.np) (hb : d.bor.length = d.np) (he : pSs (CC k) d.body (startE d (ds.map O.frz)) = some (.next e)) : cdO (CC (k + 1)) f ds = some (.frz .non) := by
  have : CT (k + 1) f (ds.map O.frz) = .ok (.frz .non) (outsOf d.bor e) := by
    rw [ct_eq k f _ h]
    exact run_next (pSs_ok he) hx ⟨by simpa using hl, hb⟩ rfl
  unfold cdO
  show (match CT (k + 1) f (ds.map O.frz) with | .ok o outs => if outs.length = ds.length then some o else none | _ => none) = _
  rw [this]
  simp only [outsOf_len, hb, hl, if_true]
/-- a def whose text is plain -/
theorem cd_of {k f : Nat} {ds : List D} {v : D} (d : TDef) (h : tdefs[f]? = some d) (hx : d.ext = none) (hl : ds.length = d.np) (hb : d.bor.length = d.np) (he : (pSs (CC k) d.body (startE d (ds.map O.frz))).bind PR.val = some v) : cd (CC (k + 1)) f ds = some v := by
  obtain ⟨r, h1, h2⟩ := opt2 he
  unfold cd
  cases r with
  | next e => rw [cdO_next d h hx hl hb h1]; exact h2
  | ret o e => rw [cdO_ret d h hx hl hb h1]; exact h2
theorem cd_at {k f : Nat} {ds : List D} {v : D} (d : TDef) (E : En) (h : tdefs[f]? = some d) (hx : d.ext = none) (hl : ds.length = d.np) (hb : d.bor.length = d.np) (hE : startE d (ds.map O.frz) = E) (he : (pSs (CC k) d.body E).bind PR.val = some v) : cd (CC (k + 1)) f ds = some v := cd_of d h hx hl hb (hE ▸ he)
theorem cdR {k f : Nat} {ds : List D} {v : D} (d : TDef) (p : En) (h : tdefs[f]? = some d) (hx : d.ext = none) (hl : ds.length = d.np) (hb : d.bor.length = d.np) (hE : startE d (ds.map O.frz) = p) (he : Runs (CC k) d.body p v) : cd (CC (k + 1)) f ds = some v := by
  subst hE
  rcases he _ (Lf.rfl' _) with ⟨o, e', h1, h2⟩ | ⟨e', h1, h2⟩
  · have : CT (k + 1) f (ds.map O.frz) = .ok o (outsOf d.bor e') := by
      rw [ct_eq k f _ h]
      exact run_ret h1 hx ⟨by simpa using hl, hb⟩ rfl
    unfold cd cdO
    show Option.map O.toD (match CT (k + 1) f (ds.map O.frz) with | .ok o outs => if outs.length = ds.length then some o else none | _ => none) = _
    rw [this]
    simp only [outsOf_len, hb, hl, if_true, Option.map_some, h2]
  · have : CT (k + 1) f (ds.map O.frz) = .ok (.frz .non) (outsOf d.bor e') := by
      rw [ct_eq k f _ h]
      exact run_next h1 hx ⟨by simpa using hl, hb⟩ rfl
    unfold cd cdO
    show Option.map O.toD (match CT (k + 1) f (ds.map O.frz) with | .ok o outs => if outs.length = ds.length then some o else none | _ => none) = _
    rw [this, h2]
    simp only [outsOf_len, hb, hl, if_true, Option.map_some, O.toD]
/-- one name of these is taken as frozen -/
theorem lf_frz (a b : En) (ds : List D) : Lf (a ++ some (.frz (.lst ds)) :: b) (a ++ some (.lst (ds.map O.frz)) :: b) := by
  intro j
  by_cases h : j < a.length
  · left; rw [List.getElem?_append_left h, List.getElem?_append_left h]
  · rw [List.getElem?_append_right (by omega), List.getElem?_append_right (by omega)]
    cases hj : j - a.length with
    | zero => right; left; exact ⟨ds, rfl, rfl⟩
    | succ i => left; rfl
theorem lf_none (a b : En) (o : Option O) : Lf (a ++ none :: b) (a ++ o :: b) := by
  intro j
  by_cases h : j < a.length
  · left; rw [List.getElem?_append_left h, List.getElem?_append_left h]
  · rw [List.getElem?_append_right (by omega), List.getElem?_append_right (by omega)]
    cases hj : j - a.length with
    | zero => right; right; exact ⟨rfl, o, rfl⟩
    | succ i => left; rfl
theorem cd_step {C : Cfg} {s : TS} {ss : List TS} {e e' : En} {v : D} (h : pS C s e = some (.next e')) (h2 : (pSs C ss e').bind PR.val = some v) : (pSs C (s :: ss) e).bind PR.val = some v := by
  rw [pSs, h]; exact h2
theorem cd_last {C : Cfg} {s : TS} {ss : List TS} {e e' : En} {o : O} (h : pS C s e = some (.ret o e')) : (pSs C (s :: ss) e).bind PR.val = some o.toD := by
  rw [pSs, h]; rfl
@[simp] theorem toDs_frz (l : List D) : O.toDs (l.map O.frz) = l := by
  induction l with
  | nil => rfl
  | cons a l ih => rw [List.map_cons, O.toDs, ih]; rfl
@[simp] theorem toDs_comp {α : Type} (f : α → D) (l : List α) : O.toDs (l.map (O.frz ∘ f)) = l.map f := by
  rw [← List.map_map, toDs_frz]
@[simp] theorem toDs_fun {α : Type} (f : α → D) (l : List α) : O.toDs (l.map fun a => O.frz (f a)) = l.map f := toDs_comp f l
@[simp] theorem allFrz_frz (l : List D) : allFrz (l.map O.frz) = some l := by
  induction l with
  | nil => rfl
  | cons a l ih =>
    rw [List.map_cons]
    show (allFrz (l.map O.frz)).map (a :: ·) = _
    rw [ih]; rfl
end TL

set_option maxRecDepth 100000
namespace TL
open PySem
theorem pAnd1 (C : Cfg) (a : TE) (e : En) : pAnd C [a] e = pE C a e := by rw [pAnd]
theorem pAnd2 (C : Cfg) (a b : TE) (r : List TE) (e : En) : pAnd C (a :: b :: r) e = (pE C a e).bind fun x => (match x with
    | .bl t => if t then pAnd C (b :: r) e else some (.bl false)
    | _ => none) := by
  rw [pAnd]
  all_goals first | rfl | (intro h; cases h)
theorem pOr1 (C : Cfg) (a : TE) (e : En) : pOr C [a] e = pE C a e := by rw [pOr]
theorem pOr2 (C : Cfg) (a b : TE) (r : List TE) (e : En) : pOr C (a :: b :: r) e = (pE C a e).bind fun x => (match x with
    | .bl t => if t then some (.bl true) else pOr C (b :: r) e
    | _ => none) := by
  rw [pOr]
  all_goals first | rfl | (intro h; cases h)
theorem bindT_n (k : Nat) (d : D) (e : En) : bindT (.n k) d e = some (e.put k (.frz d)) := by rw [bindT]
theorem bindT_t (ts : List TT) (ds : List D) (e : En) : bindT (.t ts) (.tup ds) e = bindTs ts ds e := by rw [bindT]
theorem bindTs_nil (e : En) : bindTs [] [] e = some e := by rw [bindTs]
theorem bindTs_cons (t : TT) (ts : List TT) (d : D) (ds : List D) (e : En) : bindTs (t :: ts) (d :: ds) e = (bindT t d e).bind (bindTs ts ds) := by rw [bindTs]
theorem list_v (l : List D) (e : En) : PV.list (.v (.lst l)) e = some l := rfl
theorem list_iL (l : List Nat) (e : En) : PV.list (.v (iL l)) e = some (l.map iD) := rfl
theorem list_pL (l : List (List Nat)) (e : En) : PV.list (.v (pL l)) e = some (l.map iL) := rfl
theorem list_fL (l : List Rat) (e : En) : PV.list (.v (fL l)) e = some (l.map fr) := rfl
theorem list_r (k : Nat) (e : En) : PV.list (.r k) e = (e.at k).bind fun o => (match o with | .frz (.lst xs) => some xs | .lst os => allFrz os | _ => none) := rfl
theorem sub_v (d i : D) (e : En) : PV.sub (.v d) i e = subD d i := rfl
theorem sub_r (k : Nat) (i : D) (e : En) : PV.sub (.r k) i e = (e.at k).bind fun o => subO o i := rfl
@[simp] theorem opQ_add (a b : Int) : opQ .add (.int a) (.int b) = some (.int (a + b)) := by rw [opQ_eq]; rfl
@[simp] theorem opQ_sub (a b : Int) : opQ .sub (.int a) (.int b) = some (.int (a - b)) := by rw [opQ_eq]; rfl
theorem opQ_mod {a b : Int} (h : 0 < b) : opQ .mod (.int a) (.int b) = some (.int (a % b)) := by
  rw [opQ_eq]
  show (if 0 < b then some (D.int (a % b)) else none) = _
  rw [if_pos h]
theorem opQ_mul {a b : Int} (h : mulOk a b = true) : opQ .mul (.int a) (.int b) = some (.int (a * b)) := by
  rw [opQ_eq]
  show (if mulOk a b then some (D.int (a * b)) else none) = _
  rw [if_pos h]
theorem opQ_fdiv {a b : Int} (h : divOk b = true) : opQ .fdiv (.int a) (.int b) = some (.int (a / b)) := by
  rw [opQ_eq]
  show (if divOk b then some (D.int (a / b)) else none) = _
  rw [if_pos h]
theorem opQ_pow {a b : Int} (h : powOk a b = true) : opQ .pow (.int a) (.int b) = some (.int (a ^ b.toNat)) := by
  rw [opQ_eq]
  show (if powOk a b then some (D.int (a ^ b.toNat)) else none) = _
  rw [if_pos h]
theorem get_v (d : D) (e : En) : PV.get (.v d) e = some d := rfl
theorem get_r (k : Nat) (e : En) : PV.get (.r k) e = (e.at k).map O.toD := rfl
@[simp] theorem isi_ii (i : Int) : isiD [.int] (.int i) = some true := rfl
@[simp] theorem isi_bi (i : Int) : isiD [.bool] (.int i) = some false := rfl
@[simp] theorem isi_tt (l : List D) : isiD [.tuple] (.tup l) = some true := rfl
@[simp] theorem isi_tf (q : Rat) : isiD [.tuple] (fr q) = some true := rfl
@[simp] theorem isi_ll (l : List D) : isiD [.list] (.lst l) = some true := rfl
@[simp] theorem isi_ss (l : Str) : isiD [.str] (.str l) = some true := rfl
theorem cd_from {k f : Nat} {ds : List D} {o : O} {outs : List (Option O)} (h : CT k f (ds.map O.frz) = .ok o outs) (hl : outs.length = ds.length) : cd (CC k) f ds = some o.toD := by
  unfold cd cdO
  show Option.map O.toD (match CT k f (ds.map O.frz) with | .ok o outs => if outs.length = ds.length then some o else none | _ => none) = _
  rw [h]
  simp only [hl, if_true, Option.map_some]
/-! sizes -/
theorem Sz.mono {A B : Nat} {q : Rat} (h : Sz A q) (hab : A ≤ B) : Sz B q := ⟨Nat.le_trans h.1 hab, Nat.le_trans h.2 hab⟩
theorem Sz.of {A : Nat} {q : Rat} (t : Int) (u : Nat) (hq : q = Rat.divInt t u) (hu : u ≠ 0) (ht : t.natAbs.log2 ≤ A) (hb : u.log2 ≤ A) : Sz A q := by
  subst hq
  constructor
  · refine Nat.le_trans (log2_le ?_) ht
    rw [Rat.num_divInt, Int.sign_eq_one_of_pos (by omega), Int.one_mul]
    have hg : 0 < Int.gcd (u : Int) t := Int.gcd_pos_of_ne_zero_left t (by omega)
    rw [Int.natAbs_ediv_of_dvd (Int.gcd_dvd_right ..)]
    exact Nat.div_le_self _ _
  · refine Nat.le_trans (log2_le ?_) hb
    rw [Rat.den_divInt, if_neg (by omega)]
    exact Nat.div_le_self _ _
theorem Sz.add {A B : Nat} {p q : Rat} (hp : Sz A p) (hq : Sz B q) : Sz (A + B + 2) (p + q) := by
  refine Sz.of (p.num * q.den + q.num * p.den) (p.den * q.den) ?_ ?_ ?_ ?_
  · rw [Int.natCast_mul, ← Rat.divInt_add_divInt _ _ (by have := p.den_pos; omega) (by have := q.den_pos; omega), Rat.num_divInt_den, Rat.num_divInt_den]
  · exact Nat.mul_ne_zero (by have := p.den_pos; omega) (by have := q.den_pos; omega)
  · have h1 := log2_mul p.num.natAbs q.den
    have h2 := log2_mul q.num.natAbs p.den
    have h3 := log2_add (p.num.natAbs * q.den) (q.num.natAbs * p.den)
    have h4 : (p.num * q.den + q.num * p.den).natAbs ≤ p.num.natAbs * q.den + q.num.natAbs * p.den := by
      refine Nat.le_trans (Int.natAbs_add_le _ _) ?_
      rw [Int.natAbs_mul, Int.natAbs_mul, Int.natAbs_natCast, Int.natAbs_natCast]
      exact Nat.le_refl _
    have h5 := log2_le h4
    have := hp.1; have := hp.2; have := hq.1; have := hq.2
    omega
  · have h1 := log2_mul p.den q.den
    have := hp.2; have := hq.2
    omega
theorem Sz.mul {A B : Nat} {p q : Rat} (hp : Sz A p) (hq : Sz B q) : Sz (A + B + 1) (p * q) := by
  refine Sz.of (p.num * q.num) (p.den * q.den) ?_ ?_ ?_ ?_
  · rw [Int.natCast_mul, ← Rat.divInt_mul_divInt, Rat.num_divInt_den, Rat.num_divInt_den]
  · exact Nat.mul_ne_zero (by have := p.den_pos; omega) (by have := q.den_pos; omega)
  · have h1 := log2_mul p.num.natAbs q.num.natAbs
    rw [Int.natAbs_mul]
    have := hp.1; have := hq.1
    omega
  · have h1 := log2_mul p.den q.den
    have := hp.2; have := hq.2
    omega
theorem Sz.zero : Sz 0 0 := by constructor <;> decide
theorem Sz.one : Sz 0 1 := by constructor <;> decide
theorem Sz.sumQ {A : Nat} : ∀ {l : List Rat}, (∀ q ∈ l, Sz A q) → ∀ {B : Nat} {x : Rat}, Sz B x → Sz (B + l.length * (A + 2)) (l.foldl (· + ·) x)
  | [], _, B, x, hx => by simpa using hx
  | a :: l, h, B, x, hx => by
    rw [List.foldl_cons]
    refine (Sz.sumQ (fun q hq => h q (List.mem_cons_of_mem _ hq)) (hx.add (h a List.mem_cons_self))).mono ?_
    rw [List.length_cons, Nat.succ_mul]
    omega
/-! the defs of fractions as plain functions -/
variable {k : Nat}
theorem p_gcd (hk : 1 ≤ k) (a b : Int) : cd (CC k) 1 [.int a, .int b] = some (.int (Int.gcd a b)) := by
  obtain ⟨k, rfl⟩ : ∃ j, k = j + 1 := ⟨k - 1, by omega⟩
  exact cd_from (ds := [.int a, .int b]) (c_gcd k a b) rfl
theorem p_plus (hk : 3 ≤ k) {p q : Rat} {A B : Nat} (hp : Sz A p) (hq : Sz B q) (h : A + B < 8000) : cd (CC k) 5 [fr p, fr q] = some (fr (p + q)) := by
  obtain ⟨k, rfl⟩ : ∃ j, k = j + 3 := ⟨k - 3, by omega⟩
  obtain ⟨o, h1, h2⟩ := c_plus k hp hq h
  exact cd_from (ds := [fr p, fr q]) h1 h2
theorem p_times (hk : 3 ≤ k) {p q : Rat} {A B : Nat} (hp : Sz A p) (hq : Sz B q) (h : A + B < 8000) : cd (CC k) 6 [fr p, fr q] = some (fr (p * q)) := by
  obtain ⟨k, rfl⟩ : ∃ j, k = j + 3 := ⟨k - 3, by omega⟩
  obtain ⟨o, h1, h2⟩ := c_times k hp hq h
  exact cd_from (ds := [fr p, fr q]) h1 h2
theorem p_over (hk : 3 ≤ k) {p q : Rat} {A B : Nat} (hp : Sz A p) (hq : Sz B q) (h : A + B < 8000) (h0 : q ≠ 0) : cd (CC k) 7 [fr p, fr q] = some (fr (p / q)) := by
  obtain ⟨k, rfl⟩ : ∃ j, k = j + 3 := ⟨k - 3, by omega⟩
  obtain ⟨o, h1, h2⟩ := c_over k hp hq h h0
  exact cd_from (ds := [fr p, fr q]) h1 h2
theorem p_less (hk : 1 ≤ k) {p q : Rat} {A B : Nat} (hp : Sz A p) (hq : Sz B q) (h : A + B < 8000) : cd (CC k) 8 [fr p, fr q] = some (.bl (decide (p < q))) := by
  obtain ⟨k, rfl⟩ : ∃ j, k = j + 1 := ⟨k - 1, by omega⟩
  exact cd_from (ds := [fr p, fr q]) (c_less k hp hq h) rfl
theorem p_is_whole (hk : 1 ≤ k) (i : Int) : cd (CC k) 0 [.int i] = some (.bl true) := by
  obtain ⟨k, rfl⟩ : ∃ j, k = j + 1 := ⟨k - 1, by omega⟩
  refine cd_of t_is_whole rfl rfl rfl rfl ?_
  simp [pSs, pS, pO, pOs, pE, pEs, pAnd1, pAnd2, pOr1, pOr2, pV, pVs, pA, pAs, pLs, pI, pF, pOpt, pIfs, En.at, En.put, get_v, get_r, list_v, list_iL, list_pL, list_fL, list_r, sub_v, sub_r, getAll, ownFree, tgIn, tgsIn, bindT_n, bindT_t, bindTs_nil, bindTs_cons, putAll, PR.bind, PR.val, O.toD, startE, frzL, t_is_whole]
theorem p_is_fraction (hk : 2 ≤ k) (q : Rat) : cd (CC k) 3 [fr q] = some (.bl true) := by
  obtain ⟨k, rfl⟩ : ∃ j, k = j + 1 := ⟨k - 1, by omega⟩
  refine cd_of t_is_fraction rfl rfl rfl rfl ?_
  have h1 : (0 : Int) < q.den := by have := q.den_pos; omega
  have h2 : Int.gcd q.num q.den = 1 := by have := q.reduced; unfold Nat.Coprime at this; simpa [Int.gcd] using this
  simp [pSs, pS, pO, pOs, pE, pEs, pAnd1, pAnd2, pOr1, pOr2, pV, pVs, pA, pAs, pLs, pI, pF, pOpt, pIfs, En.at, En.put, get_v, get_r, list_v, list_iL, list_pL, list_fL, list_r, sub_v, sub_r, getAll, ownFree, tgIn, tgsIn, bindT_n, bindT_t, bindTs_nil, bindTs_cons, putAll, PR.bind, PR.val, O.toD, startE, frzL, t_is_fraction, fr, opC, opX, subD, ixAt, p_is_whole (show 1 ≤ k by omega), p_gcd (show 1 ≤ k by omega), h1, q.den_pos, h2, D.eq, D.ok]
theorem p_is_amount (hk : 3 ≤ k) {q : Rat} (h : 0 ≤ q) : cd (CC k) 4 [fr q] = some (.bl true) := by
  obtain ⟨k, rfl⟩ : ∃ j, k = j + 1 := ⟨k - 1, by omega⟩
  refine cd_of t_is_amount rfl rfl rfl rfl ?_
  have h1 : 0 ≤ q.num := Rat.num_nonneg.mpr h
  have h2 : subD (fr q) (.int 0) = some (.int q.num) := rfl
  simp [pSs, pS, pO, pOs, pE, pEs, pAnd1, pAnd2, pOr1, pOr2, pV, pVs, pA, pAs, pLs, pI, pF, pOpt, pIfs, En.at, En.put, get_v, get_r, list_v, list_iL, list_pL, list_fL, list_r, sub_v, sub_r, getAll, ownFree, tgIn, tgsIn, bindT_n, bindT_t, bindTs_nil, bindTs_cons, putAll, PR.bind, PR.val, O.toD, startE, frzL, t_is_amount, p_is_fraction (show 2 ≤ k by omega), h2, opC, h1]
theorem p_summed (hk : 4 ≤ k) {l : List Rat} {A : Nat} (h : ∀ q ∈ l, Sz A q) (hb : l.length * (A + 2) + A < 8000) : cd (CC k) 9 [fL l] = some (fr (sumQ l)) := by
  obtain ⟨k, rfl⟩ : ∃ j, k = j + 1 := ⟨k - 1, by omega⟩
  refine cd_of t_summed rfl rfl rfl rfl ?_
  have key : ∀ (m : List Rat) (x : Rat) (B : Nat) (o : Option O), (∀ q ∈ m, Sz A q) → Sz B x → B + m.length * (A + 2) + A < 8000 → ∃ o', loopP (fun d e => (bindT (.n 2) d e).bind fun e => pSs (CC k) [.asg 1 (.e (.call 5 [.d (.var 1), .d (.var 2)] []))] e) (m.map fr) [some (.frz (fL l)), some (.frz (fr x)), o] = some (.next [some (.frz (fL l)), some (.frz (fr (m.foldl (· + ·) x))), o']) := by
    intro m
    induction m with
    | nil => intro x B o _ _ _; exact ⟨o, rfl⟩
    | cons a m ih =>
      intro x B o hm hx hb
      rw [List.length_cons, Nat.succ_mul] at hb
      have ha := hm a List.mem_cons_self
      obtain ⟨o', h'⟩ := ih (x + a) (B + A + 2) (some (.frz (fr a))) (fun q hq => hm q (List.mem_cons_of_mem _ hq)) (hx.add ha) (by omega)
      refine ⟨o', ?_⟩
      rw [List.map_cons, loopP, List.foldl_cons, ← h']
      simp [pSs, pS, pO, pOs, pE, pEs, pAnd1, pAnd2, pOr1, pOr2, pV, pVs, pA, pAs, pLs, pI, pF, pOpt, pIfs, En.at, En.put, get_v, get_r, list_v, list_iL, list_pL, list_fL, list_r, sub_v, sub_r, getAll, ownFree, tgIn, tgsIn, bindT_n, bindT_t, bindTs_nil, bindTs_cons, putAll, PR.bind, PR.val, O.toD, startE, frzL, p_plus (show 3 ≤ k by omega) hx ha (by omega)]
  obtain ⟨o', h'⟩ := key l 0 0 none h Sz.zero (by omega)
  have hi : D.items (fL l) = some (l.map fr) := rfl
  have h0 : D.tup [.int 0, .int 1] = fr 0 := rfl
  simp only [pSs, pS, pO, pOs, pE, pEs, pAnd1, pAnd2, pOr1, pOr2, pV, pVs, pA, pAs, pLs, pI, pF, pOpt, pIfs, En.at, En.put, get_v, get_r, list_v, list_iL, list_pL, list_fL, list_r, sub_v, sub_r, getAll, ownFree, tgIn, tgsIn, bindT_n, bindT_t, bindTs_nil, bindTs_cons, putAll, PR.bind, PR.val, O.toD, startE, frzL, t_summed, hi, h0, List.map_cons, List.map_nil, Option.bind_some, Option.map_some, List.getElem?_cons_zero, List.getElem?_cons_succ, List.set_cons_zero, List.set_cons_succ, List.replicate, List.nil_append, List.cons_append, id, Nat.reduceSub, Bool.false_eq_true, if_false] at h' ⊢
  rw [h']
  rfl
end TL

set_option maxRecDepth 100000
namespace TL
open PySem
/-! how encoded lists answer -/
@[simp] theorem items_fL (l : List Rat) : D.items (fL l) = some (l.map fr) := rfl
@[simp] theorem items_iL (l : List Nat) : D.items (iL l) = some (l.map iD) := rfl
@[simp] theorem items_pL (l : List (List Nat)) : D.items (pL l) = some (l.map iL) := rfl
@[simp] theorem seq_fL (l : List Rat) : seqD (fL l) = some (l.map fr) := rfl
@[simp] theorem seq_iL (l : List Nat) : seqD (iL l) = some (l.map iD) := rfl
@[simp] theorem len_fL (l : List Rat) : opX .len [fL l] = some (.int l.length) := by simp [opX, fL]
@[simp] theorem len_iL (l : List Nat) : opX .len [iL l] = some (.int l.length) := by simp [opX, iL]
@[simp] theorem len_pL (l : List (List Nat)) : opX .len [pL l] = some (.int l.length) := by simp [opX, pL]
@[simp] theorem isi_fL (l : List Rat) : isiD [.list] (fL l) = some true := rfl
@[simp] theorem isi_iL (l : List Nat) : isiD [.list] (iL l) = some true := rfl
@[simp] theorem isi_pL (l : List (List Nat)) : isiD [.list] (pL l) = some true := rfl
@[simp] theorem all_bl (l : List D) (b : List Bool) (h : boolsOf l = some b) : opX .all [.lst l] = some (.bl (b.all id)) := by simp [opX, h]
theorem all_map {α : Type} (p : α → Bool) (l : List α) : opX .all [.lst (l.map fun a => D.bl (p a))] = some (.bl (l.all p)) := by
  simp [opX, boolsOf_mapP, List.all_map]
@[simp] theorem cc_glob (k i : Nat) : (CC k).glob i = glD i := rfl
@[simp] theorem eq_int (i j : Int) : opC .eq (.int i) (.int j) = some (decide (i = j)) := by simp [opC, int_eq]
@[simp] theorem ne_int (i j : Int) : opC .ne (.int i) (.int j) = some (!decide (i = j)) := by simp [opC, int_eq]
@[simp] theorem lt_int (i j : Int) : opC .lt (.int i) (.int j) = some (decide (i < j)) := rfl
@[simp] theorem le_int (i j : Int) : opC .le (.int i) (.int j) = some (decide (i ≤ j)) := rfl
@[simp] theorem gt_int (i j : Int) : opC .gt (.int i) (.int j) = some (decide (j < i)) := rfl
@[simp] theorem ge_int (i j : Int) : opC .ge (.int i) (.int j) = some (decide (j ≤ i)) := rfl
@[simp] theorem in_iL (a : Nat) (l : List Nat) : opC .in_ (.int (a : Int)) (iL l) = some (l.contains a) := by
  have := any_iD l a
  show (if D.ok 50 (.int (a : Int)) && D.oks 50 (l.map iD) then some ((l.map iD).any fun z => D.eq z (iD a)) else none) = _
  rw [this]; simp
@[simp] theorem notin_iL (a : Nat) (l : List Nat) : opC .notin (.int (a : Int)) (iL l) = some (!l.contains a) := by
  have := any_iD l a
  show (if D.ok 50 (.int (a : Int)) && D.oks 50 (l.map iD) then some (!(l.map iD).any fun z => D.eq z (iD a)) else none) = _
  rw [this]; simp
@[simp] theorem in_fL (a : Rat) (l : List Rat) : opC .in_ (fr a) (fL l) = some (l.contains a) := by
  have := any_fr l a
  show (if D.ok 50 (fr a) && D.oks 50 (l.map fr) then some ((l.map fr).any fun z => D.eq z (fr a)) else none) = _
  rw [this]; simp
@[simp] theorem eq_fr (a b : Rat) : opC .eq (fr a) (fr b) = some (decide (a = b)) := by simp [opC]
@[simp] theorem eq_iL (a b : List Nat) : opC .eq (iL a) (iL b) = some (decide (a = b)) := by simp [opC]
@[simp] theorem ne_iL (a b : List Nat) : opC .ne (iL a) (iL b) = some (!decide (a = b)) := by simp [opC]
@[simp] theorem eq_pL (a b : List (List Nat)) : opC .eq (pL a) (pL b) = some (decide (a = b)) := by simp [opC]
theorem fr1 : D.tup [.int 1, .int 1] = fr 1 := rfl
theorem fr0 : D.tup [.int 0, .int 1] = fr 0 := rfl
theorem iD_def (n : Nat) : iD n = .int n := rfl
theorem lst_iL (l : List Nat) : D.lst (l.map iD) = iL l := rfl
theorem lst_pL (l : List (List Nat)) : D.lst (l.map iL) = pL l := rfl
theorem lst_fL (l : List Rat) : D.lst (l.map fr) = fL l := rfl
theorem nil_iL : D.lst [] = iL [] := rfl
variable {k : Nat}
theorem p_are_chances (hk : 5 ≤ k) {l : List Rat} {A : Nat} (h : ∀ q ∈ l, Sz A q) (hb : l.length * (A + 2) + A < 8000) (h0 : ∀ q ∈ l, 0 ≤ q) (hs : sumQ l = 1) {n : Nat} (hn : l.length = n) : cd (CC k) 10 [fL l, .int n] = some (.bl true) := by
  subst hn
  obtain ⟨k, rfl⟩ : ∃ j, k = j + 1 := ⟨k - 1, by omega⟩
  refine cd_of t_are_chances rfl rfl rfl rfl ?_
  simp [pSs, pS, pO, pOs, pE, pEs, pAnd1, pAnd2, pOr1, pOr2, pV, pVs, pA, pAs, pLs, pI, pF, pOpt, pIfs, En.at, En.put, get_v, get_r, list_v, list_iL, list_pL, list_fL, list_r, sub_v, sub_r, getAll, ownFree, tgIn, tgsIn, bindT_n, bindT_t, bindTs_nil, bindTs_cons, putAll, PR.bind, PR.val, O.toD, startE, frzL, t_are_chances, p_summed (show 4 ≤ k by omega) h hb, hs, fr1]
  rw [mfM_all (enc := fr) (g := fun _ => D.bl true)]
  · rw [show (l.map fun _ => D.bl true) = l.map fun a => D.bl ((fun _ => true) a) from rfl]
    simp [pSs, pS, pO, pOs, pE, pEs, pAnd1, pAnd2, pOr1, pOr2, pV, pVs, pA, pAs, pLs, pI, pF, pOpt, pIfs, En.at, En.put, get_v, get_r, list_v, list_iL, list_pL, list_fL, list_r, sub_v, sub_r, getAll, ownFree, tgIn, tgsIn, bindT_n, bindT_t, bindTs_nil, bindTs_cons, putAll, PR.bind, PR.val, O.toD, startE, frzL, all_map, p_summed (show 4 ≤ k by omega) h hb, hs]
  · intro a ha
    simp [p_is_amount (show 3 ≤ k by omega) (h0 a ha)]
theorem p_are_fractions (hk : 3 ≤ k) {l : List Rat} {n : Nat} (hn : l.length = n) : cd (CC k) 11 [fL l, .int n] = some (.bl true) := by
  subst hn
  obtain ⟨k, rfl⟩ : ∃ j, k = j + 1 := ⟨k - 1, by omega⟩
  refine cd_of t_are_fractions rfl rfl rfl rfl ?_
  simp [pSs, pS, pO, pOs, pE, pEs, pAnd1, pAnd2, pOr1, pOr2, pV, pVs, pA, pAs, pLs, pI, pF, pOpt, pIfs, En.at, En.put, get_v, get_r, list_v, list_iL, list_pL, list_fL, list_r, sub_v, sub_r, getAll, ownFree, tgIn, tgsIn, bindT_n, bindT_t, bindTs_nil, bindTs_cons, putAll, PR.bind, PR.val, O.toD, startE, frzL, t_are_fractions]
  rw [mfM_all (enc := fr) (g := fun _ => D.bl true)]
  · rw [show (l.map fun _ => D.bl true) = l.map fun a => D.bl ((fun _ => true) a) from rfl]
    simp [pSs, pS, pO, pOs, pE, pEs, pAnd1, pAnd2, pOr1, pOr2, pV, pVs, pA, pAs, pLs, pI, pF, pOpt, pIfs, En.at, En.put, get_v, get_r, list_v, list_iL, list_pL, list_fL, list_r, sub_v, sub_r, getAll, ownFree, tgIn, tgsIn, bindT_n, bindT_t, bindTs_nil, bindTs_cons, putAll, PR.bind, PR.val, O.toD, startE, frzL, all_map]
  · intro a ha
    simp [p_is_fraction (show 2 ≤ k by omega)]
theorem p_greatest (hk : 2 ≤ k) {l : List Rat} {A : Nat} (h : ∀ q ∈ l, Sz A q) (hb : A + A < 8000) (hn : l ≠ []) : cd (CC k) 12 [fL l] = some (fr (maxF l)) := by
  obtain ⟨k, rfl⟩ : ∃ j, k = j + 1 := ⟨k - 1, by omega⟩
  refine cd_of t_greatest rfl rfl rfl rfl ?_
  have key : ∀ (m : List Rat) (x : Rat) (o : Option O), (∀ q ∈ m, Sz A q) → Sz A x → ∃ o', loopP (fun d e => (bindT (.n 2) d e).bind fun e => pSs (CC k) [.asg 1 (.e (.ife (.call 8 [.d (.var 1), .d (.var 2)] []) (.var 2) (.var 1)))] e) (m.map fr) [some (.frz (fL l)), some (.frz (fr x)), o] = some (.next [some (.frz (fL l)), some (.frz (fr (m.foldl (fun f q => if f < q then q else f) x))), o']) := by
    intro m
    induction m with
    | nil => intro x o _ _; exact ⟨o, rfl⟩
    | cons a m ih =>
      intro x o hm hx
      have ha := hm a List.mem_cons_self
      have hx' : Sz A (if x < a then a else x) := by split <;> assumption
      obtain ⟨o', h'⟩ := ih (if x < a then a else x) (some (.frz (fr a))) (fun q hq => hm q (List.mem_cons_of_mem _ hq)) hx'
      refine ⟨o', ?_⟩
      rw [List.map_cons, loopP, List.foldl_cons, ← h']
      by_cases c : x < a
      · simp [pSs, pS, pO, pOs, pE, pEs, pAnd1, pAnd2, pOr1, pOr2, pV, pVs, pA, pAs, pLs, pI, pF, pOpt, pIfs, En.at, En.put, get_v, get_r, list_v, list_iL, list_pL, list_fL, list_r, sub_v, sub_r, getAll, ownFree, tgIn, tgsIn, bindT_n, bindT_t, bindTs_nil, bindTs_cons, putAll, PR.bind, PR.val, O.toD, startE, frzL, p_less (show 1 ≤ k by omega) hx ha hb, c]
      · simp [pSs, pS, pO, pOs, pE, pEs, pAnd1, pAnd2, pOr1, pOr2, pV, pVs, pA, pAs, pLs, pI, pF, pOpt, pIfs, En.at, En.put, get_v, get_r, list_v, list_iL, list_pL, list_fL, list_r, sub_v, sub_r, getAll, ownFree, tgIn, tgsIn, bindT_n, bindT_t, bindTs_nil, bindTs_cons, putAll, PR.bind, PR.val, O.toD, startE, frzL, p_less (show 1 ≤ k by omega) hx ha hb, c]
  cases l with
  | nil => exact absurd rfl hn
  | cons a l =>
    obtain ⟨o', h'⟩ := key (a :: l) a none h (h a List.mem_cons_self)
    have h0 : subD (fL (a :: l)) (.int 0) = some (fr a) := sub_fL (l := a :: l) (i := 0) (by simp)
    simp only [pSs, pS, pO, pOs, pE, pEs, pAnd1, pAnd2, pOr1, pOr2, pV, pVs, pA, pAs, pLs, pI, pF, pOpt, pIfs, En.at, En.put, get_v, get_r, list_v, list_iL, list_pL, list_fL, list_r, sub_v, sub_r, getAll, ownFree, tgIn, tgsIn, bindT_n, bindT_t, bindTs_nil, bindTs_cons, putAll, PR.bind, PR.val, O.toD, startE, frzL, t_greatest, items_fL, h0, List.map_cons, List.map_nil, Option.bind_some, Option.map_some, List.getElem?_cons_zero, List.getElem?_cons_succ, List.set_cons_zero, List.set_cons_succ, List.replicate, List.nil_append, List.cons_append, id, Nat.reduceSub, Bool.false_eq_true, if_false] at h' ⊢
    rw [h']
    rfl
theorem p_product (hk : 5 ≤ k) {l m : List Rat} {A B : Nat} (hl : ∀ q ∈ l, Sz A q) (hm : ∀ q ∈ m, Sz B q) (h : l.length = m.length) (hb : l.length * (A + B + 3) + (A + B + 1) < 8000) : cd (CC k) 13 [fL l, fL m] = some (fr (sumQ ((l.zip m).map fun p => p.1 * p.2))) := by
  obtain ⟨k, rfl⟩ : ∃ j, k = j + 1 := ⟨k - 1, by omega⟩
  refine cd_of t_product rfl rfl rfl rfl ?_
  simp [pSs, pS, pO, pOs, pE, pEs, pAnd1, pAnd2, pOr1, pOr2, pV, pVs, pA, pAs, pLs, pI, pF, pOpt, pIfs, En.at, En.put, get_v, get_r, list_v, list_iL, list_pL, list_fL, list_r, sub_v, sub_r, getAll, ownFree, tgIn, tgsIn, bindT_n, bindT_t, bindTs_nil, bindTs_cons, putAll, PR.bind, PR.val, O.toD, startE, frzL, t_product, h, zip_enc]
  rw [mfM_all (enc := fun p : Rat × Rat => D.tup [fr p.1, fr p.2]) (g := fun p => fr (p.1 * p.2))]
  · have hs := p_summed (k := k) (show 4 ≤ k by omega) (l := (l.zip m).map fun p => p.1 * p.2) (A := A + B + 1) (fun q hq => by
      obtain ⟨p, hp, e⟩ := List.mem_map.mp hq
      rw [← e]
      exact (hl _ (List.of_mem_zip hp).1).mul (hm _ (List.of_mem_zip hp).2)) (by
      rw [List.length_map, List.length_zip, ← h, Nat.min_self]
      omega)
    have e : D.lst ((l.zip m).map fun p => fr (p.1 * p.2)) = fL ((l.zip m).map fun p => p.1 * p.2) := by
      unfold fL; rw [List.map_map]; rfl
    unfold cd at hs
    simp only [Option.map_eq_some_iff] at hs
    obtain ⟨o, h1, h2⟩ := hs
    simp [pSs, pS, pO, pOs, pE, pEs, pAnd1, pAnd2, pOr1, pOr2, pV, pVs, pA, pAs, pLs, pI, pF, pOpt, pIfs, En.at, En.put, get_v, get_r, list_v, list_iL, list_pL, list_fL, list_r, sub_v, sub_r, getAll, ownFree, tgIn, tgsIn, bindT_n, bindT_t, bindTs_nil, bindTs_cons, putAll, PR.bind, PR.val, O.toD, startE, frzL, e, h1, h2]
  · intro p hp
    simp [pSs, pS, pO, pOs, pE, pEs, pAnd1, pAnd2, pOr1, pOr2, pV, pVs, pA, pAs, pLs, pI, pF, pOpt, pIfs, En.at, En.put, get_v, get_r, list_v, list_iL, list_pL, list_fL, list_r, sub_v, sub_r, getAll, ownFree, tgIn, tgsIn, bindT_n, bindT_t, bindTs_nil, bindTs_cons, putAll, PR.bind, PR.val, O.toD, startE, frzL, p_times (show 3 ≤ k by omega) (hl _ (List.of_mem_zip hp).1) (hm _ (List.of_mem_zip hp).2) (by omega)]
end TL

set_option maxRecDepth 100000
namespace TL
open PySem
/-! looks and games -/
def lkD (rows : List (List Rat)) : D := .tup [.str "look", .lst (rows.map fL)]
def gmD (rows : List (List Rat)) : D := .tup [.str "game", .lst (rows.map fL)]
@[simp] theorem isi_lk (rows : List (List Rat)) : isiD [.tuple] (lkD rows) = some true := rfl
@[simp] theorem isi_gm (rows : List (List Rat)) : isiD [.tuple] (gmD rows) = some true := rfl
@[simp] theorem len_lk (rows : List (List Rat)) : opX .len [lkD rows] = some (.int 2) := rfl
@[simp] theorem len_gm (rows : List (List Rat)) : opX .len [gmD rows] = some (.int 2) := rfl
@[simp] theorem sub_lk0 (rows : List (List Rat)) : subD (lkD rows) (.int 0) = some (.str "look") := rfl
@[simp] theorem sub_lk1 (rows : List (List Rat)) : subD (lkD rows) (.int 1) = some (.lst (rows.map fL)) := rfl
@[simp] theorem sub_gm0 (rows : List (List Rat)) : subD (gmD rows) (.int 0) = some (.str "game") := rfl
@[simp] theorem sub_gm1 (rows : List (List Rat)) : subD (gmD rows) (.int 1) = some (.lst (rows.map fL)) := rfl
@[simp] theorem ne_look : opC .ne (.str "look") (.str "look") = some false := by decide +kernel
@[simp] theorem ne_game : opC .ne (.str "game") (.str "game") = some false := by decide +kernel
@[simp] theorem sub_l0 (a : D) (l : List D) : subD (.lst (a :: l)) (.int 0) = some a := by simp [subD, ixAt]
@[simp] theorem len_l (l : List D) : opX .len [.lst l] = some (.int l.length) := rfl
@[simp] theorem items_l (l : List D) : D.items (.lst l) = some l := rfl
@[simp] theorem seq_l (l : List D) : seqD (.lst l) = some l := rfl
theorem g_marks : glD 0 = some (.int 8) := rfl
theorem g_standings : glD 1 = some (.int 6) := rfl
theorem g_deeds : glD 2 = some (.int 8) := rfl
structure LookOk (A : Nat) (rows : List (List Rat)) (w : Nat) : Prop where
  n1 : rows ≠ []
  n2 : rows.length ≤ 6
  w1 : 1 ≤ w
  w2 : w ≤ 8
  len : ∀ row ∈ rows, row.length = w
  sz : ∀ row ∈ rows, ∀ q ∈ row, Sz A q
  pos : ∀ row ∈ rows, ∀ q ∈ row, 0 ≤ q
  one : ∀ row ∈ rows, sumQ row = 1
  small : A < 500
variable {k : Nat}
theorem p_is_look_by (hk : 6 ≤ k) {A w : Nat} {rows : List (List Rat)} (h : LookOk A rows w) : cd (CC k) 14 [lkD rows] = some (.bl true) := by
  obtain ⟨k, rfl⟩ : ∃ j, k = j + 1 := ⟨k - 1, by omega⟩
  refine cd_of t_is_look_by rfl rfl rfl rfl ?_
  have hs := h.small
  cases rows with
  | nil => exact absurd rfl h.n1
  | cons row rows =>
    have hw := h.len row List.mem_cons_self
    have h2 := h.n2
    have h3 := h.w1
    have h4 := h.w2
    rw [List.length_cons] at h2
    have c1 : decide ((rows.length : Int) + 1 ≤ 6) = true := by simp; omega
    have c2 : decide ((1 : Int) ≤ w) = true := by simp; omega
    have c3 : decide ((w : Int) ≤ 8) = true := by simp; omega
    have c4 : decide ((1 : Int) ≤ (rows.length : Int) + 1) = true := by simp; omega
    simp only [pSs, pS, pO, pOs, pE, pEs, pAnd1, pAnd2, pOr1, pOr2, pV, pVs, pA, pAs, pLs, pI, pF, pOpt, pIfs, En.at, En.put, get_v, get_r, list_v, list_iL, list_pL, list_fL, list_r, sub_v, sub_r, getAll, ownFree, tgIn, tgsIn, bindT_n, bindT_t, bindTs_nil, bindTs_cons, putAll, PR.bind, PR.val, O.toD, startE, frzL, t_is_look_by, isi_lk, isi_ll, isi_fL, isi_ss, len_lk, len_l, len_fL, sub_lk0, sub_lk1, sub_l0, ne_look, ne_int, le_int, cc_glob, g_marks, g_standings, List.map_cons, List.map_nil, Option.bind_some, Option.map_some, List.getElem?_cons_zero, List.getElem?_cons_succ, List.set_cons_zero, List.set_cons_succ, List.replicate, List.nil_append, List.cons_append, id, Nat.reduceSub, Bool.false_eq_true, if_false, if_true, Bool.not_true, Bool.not_false, List.length_cons, List.length_map, hw, items_l, decide_true, Int.natCast_add, Int.natCast_one, c1, c2, c3, c4, Option.isNone_none, Bool.and_true, Bool.true_and, List.contains_cons, BEq.rfl, Bool.true_or]
    rw [← List.map_cons, mfM_all (enc := fL) (g := fun _ => D.bl true)]
    · have := all_map (fun _ : List Rat => true) (row :: rows)
      simp only [List.map_cons] at this
      simp [pSs, pS, pO, pOs, pE, pEs, pAnd1, pAnd2, pOr1, pOr2, pV, pVs, pA, pAs, pLs, pI, pF, pOpt, pIfs, En.at, En.put, get_v, get_r, list_v, list_iL, list_pL, list_fL, list_r, sub_v, sub_r, getAll, ownFree, tgIn, tgsIn, bindT_n, bindT_t, bindTs_nil, bindTs_cons, putAll, PR.bind, PR.val, O.toD, startE, frzL, this]
    · intro a ha
      have hl := h.len a ha
      have hm : w * (A + 2) ≤ 8 * (A + 2) := Nat.mul_le_mul_right _ h4
      simp [p_are_chances (k := k) (show 5 ≤ k by omega) (h.sz a ha) (by rw [hl]; omega) (h.pos a ha) (h.one a ha) hl]
theorem p_check_look (hk : 7 ≤ k) {A w : Nat} {rows : List (List Rat)} (h : LookOk A rows w) : cd (CC k) 15 [lkD rows] = some .non := by
  obtain ⟨k, rfl⟩ : ∃ j, k = j + 1 := ⟨k - 1, by omega⟩
  refine cd_of t_check_look rfl rfl rfl rfl ?_
  simp [pSs, pS, pO, pOs, pE, pEs, pAnd1, pAnd2, pOr1, pOr2, pV, pVs, pA, pAs, pLs, pI, pF, pOpt, pIfs, En.at, En.put, get_v, get_r, list_v, list_iL, list_pL, list_fL, list_r, sub_v, sub_r, getAll, ownFree, tgIn, tgsIn, bindT_n, bindT_t, bindTs_nil, bindTs_cons, putAll, PR.bind, PR.val, O.toD, startE, frzL, t_check_look, p_is_look_by (show 6 ≤ k by omega) h]
theorem p_standings_of (hk : 1 ≤ k) (rows : List (List Rat)) : cd (CC k) 16 [lkD rows] = some (.int rows.length) := by
  obtain ⟨k, rfl⟩ : ∃ j, k = j + 1 := ⟨k - 1, by omega⟩
  refine cd_of t_standings_of rfl rfl rfl rfl ?_
  simp [pSs, pS, pO, pOs, pE, pEs, pAnd1, pAnd2, pOr1, pOr2, pV, pVs, pA, pAs, pLs, pI, pF, pOpt, pIfs, En.at, En.put, get_v, get_r, list_v, list_iL, list_pL, list_fL, list_r, sub_v, sub_r, getAll, ownFree, tgIn, tgsIn, bindT_n, bindT_t, bindTs_nil, bindTs_cons, putAll, PR.bind, PR.val, O.toD, startE, frzL, t_standings_of]
theorem p_marks_of (hk : 1 ≤ k) (row : List Rat) (rows : List (List Rat)) : cd (CC k) 17 [lkD (row :: rows)] = some (.int row.length) := by
  obtain ⟨k, rfl⟩ : ∃ j, k = j + 1 := ⟨k - 1, by omega⟩
  refine cd_of t_marks_of rfl rfl rfl rfl ?_
  simp [pSs, pS, pO, pOs, pE, pEs, pAnd1, pAnd2, pOr1, pOr2, pV, pVs, pA, pAs, pLs, pI, pF, pOpt, pIfs, En.at, En.put, get_v, get_r, list_v, list_iL, list_pL, list_fL, list_r, sub_v, sub_r, getAll, ownFree, tgIn, tgsIn, bindT_n, bindT_t, bindTs_nil, bindTs_cons, putAll, PR.bind, PR.val, O.toD, startE, frzL, t_marks_of]
theorem p_column_of (hk : 1 ≤ k) {rows : List (List Rat)} {w j : Nat} (hl : ∀ row ∈ rows, row.length = w) (hj : j < w) : cd (CC k) 18 [lkD rows, .int j] = some (fL (rows.map fun row => row.getD j 0)) := by
  obtain ⟨k, rfl⟩ : ∃ j, k = j + 1 := ⟨k - 1, by omega⟩
  refine cd_of t_column_of rfl rfl rfl rfl ?_
  simp [pSs, pS, pO, pOs, pE, pEs, pAnd1, pAnd2, pOr1, pOr2, pV, pVs, pA, pAs, pLs, pI, pF, pOpt, pIfs, En.at, En.put, get_v, get_r, list_v, list_iL, list_pL, list_fL, list_r, sub_v, sub_r, getAll, ownFree, tgIn, tgsIn, bindT_n, bindT_t, bindTs_nil, bindTs_cons, putAll, PR.bind, PR.val, O.toD, startE, frzL, t_column_of]
  rw [mfM_all (enc := fL) (g := fun row => fr (row.getD j 0))]
  · simp [pSs, pS, pO, pOs, pE, pEs, pAnd1, pAnd2, pOr1, pOr2, pV, pVs, pA, pAs, pLs, pI, pF, pOpt, pIfs, En.at, En.put, get_v, get_r, list_v, list_iL, list_pL, list_fL, list_r, sub_v, sub_r, getAll, ownFree, tgIn, tgsIn, bindT_n, bindT_t, bindTs_nil, bindTs_cons, putAll, PR.bind, PR.val, O.toD, startE, frzL]
    unfold fL
    rw [List.map_map]
    congr 1
  · intro a ha
    have := sub_fL (l := a) (i := j) (by rw [hl a ha]; exact hj)
    rw [iD_def] at this
    simp [pSs, pS, pO, pOs, pE, pEs, pAnd1, pAnd2, pOr1, pOr2, pV, pVs, pA, pAs, pLs, pI, pF, pOpt, pIfs, En.at, En.put, get_v, get_r, list_v, list_iL, list_pL, list_fL, list_r, sub_v, sub_r, getAll, ownFree, tgIn, tgsIn, bindT_n, bindT_t, bindTs_nil, bindTs_cons, putAll, PR.bind, PR.val, O.toD, startE, frzL, this, hl a ha, hj]
/-- chances of a belief -/
structure BelOk (A : Nat) (b : List Rat) : Prop where
  sz : ∀ q ∈ b, Sz A q
  pos : ∀ q ∈ b, 0 ≤ q
  one : sumQ b = 1
  small : A < 500
  le : b.length ≤ 6
theorem p_check_belief (hk : 7 ≤ k) {rows : List (List Rat)} {A : Nat} {b : List Rat} (h : BelOk A b) (hl : b.length = rows.length) : cd (CC k) 20 [lkD rows, fL b] = some .non := by
  obtain ⟨k, rfl⟩ : ∃ j, k = j + 2 := ⟨k - 2, by omega⟩
  have h1 : cd (CC (k + 1)) 19 [lkD rows, fL b] = some (.bl true) := by
    refine cd_of t_is_belief_by rfl rfl rfl rfl ?_
    have hm : b.length * (A + 2) ≤ 6 * (A + 2) := Nat.mul_le_mul_right _ h.le
    have hs := h.small
    have := p_are_chances (k := k) (show 5 ≤ k by omega) h.sz (by omega) h.pos h.one hl
    unfold cd at this
    simp only [Option.map_eq_some_iff] at this
    obtain ⟨o, h1, h2⟩ := this
    simp [pSs, pS, pO, pOs, pE, pEs, pAnd1, pAnd2, pOr1, pOr2, pV, pVs, pA, pAs, pLs, pI, pF, pOpt, pIfs, En.at, En.put, get_v, get_r, list_v, list_iL, list_pL, list_fL, list_r, sub_v, sub_r, getAll, ownFree, tgIn, tgsIn, bindT_n, bindT_t, bindTs_nil, bindTs_cons, putAll, PR.bind, PR.val, O.toD, startE, frzL, t_is_belief_by, p_standings_of (show 1 ≤ k by omega), h1, h2]
  refine cd_of t_check_belief rfl rfl rfl rfl ?_
  simp [pSs, pS, pO, pOs, pE, pEs, pAnd1, pAnd2, pOr1, pOr2, pV, pVs, pA, pAs, pLs, pI, pF, pOpt, pIfs, En.at, En.put, get_v, get_r, list_v, list_iL, list_pL, list_fL, list_r, sub_v, sub_r, getAll, ownFree, tgIn, tgsIn, bindT_n, bindT_t, bindTs_nil, bindTs_cons, putAll, PR.bind, PR.val, O.toD, startE, frzL, t_check_belief, h1]
structure GameOk (A : Nat) (rows : List (List Rat)) (n : Nat) : Prop where
  n1 : rows ≠ []
  n2 : rows.length ≤ 8
  w1 : 1 ≤ n
  w2 : n ≤ 6
  len : ∀ row ∈ rows, row.length = n
  sz : ∀ row ∈ rows, ∀ q ∈ row, Sz A q
  small : A < 500
theorem p_is_game_by (hk : 4 ≤ k) {A w : Nat} {rows : List (List Rat)} (h : GameOk A rows w) : cd (CC k) 21 [gmD rows] = some (.bl true) := by
  obtain ⟨k, rfl⟩ : ∃ j, k = j + 1 := ⟨k - 1, by omega⟩
  refine cd_of t_is_game_by rfl rfl rfl rfl ?_
  cases rows with
  | nil => exact absurd rfl h.n1
  | cons row rows =>
    have hw := h.len row List.mem_cons_self
    have h2 := h.n2
    have h3 := h.w1
    have h4 := h.w2
    rw [List.length_cons] at h2
    have c1 : decide ((rows.length : Int) + 1 ≤ 8) = true := by simp; omega
    have c2 : decide ((1 : Int) ≤ w) = true := by simp; omega
    have c3 : decide ((w : Int) ≤ 6) = true := by simp; omega
    have c4 : decide ((1 : Int) ≤ (rows.length : Int) + 1) = true := by simp; omega
    simp only [pSs, pS, pO, pOs, pE, pEs, pAnd1, pAnd2, pOr1, pOr2, pV, pVs, pA, pAs, pLs, pI, pF, pOpt, pIfs, En.at, En.put, get_v, get_r, list_v, list_iL, list_pL, list_fL, list_r, sub_v, sub_r, getAll, ownFree, tgIn, tgsIn, bindT_n, bindT_t, bindTs_nil, bindTs_cons, putAll, PR.bind, PR.val, O.toD, startE, frzL, t_is_game_by, isi_gm, isi_ll, isi_fL, isi_ss, len_gm, len_l, len_fL, sub_gm0, sub_gm1, sub_l0, ne_game, ne_int, le_int, cc_glob, g_deeds, g_standings, List.map_cons, List.map_nil, Option.bind_some, Option.map_some, List.getElem?_cons_zero, List.getElem?_cons_succ, List.set_cons_zero, List.set_cons_succ, List.replicate, List.nil_append, List.cons_append, id, Nat.reduceSub, Bool.false_eq_true, if_false, if_true, Bool.not_true, Bool.not_false, List.length_cons, List.length_map, hw, items_l, decide_true, Int.natCast_add, Int.natCast_one, c1, c2, c3, c4, Option.isNone_none, Bool.and_true, Bool.true_and, List.contains_cons, BEq.rfl, Bool.true_or]
    rw [← List.map_cons, mfM_all (enc := fL) (g := fun _ => D.bl true)]
    · have := all_map (fun _ : List Rat => true) (row :: rows)
      simp only [List.map_cons] at this
      simp [pSs, pS, pO, pOs, pE, pEs, pAnd1, pAnd2, pOr1, pOr2, pV, pVs, pA, pAs, pLs, pI, pF, pOpt, pIfs, En.at, En.put, get_v, get_r, list_v, list_iL, list_pL, list_fL, list_r, sub_v, sub_r, getAll, ownFree, tgIn, tgsIn, bindT_n, bindT_t, bindTs_nil, bindTs_cons, putAll, PR.bind, PR.val, O.toD, startE, frzL, this]
    · intro a ha
      simp [p_are_fractions (k := k) (show 3 ≤ k by omega) (h.len a ha)]
theorem p_check_game (hk : 5 ≤ k) {A w : Nat} {rows g : List (List Rat)} (h : GameOk A g rows.length) : cd (CC k) 22 [lkD rows, gmD g] = some .non := by
  obtain ⟨k, rfl⟩ : ∃ j, k = j + 1 := ⟨k - 1, by omega⟩
  refine cd_of t_check_game rfl rfl rfl rfl ?_
  cases g with
  | nil => exact absurd rfl h.n1
  | cons row g =>
    have hw := h.len row List.mem_cons_self
    simp [pSs, pS, pO, pOs, pE, pEs, pAnd1, pAnd2, pOr1, pOr2, pV, pVs, pA, pAs, pLs, pI, pF, pOpt, pIfs, En.at, En.put, get_v, get_r, list_v, list_iL, list_pL, list_fL, list_r, sub_v, sub_r, getAll, ownFree, tgIn, tgsIn, bindT_n, bindT_t, bindTs_nil, bindTs_cons, putAll, PR.bind, PR.val, O.toD, startE, frzL, t_check_game, p_is_game_by (show 4 ≤ k by omega) h, p_standings_of (show 1 ≤ k by omega), hw]
theorem p_check_asked (hk : 8 ≤ k) {A B E w : Nat} {rows g : List (List Rat)} {b : List Rat} (h : LookOk A rows w) (hb : BelOk B b) (hl : b.length = rows.length) (hg : GameOk E g rows.length) : cd (CC k) 46 [lkD rows, fL b, gmD g] = some .non := by
  obtain ⟨k, rfl⟩ : ∃ j, k = j + 1 := ⟨k - 1, by omega⟩
  refine cd_of t_check_asked rfl rfl rfl rfl ?_
  simp [pSs, pS, pO, pOs, pE, pEs, pAnd1, pAnd2, pOr1, pOr2, pV, pVs, pA, pAs, pLs, pI, pF, pOpt, pIfs, En.at, En.put, get_v, get_r, list_v, list_iL, list_pL, list_fL, list_r, sub_v, sub_r, getAll, ownFree, tgIn, tgsIn, bindT_n, bindT_t, bindTs_nil, bindTs_cons, putAll, PR.bind, PR.val, O.toD, startE, frzL, t_check_asked, p_check_look (show 7 ≤ k by omega) h, p_check_belief (show 7 ≤ k by omega) hb hl, p_check_game (w := w) (show 5 ≤ k by omega) hg]
end TL

set_option maxRecDepth 100000
namespace TL
open PySem
/-! lots and parts -/
variable {k : Nat}
@[simp] theorem smallI_nat {n : Nat} (h : n < 4000000) : smallI (n : Int) = true := by
  unfold smallI
  simp
  omega
@[simp] theorem rngA_nat {n : Nat} (h : n < 4000000) : rngA (.int (n : Int)) = some ((List.range n).map iD) := by
  rw [rngA_eq]; unfold rngA0
  simp only [smallI_nat h, if_true, rangeD_nat]
theorem rngB_one {n : Nat} (h : n < 4000000) : rngB (.int 1) (.int (n : Int)) = some ((List.range (n - 1)).map fun (a : Nat) => D.int (1 + (a : Int))) := by
  have h1 : smallI 1 = true := smallI_nat (n := 1) (by omega)
  rw [rngB_eq]; unfold rngB0
  simp only [smallI_nat h, h1, Bool.and_self, if_true]
  unfold rangeD
  rw [show ((n : Int) - 1).toNat = n - 1 from by omega]
theorem p_is_lot_of (hk : 2 ≤ k) {l : List Nat} {n : Nat} (h : l.Pairwise (· < ·)) (hn : ∀ s ∈ l, s < n) (hl : l.length ≤ 1000) : cd (CC k) 23 [iL l, .int n] = some (.bl true) := by
  obtain ⟨k, rfl⟩ : ∃ j, k = j + 1 := ⟨k - 1, by omega⟩
  refine cd_at t_is_lot_of [some (.frz (iL l)), some (.frz (.int n)), none, none] rfl rfl rfl rfl rfl ?_
  refine cd_step (e' := [some (.frz (iL l)), some (.frz (.int n)), none, none]) ?_ ?_
  · simp [pSs, pS, pO, pOs, pE, pEs, pAnd1, pAnd2, pOr1, pOr2, pV, pVs, pA, pAs, pLs, pI, pF, pOpt, pIfs, En.at, En.put, get_v, get_r, list_v, list_iL, list_pL, list_fL, list_r, sub_v, sub_r, getAll, ownFree, tgIn, tgsIn, bindT_n, bindT_t, bindTs_nil, bindTs_cons, putAll, PR.bind, PR.val, O.toD, startE, frzL]
    rw [mfM_all (enc := iD) (g := fun _ => D.bl true)]
    · have h1 := all_map (fun _ : Nat => true) l
      have h0 : (l.all fun _ => true) = true := by simp
      simp [pSs, pS, pO, pOs, pE, pEs, pAnd1, pAnd2, pOr1, pOr2, pV, pVs, pA, pAs, pLs, pI, pF, pOpt, pIfs, En.at, En.put, get_v, get_r, list_v, list_iL, list_pL, list_fL, list_r, sub_v, sub_r, getAll, ownFree, tgIn, tgsIn, bindT_n, bindT_t, bindTs_nil, bindTs_cons, putAll, PR.bind, PR.val, O.toD, startE, frzL, h1, h0]
    · intro a ha
      have := hn a ha
      simp [pSs, pS, pO, pOs, pE, pEs, pAnd1, pAnd2, pOr1, pOr2, pV, pVs, pA, pAs, pLs, pI, pF, pOpt, pIfs, En.at, En.put, get_v, get_r, list_v, list_iL, list_pL, list_fL, list_r, sub_v, sub_r, getAll, ownFree, tgIn, tgsIn, bindT_n, bindT_t, bindTs_nil, bindTs_cons, putAll, PR.bind, PR.val, O.toD, startE, frzL, iD_def, p_is_whole (show 1 ≤ k by omega), this]
  · refine cd_last (o := .frz (.bl true)) (e' := [some (.frz (iL l)), some (.frz (.int n)), none, none]) ?_
    simp [pSs, pS, pO, pOs, pE, pEs, pAnd1, pAnd2, pOr1, pOr2, pV, pVs, pA, pAs, pLs, pI, pF, pOpt, pIfs, En.at, En.put, get_v, get_r, list_v, list_iL, list_pL, list_fL, list_r, sub_v, sub_r, getAll, ownFree, tgIn, tgsIn, bindT_n, bindT_t, bindTs_nil, bindTs_cons, putAll, PR.bind, PR.val, O.toD, startE, frzL, rngB_one (show l.length < 4000000 by omega)]
    rw [mfM_all (enc := fun (a : Nat) => D.int (1 + (a : Int))) (g := fun _ => D.bl true)]
    · have h3 := all_map (fun _ : Nat => true) (List.range (l.length - 1))
      simp [pSs, pS, pO, pOs, pE, pEs, pAnd1, pAnd2, pOr1, pOr2, pV, pVs, pA, pAs, pLs, pI, pF, pOpt, pIfs, En.at, En.put, get_v, get_r, list_v, list_iL, list_pL, list_fL, list_r, sub_v, sub_r, getAll, ownFree, tgIn, tgsIn, bindT_n, bindT_t, bindTs_nil, bindTs_cons, putAll, PR.bind, PR.val, O.toD, startE, frzL, h3]
    · intro a ha
      rw [List.mem_range] at ha
      have e1 := sub_iL (l := l) (i := a) (by omega)
      have e2 := sub_iL (l := l) (i := a + 1) (by omega)
      have e3 : (1 + (a : Int) - 1) = (a : Int) := by omega
      have e4 : (1 + (a : Int)) = ((a + 1 : Nat) : Int) := by omega
      rw [iD_def, iD_def] at e1 e2
      have e5 : l[a] < l[a + 1] := List.pairwise_iff_getElem.mp h a (a + 1) _ _ (by omega)
      simp [pSs, pS, pO, pOs, pE, pEs, pAnd1, pAnd2, pOr1, pOr2, pV, pVs, pA, pAs, pLs, pI, pF, pOpt, pIfs, En.at, En.put, get_v, get_r, list_v, list_iL, list_pL, list_fL, list_r, sub_v, sub_r, getAll, ownFree, tgIn, tgsIn, bindT_n, bindT_t, bindTs_nil, bindTs_cons, putAll, PR.bind, PR.val, O.toD, startE, frzL, e3, e1]
      rw [e4, e2]
      simp [pSs, pS, pO, pOs, pE, pEs, pAnd1, pAnd2, pOr1, pOr2, pV, pVs, pA, pAs, pLs, pI, pF, pOpt, pIfs, En.at, En.put, get_v, get_r, list_v, list_iL, list_pL, list_fL, list_r, sub_v, sub_r, getAll, ownFree, tgIn, tgsIn, bindT_n, bindT_t, bindTs_nil, bindTs_cons, putAll, PR.bind, PR.val, O.toD, startE, frzL, e5]
theorem p_ordered (hk : 1 ≤ k) {P : List (List Nat)} (h1 : ∀ l ∈ P, l.Pairwise (· < ·)) (h2 : P.Pairwise fun a b => a.headD 0 < b.headD 0) (h3 : ∀ l ∈ P, l ≠ []) : cd (CC k) 24 [pL P] = some (pL P) := by
  obtain ⟨k, rfl⟩ : ∃ j, k = j + 1 := ⟨k - 1, by omega⟩
  refine cd_of t_ordered rfl rfl rfl rfl ?_
  simp [pSs, pS, pO, pOs, pE, pEs, pAnd1, pAnd2, pOr1, pOr2, pV, pVs, pA, pAs, pLs, pI, pF, pOpt, pIfs, En.at, En.put, get_v, get_r, list_v, list_iL, list_pL, list_fL, list_r, sub_v, sub_r, getAll, ownFree, tgIn, tgsIn, bindT_n, bindT_t, bindTs_nil, bindTs_cons, putAll, PR.bind, PR.val, O.toD, startE, frzL, t_ordered]
  rw [mfM_all (enc := iL) (g := iL)]
  · simp [pSs, pS, pO, pOs, pE, pEs, pAnd1, pAnd2, pOr1, pOr2, pV, pVs, pA, pAs, pLs, pI, pF, pOpt, pIfs, En.at, En.put, get_v, get_r, list_v, list_iL, list_pL, list_fL, list_r, sub_v, sub_r, getAll, ownFree, tgIn, tgsIn, bindT_n, bindT_t, bindTs_nil, bindTs_cons, putAll, PR.bind, PR.val, O.toD, startE, frzL, sortD_pL h2 h3]
    rfl
  · intro l hl
    simp [pSs, pS, pO, pOs, pE, pEs, pAnd1, pAnd2, pOr1, pOr2, pV, pVs, pA, pAs, pLs, pI, pF, pOpt, pIfs, En.at, En.put, get_v, get_r, list_v, list_iL, list_pL, list_fL, list_r, sub_v, sub_r, getAll, ownFree, tgIn, tgsIn, bindT_n, bindT_t, bindTs_nil, bindTs_cons, putAll, PR.bind, PR.val, O.toD, startE, frzL, sortD_iL ((h1 l hl).imp fun a => Nat.le_of_lt a)]
    rfl
theorem p_how_many (hk : 1 ≤ k) (P : List (List Nat)) : cd (CC k) 26 [pL P] = some (.int (P.map List.length).sum) := by
  obtain ⟨k, rfl⟩ : ∃ j, k = j + 1 := ⟨k - 1, by omega⟩
  refine cd_of t_how_many rfl rfl rfl rfl ?_
  simp [pSs, pS, pO, pOs, pE, pEs, pAnd1, pAnd2, pOr1, pOr2, pV, pVs, pA, pAs, pLs, pI, pF, pOpt, pIfs, En.at, En.put, get_v, get_r, list_v, list_iL, list_pL, list_fL, list_r, sub_v, sub_r, getAll, ownFree, tgIn, tgsIn, bindT_n, bindT_t, bindTs_nil, bindTs_cons, putAll, PR.bind, PR.val, O.toD, startE, frzL, t_how_many]
  rw [mfM_all (enc := iL) (g := fun _ => D.bl true)]
  · have h1 := all_map (fun _ : List Nat => true) P
    have h0 : (P.all fun _ => true) = true := by simp
    simp [pSs, pS, pO, pOs, pE, pEs, pAnd1, pAnd2, pOr1, pOr2, pV, pVs, pA, pAs, pLs, pI, pF, pOpt, pIfs, En.at, En.put, get_v, get_r, list_v, list_iL, list_pL, list_fL, list_r, sub_v, sub_r, getAll, ownFree, tgIn, tgsIn, bindT_n, bindT_t, bindTs_nil, bindTs_cons, putAll, PR.bind, PR.val, O.toD, startE, frzL, h1, h0]
    rw [mfM_all (enc := iL) (g := fun l => iD l.length)]
    · have : opX .sum [.lst (P.map fun l => iD l.length)] = some (.int (P.map List.length).sum) := by
        rw [show (P.map fun l => iD l.length) = (P.map List.length).map iD from by rw [List.map_map]; rfl]
        show (sumI _).map D.int = _
        rw [sumI_iD]; rfl
      simp [pSs, pS, pO, pOs, pE, pEs, pAnd1, pAnd2, pOr1, pOr2, pV, pVs, pA, pAs, pLs, pI, pF, pOpt, pIfs, En.at, En.put, get_v, get_r, list_v, list_iL, list_pL, list_fL, list_r, sub_v, sub_r, getAll, ownFree, tgIn, tgsIn, bindT_n, bindT_t, bindTs_nil, bindTs_cons, putAll, PR.bind, PR.val, O.toD, startE, frzL, this]
    · intro l hl
      simp [pSs, pS, pO, pOs, pE, pEs, pAnd1, pAnd2, pOr1, pOr2, pV, pVs, pA, pAs, pLs, pI, pF, pOpt, pIfs, En.at, En.put, get_v, get_r, list_v, list_iL, list_pL, list_fL, list_r, sub_v, sub_r, getAll, ownFree, tgIn, tgsIn, bindT_n, bindT_t, bindTs_nil, bindTs_cons, putAll, PR.bind, PR.val, O.toD, startE, frzL]; rfl
  · intro a ha
    simp [pSs, pS, pO, pOs, pE, pEs, pAnd1, pAnd2, pOr1, pOr2, pV, pVs, pA, pAs, pLs, pI, pF, pOpt, pIfs, En.at, En.put, get_v, get_r, list_v, list_iL, list_pL, list_fL, list_r, sub_v, sub_r, getAll, ownFree, tgIn, tgsIn, bindT_n, bindT_t, bindTs_nil, bindTs_cons, putAll, PR.bind, PR.val, O.toD, startE, frzL]
/-- a parts list -/
structure POk (n : Nat) (P : List (List Nat)) : Prop where
  inc : ∀ l ∈ P, l.Pairwise (· < ·)
  lt : ∀ l ∈ P, ∀ s ∈ l, s < n
  ne : ∀ l ∈ P, l ≠ []
  heads : P.Pairwise fun a b => a.headD 0 < b.headD 0
  flat : P.flatten.Perm (List.range n)
  n1 : 1 ≤ n
  n2 : n ≤ 6
theorem grp_ok {n : Nat} {r : Nat → Nat → Bool} (h : Eqv r) (h1 : 1 ≤ n) (h2 : n ≤ 6) : POk n (grp n r) where
  inc _ hl := grp_lt hl
  lt _ hl _ hs := grp_mem_lt hl hs
  ne _ hl := grp_ne h hl
  heads := grp_heads h
  flat := grp_flat h
  n1 := h1
  n2 := h2
theorem POk.sum {n : Nat} {P : List (List Nat)} (h : POk n P) : (P.map List.length).sum = n := by
  rw [← List.length_flatten, h.flat.length_eq, List.length_range]
theorem POk.len {n : Nat} {P : List (List Nat)} (h : POk n P) {l : List Nat} (hl : l ∈ P) : l.length ≤ 6 := by
  have h1 : l.Sublist P.flatten := List.sublist_flatten_of_mem hl
  have h2 := h1.length_le
  rw [h.flat.length_eq, List.length_range] at h2
  have := h.n2
  omega
theorem p_many (hk : 1 ≤ k) {n : Nat} {P : List (List Nat)} (h : POk n P) : cd (CC k) 26 [pL P] = some (.int n) := by
  rw [p_how_many hk, h.sum]
theorem p_are_parts_of (hk : 3 ≤ k) {n : Nat} {P : List (List Nat)} (h : POk n P) : cd (CC k) 25 [.int n, pL P] = some (.bl true) := by
  obtain ⟨k, rfl⟩ : ∃ j, k = j + 1 := ⟨k - 1, by omega⟩
  refine cd_of t_are_parts_of rfl rfl rfl rfl ?_
  simp [pSs, pS, pO, pOs, pE, pEs, pAnd1, pAnd2, pOr1, pOr2, pV, pVs, pA, pAs, pLs, pI, pF, pOpt, pIfs, En.at, En.put, get_v, get_r, list_v, list_iL, list_pL, list_fL, list_r, sub_v, sub_r, getAll, ownFree, tgIn, tgsIn, bindT_n, bindT_t, bindTs_nil, bindTs_cons, putAll, PR.bind, PR.val, O.toD, startE, frzL, t_are_parts_of]
  have hnl := h.n2
  have hf := h.flat.length_eq
  rw [List.length_range] at hf
  rw [mfM_all (enc := iL) (g := fun _ => D.bl true)]
  · have h1 := all_map (fun _ : List Nat => true) P
    have h0 : (P.all fun _ => true) = true := by simp
    have h2 : sortD (P.flatten.map iD) = some ((List.range n).map iD) := sortD_perm (List.pairwise_lt_range.imp fun a => Nat.le_of_lt a) h.flat
    have h3 : P.flatten.length ≤ listLine := by unfold listLine; omega
    simp [-List.map_flatten, -List.length_flatten, pSs, pS, pO, pOs, pE, pEs, pAnd1, pAnd2, pOr1, pOr2, pV, pVs, pA, pAs, pLs, pI, pF, pOpt, pIfs, En.at, En.put, get_v, get_r, list_v, list_iL, list_pL, list_fL, list_r, sub_v, sub_r, getAll, ownFree, tgIn, tgsIn, bindT_n, bindT_t, bindTs_nil, bindTs_cons, putAll, PR.bind, PR.val, O.toD, startE, frzL, h1, h0, h2, h3, rngA_nat (show n < 4000000 by omega), lst_iL, p_ordered (show 1 ≤ k by omega) h.inc h.heads h.ne]
  · intro a ha
    have := h.ne a ha
    simp [pSs, pS, pO, pOs, pE, pEs, pAnd1, pAnd2, pOr1, pOr2, pV, pVs, pA, pAs, pLs, pI, pF, pOpt, pIfs, En.at, En.put, get_v, get_r, list_v, list_iL, list_pL, list_fL, list_r, sub_v, sub_r, getAll, ownFree, tgIn, tgsIn, bindT_n, bindT_t, bindTs_nil, bindTs_cons, putAll, PR.bind, PR.val, O.toD, startE, frzL, p_is_lot_of (show 2 ≤ k by omega) (h.inc a ha) (h.lt a ha) (by have := h.len ha; omega), nil_iL, this]
theorem p_check_parts (hk : 4 ≤ k) {n : Nat} {P : List (List Nat)} (h : POk n P) : cd (CC k) 27 [pL P] = some .non := by
  obtain ⟨k, rfl⟩ : ∃ j, k = j + 1 := ⟨k - 1, by omega⟩
  refine cd_of t_check_parts rfl rfl rfl rfl ?_
  have c1 : decide ((1 : Int) ≤ n) = true := by have := h.n1; simp; omega
  have c2 : decide ((n : Int) ≤ 6) = true := by have := h.n2; simp; omega
  simp only [pSs, pS, pO, pOs, pE, pEs, pAnd1, pAnd2, pOr1, pOr2, pV, pVs, pA, pAs, pLs, pI, pF, pOpt, pIfs, En.at, En.put, get_v, get_r, list_v, list_iL, list_pL, list_fL, list_r, sub_v, sub_r, getAll, ownFree, tgIn, tgsIn, bindT_n, bindT_t, bindTs_nil, bindTs_cons, putAll, PR.bind, PR.val, O.toD, startE, frzL, t_check_parts, p_many (show 1 ≤ k by omega) h, p_are_parts_of (show 3 ≤ k by omega) h, le_int, cc_glob, g_standings, List.map_cons, List.map_nil, Option.bind_some, Option.map_some, List.getElem?_cons_zero, List.getElem?_cons_succ, List.set_cons_zero, List.set_cons_succ, List.replicate, List.nil_append, List.cons_append, id, Nat.reduceSub, Bool.false_eq_true, if_false, if_true, Bool.not_true, Bool.not_false, c1, c2]
theorem p_check_both (hk : 5 ≤ k) {n : Nat} {P Q : List (List Nat)} (h : POk n P) (g : POk n Q) : cd (CC k) 28 [pL P, pL Q] = some .non := by
  obtain ⟨k, rfl⟩ : ∃ j, k = j + 1 := ⟨k - 1, by omega⟩
  refine cd_of t_check_both rfl rfl rfl rfl ?_
  simp [pSs, pS, pO, pOs, pE, pEs, pAnd1, pAnd2, pOr1, pOr2, pV, pVs, pA, pAs, pLs, pI, pF, pOpt, pIfs, En.at, En.put, get_v, get_r, list_v, list_iL, list_pL, list_fL, list_r, sub_v, sub_r, getAll, ownFree, tgIn, tgsIn, bindT_n, bindT_t, bindTs_nil, bindTs_cons, putAll, PR.bind, PR.val, O.toD, startE, frzL, t_check_both, p_check_parts (show 4 ≤ k by omega) h, p_check_parts (show 4 ≤ k by omega) g, p_many (show 1 ≤ k by omega) h, p_many (show 1 ≤ k by omega) g]
/-- a lot of standings -/
structure LOk (n : Nat) (l : List Nat) : Prop where
  inc : l.Pairwise (· < ·)
  lt : ∀ s ∈ l, s < n
  len : l.length ≤ 6
theorem p_check_lot (hk : 3 ≤ k) {n : Nat} {P : List (List Nat)} (h : POk n P) {l : List Nat} (hl : LOk n l) : cd (CC k) 29 [pL P, iL l] = some .non := by
  obtain ⟨k, rfl⟩ : ∃ j, k = j + 1 := ⟨k - 1, by omega⟩
  refine cd_of t_check_lot rfl rfl rfl rfl ?_
  simp [pSs, pS, pO, pOs, pE, pEs, pAnd1, pAnd2, pOr1, pOr2, pV, pVs, pA, pAs, pLs, pI, pF, pOpt, pIfs, En.at, En.put, get_v, get_r, list_v, list_iL, list_pL, list_fL, list_r, sub_v, sub_r, getAll, ownFree, tgIn, tgsIn, bindT_n, bindT_t, bindTs_nil, bindTs_cons, putAll, PR.bind, PR.val, O.toD, startE, frzL, t_check_lot, p_many (show 1 ≤ k by omega) h, p_is_lot_of (show 2 ≤ k by omega) hl.inc hl.lt (by have := hl.len; omega)]
theorem zipIdx_find {p : List Nat → Bool} : ∀ {P : List (List Nat)} (j : Nat), P.findIdx p < P.length → ∃ rest, ((P.zipIdx j).filter fun q => p q.1).map (fun q => iD q.2) = iD (j + P.findIdx p) :: rest
  | [], j, h => by simp at h
  | a :: P, j, h => by
    rw [List.zipIdx_cons, List.filter_cons, List.findIdx_cons] at *
    by_cases c : p a = true
    · simp [c]
    · simp only [c, cond_false, List.length_cons] at h ⊢
      obtain ⟨rest, e⟩ := zipIdx_find (p := p) (P := P) (j + 1) (by simpa using h)
      refine ⟨rest, ?_⟩
      simp only [Bool.false_eq_true, if_false]
      rw [e, show j + 1 + P.findIdx p = j + (P.findIdx p + 1) from by omega]
theorem p_number_of (hk : 1 ≤ k) {P : List (List Nat)} {s : Nat} (h : num P s < P.length) : cd (CC k) 31 [pL P, .int s] = some (.int (num P s)) := by
  obtain ⟨k, rfl⟩ : ∃ j, k = j + 1 := ⟨k - 1, by omega⟩
  refine cd_of t_number_of rfl rfl rfl rfl ?_
  simp [pSs, pS, pO, pOs, pE, pEs, pAnd1, pAnd2, pOr1, pOr2, pV, pVs, pA, pAs, pLs, pI, pF, pOpt, pIfs, En.at, En.put, get_v, get_r, list_v, list_iL, list_pL, list_fL, list_r, sub_v, sub_r, getAll, ownFree, tgIn, tgsIn, bindT_n, bindT_t, bindTs_nil, bindTs_cons, putAll, PR.bind, PR.val, O.toD, startE, frzL, t_number_of]
  rw [show pL P = D.lst (P.map iL) from rfl]
  simp [pSs, pS, pO, pOs, pE, pEs, pAnd1, pAnd2, pOr1, pOr2, pV, pVs, pA, pAs, pLs, pI, pF, pOpt, pIfs, En.at, En.put, get_v, get_r, list_v, list_iL, list_pL, list_fL, list_r, sub_v, sub_r, getAll, ownFree, tgIn, tgsIn, bindT_n, bindT_t, bindTs_nil, bindTs_cons, putAll, PR.bind, PR.val, O.toD, startE, frzL, enum_enc]
  rw [mfM_enc (enc := fun p : List Nat × Nat => D.tup [iD p.2, iL p.1]) (p := fun p => p.1.contains s) (g := fun p => iD p.2)]
  · obtain ⟨rest, e⟩ := zipIdx_find (p := fun l => l.contains s) (P := P) 0 h
    rw [e]
    simp [pSs, pS, pO, pOs, pE, pEs, pAnd1, pAnd2, pOr1, pOr2, pV, pVs, pA, pAs, pLs, pI, pF, pOpt, pIfs, En.at, En.put, get_v, get_r, list_v, list_iL, list_pL, list_fL, list_r, sub_v, sub_r, getAll, ownFree, tgIn, tgsIn, bindT_n, bindT_t, bindTs_nil, bindTs_cons, putAll, PR.bind, PR.val, O.toD, startE, frzL, num, iD_def]
  · intro a ha
    by_cases c : s ∈ a.1
    · simp [pSs, pS, pO, pOs, pE, pEs, pAnd1, pAnd2, pOr1, pOr2, pV, pVs, pA, pAs, pLs, pI, pF, pOpt, pIfs, En.at, En.put, get_v, get_r, list_v, list_iL, list_pL, list_fL, list_r, sub_v, sub_r, getAll, ownFree, tgIn, tgsIn, bindT_n, bindT_t, bindTs_nil, bindTs_cons, putAll, PR.bind, PR.val, O.toD, startE, frzL, c]
    · simp [pSs, pS, pO, pOs, pE, pEs, pAnd1, pAnd2, pOr1, pOr2, pV, pVs, pA, pAs, pLs, pI, pF, pOpt, pIfs, En.at, En.put, get_v, get_r, list_v, list_iL, list_pL, list_fL, list_r, sub_v, sub_r, getAll, ownFree, tgIn, tgsIn, bindT_n, bindT_t, bindTs_nil, bindTs_cons, putAll, PR.bind, PR.val, O.toD, startE, frzL, c]
theorem p_lies_in (hk : 1 ≤ k) (l m : List Nat) : cd (CC k) 33 [iL l, iL m] = some (.bl (l.all fun s => m.contains s)) := by
  obtain ⟨k, rfl⟩ : ∃ j, k = j + 1 := ⟨k - 1, by omega⟩
  refine cd_of t_lies_in rfl rfl rfl rfl ?_
  simp only [pSs, pS, pO, pOs, pE, pEs, pAnd1, pAnd2, pOr1, pOr2, pV, pVs, pA, pAs, pLs, pI, pF, pOpt, pIfs, En.at, En.put, get_v, get_r, list_v, list_iL, list_pL, list_fL, list_r, sub_v, sub_r, getAll, ownFree, tgIn, tgsIn, bindT_n, bindT_t, bindTs_nil, bindTs_cons, putAll, PR.bind, PR.val, O.toD, startE, frzL, t_lies_in, items_iL, List.map_cons, List.map_nil, Option.bind_some, Option.map_some, List.getElem?_cons_zero, List.getElem?_cons_succ, List.set_cons_zero, List.set_cons_succ, List.replicate, List.nil_append, List.cons_append, id, Nat.reduceSub, Bool.false_eq_true, if_false, if_true, Option.isNone_none, Bool.and_true, Bool.true_and, List.contains_cons, BEq.rfl, Bool.true_or]
  rw [mfM_all (enc := iD) (g := fun s => D.bl (m.contains s))]
  · have h1 := all_map (fun s : Nat => m.contains s) l
    simp only [pSs, pS, pO, pOs, pE, pEs, pAnd1, pAnd2, pOr1, pOr2, pV, pVs, pA, pAs, pLs, pI, pF, pOpt, pIfs, En.at, En.put, get_v, get_r, list_v, list_iL, list_pL, list_fL, list_r, sub_v, sub_r, getAll, ownFree, tgIn, tgsIn, bindT_n, bindT_t, bindTs_nil, bindTs_cons, putAll, PR.bind, PR.val, O.toD, startE, frzL, h1, Option.bind_some, Option.map_some]
  · intro a ha
    simp only [pSs, pS, pO, pOs, pE, pEs, pAnd1, pAnd2, pOr1, pOr2, pV, pVs, pA, pAs, pLs, pI, pF, pOpt, pIfs, En.at, En.put, get_v, get_r, list_v, list_iL, list_pL, list_fL, list_r, sub_v, sub_r, getAll, ownFree, tgIn, tgsIn, bindT_n, bindT_t, bindTs_nil, bindTs_cons, putAll, PR.bind, PR.val, O.toD, startE, frzL, iD_def, in_iL, Option.bind_some, Option.map_some, if_true, List.getElem?_cons_zero, List.getElem?_cons_succ, List.set_cons_zero, List.set_cons_succ, id]
end TL

set_option maxRecDepth 100000
namespace TL
open PySem
/-! alike ones -/
variable {k : Nat}
theorem addL_map {vs : List D} {r : Nat → Nat → Bool} (hr : Eqv r) {i : Nat} {v : D} (hv : ∀ q, q < i → D.eq ((vs[q]?).getD .non) v = r q i) : ∀ {L : List Nat}, (∀ q ∈ L, q ∈ reps i r) → L.Pairwise (· < ·) →
    addL vs v i (L.map (cls i r)) = if L.any (fun q => r q i) then L.map (fun q => if r q i then cls i r q ++ [i] else cls i r q) else L.map (cls i r) ++ [[i]]
  | [], _, _ => rfl
  | a :: L, h, hp => by
    have ha := h a List.mem_cons_self
    obtain ⟨l, e⟩ := cls_head hr ha
    have hd : (cls i r a).headD 0 = a := by rw [e]; rfl
    rw [List.map_cons, addL, hd, hv a (mem_reps.mp ha).1]
    rw [List.pairwise_cons] at hp
    by_cases c : r a i = true
    · have hn : ∀ q ∈ L, r q i = false := by
        intro q hq
        have hq' := h q (List.mem_cons_of_mem _ hq)
        cases z : r q i with
        | false => rfl
        | true =>
          have := rep_uniq hr ha hq' (hr.trans c (hr.symm z))
          have := hp.1 q hq
          omega
      rw [if_pos c, List.any_cons, c, Bool.true_or, if_pos rfl, List.map_cons, if_pos c]
      congr 1
      apply List.map_congr_left
      intro q hq
      rw [hn q hq]
      simp
    · have c : r a i = false := by simpa using c
      rw [c, List.any_cons, c, Bool.false_or, List.map_cons, c, addL_map hr hv (fun q hq => h q (List.mem_cons_of_mem _ hq)) hp.2]
      simp only [Bool.false_eq_true, if_false]
      cases (L.any fun q => r q i) with
      | true => rfl
      | false => rfl
theorem addL_grp {vs : List D} {r : Nat → Nat → Bool} (hr : Eqv r) {i : Nat} {v : D} (hv : ∀ q, q < i → D.eq ((vs[q]?).getD .non) v = r q i) : addL vs v i (grp i r) = grp (i + 1) r := by
  unfold grp
  rw [addL_map hr hv (fun q hq => hq) reps_lt]
  by_cases c : ∃ t, t < i ∧ r t i = true
  · have := grp_old c
    unfold grp at this
    rw [this]
    obtain ⟨t, ht, h⟩ := c
    obtain ⟨q, hq, hqt⟩ := exists_rep hr ht
    have : (reps i r).any (fun q => r q i) = true := List.any_eq_true.mpr ⟨q, hq, hr.trans hqt h⟩
    rw [if_pos this]
  · have hn : ∀ t, t < i → r t i = false := by
      intro t ht
      cases z : r t i with
      | false => rfl
      | true => exact absurd ⟨t, ht, z⟩ c
    have := grp_new hr hn
    unfold grp at this
    rw [this]
    have : (reps i r).any (fun q => r q i) = false := by
      rw [List.any_eq_false]
      intro q hq
      rw [hn q (mem_reps.mp hq).1]
      simp
    rw [this]
    rfl
theorem groupsL_grp {vs : List D} {r : Nat → Nat → Bool} (hr : Eqv r) {n : Nat} (hn : vs.length = n) (hv : ∀ q i (hi : i < vs.length), q < i → D.eq ((vs[q]?).getD .non) vs[i] = r q i) : ∀ d m, m + d = n → groupsL vs (vs.drop m) m (grp m r) = grp n r
  | 0, m, h => by
    rw [List.drop_eq_nil_of_le (by omega), groupsL]
    congr 1
  | d + 1, m, h => by
    have hm : m < vs.length := by omega
    rw [List.drop_eq_getElem_cons hm, groupsL, addL_grp hr (fun q hq => hv q m hm hq)]
    exact groupsL_grp hr hn hv d (m + 1) (by omega)
theorem p_alike (hk : 1 ≤ k) {α : Type} [DecidableEq α] {enc : α → D} (he : ∀ a b, D.eq (enc a) (enc b) = decide (a = b)) (ho : ∀ a, D.ok 50 (enc a) = true) (u : Nat → α) (n : Nat) (hn : n < 4000000) : cd (CC k) 30 [.lst ((List.range n).map fun s => enc (u s))] = some (pL (grp n fun s t => decide (u s = u t))) := by
  obtain ⟨k, rfl⟩ : ∃ j, k = j + 1 := ⟨k - 1, by omega⟩
  have hok : D.oks 50 ((List.range n).map fun s => enc (u s)) = true := oks_map (fun s => ho (u s)) _
  have hg := groupsL_grp (vs := (List.range n).map fun s => enc (u s)) (Eqv.of u) (n := n) (by simp) (fun q i hi hq => by
    rw [List.length_map, List.length_range] at hi
    simp [List.getElem?_range, show q < n from by omega, he]) n 0 (by omega)
  rw [List.drop_zero, grp_zero] at hg
  have hle : decide (((List.range n).map fun s => enc (u s)).length < 4000000) = true := by simpa using hn
  have h1 : x_alike_in ([D.lst ((List.range n).map fun s => enc (u s))].map O.frz) = .ok (.lst ((grp n fun s t => decide (u s = u t)).map encG)) [none] := by
    simp only [List.map_cons, List.map_nil, x_alike_in, O.toD, hok, hle, Bool.and_self, if_true, hg]
  have h2 : CT (k + 1) 30 ([D.lst ((List.range n).map fun s => enc (u s))].map O.frz) = .ok (.lst ((grp n fun s t => decide (u s = u t)).map encG)) [none] := by
    rw [ct_eq k _ _ (d := t_alike_in) rfl, ← h1]
    rfl
  have h3 : (O.lst ((grp n fun s t => decide (u s = u t)).map encG)).toD = pL (grp n fun s t => decide (u s = u t)) := by
    unfold pL
    rw [O.toD]
    congr 1
    generalize (grp n fun s t => decide (u s = u t)) = P
    induction P with
    | nil => rfl
    | cons g P ih =>
      rw [List.map_cons, O.toDs, ih, List.map_cons]
      congr 1
      show D.lst (O.toDs (g.map fun (n : Nat) => O.frz (D.int (n : Int)))) = _
      rw [toDs_fun (fun (n : Nat) => D.int (n : Int)) g]
      rfl
  rw [cd_from h2 rfl, h3]
theorem pair_eq (a b c d : Nat) : D.eq (.tup [.int a, .int b]) (.tup [.int c, .int d]) = decide ((a, b) = (c, d)) := by
  rw [D.eq, D.eqs, D.eqs, D.eqs, int_eq, int_eq, Bool.eq_iff_iff]
  simp
  omega
def rAnd (r q : Nat → Nat → Bool) (s t : Nat) : Bool := r s t && q s t
theorem p_both_by (hk : 2 ≤ k) {n : Nat} {r q : Nat → Nat → Bool} (hr : Eqv r) (hq : Eqv q) (h1 : 1 ≤ n) (h2 : n ≤ 6) : cd (CC k) 34 [pL (grp n r), pL (grp n q)] = some (pL (grp n (rAnd r q))) := by
  obtain ⟨k, rfl⟩ : ∃ j, k = j + 1 := ⟨k - 1, by omega⟩
  refine cd_at t_both_by [some (.frz (pL (grp n r))), some (.frz (pL (grp n q))), none, none] rfl rfl rfl rfl rfl ?_
  refine cd_step (e' := [some (.frz (pL (grp n r))), some (.frz (pL (grp n q))), some (.frz (.int n)), none]) ?_ ?_
  · simp [pSs, pS, pO, pOs, pE, pEs, pAnd1, pAnd2, pOr1, pOr2, pV, pVs, pA, pAs, pLs, pI, pF, pOpt, pIfs, En.at, En.put, get_v, get_r, list_v, list_iL, list_pL, list_fL, list_r, sub_v, sub_r, getAll, ownFree, tgIn, tgsIn, bindT_n, bindT_t, bindTs_nil, bindTs_cons, putAll, PR.bind, PR.val, O.toD, startE, frzL, p_many (show 1 ≤ k by omega) (grp_ok hr h1 h2)]
  · have e : grp n (rAnd r q) = grp n fun s t => decide ((num (grp n r) s, num (grp n q) s) = (num (grp n r) t, num (grp n q) t)) := by
      refine grp_congr fun s t hs ht => ?_
      rw [Bool.eq_iff_iff, decide_eq_true_eq, Prod.mk.injEq, num_iff hr hs ht, num_iff hq hs ht]
      simp [rAnd]
    have ha := p_alike (k := k) (by omega) (enc := fun p : Nat × Nat => D.tup [.int p.1, .int p.2]) (fun a b => pair_eq a.1 a.2 b.1 b.2) (fun a => by simp [D.ok, D.oks]) (fun s => (num (grp n r) s, num (grp n q) s)) n (by omega)
    rw [← e] at ha
    unfold cd at ha
    simp only [Option.map_eq_some_iff] at ha
    obtain ⟨o, h3, h4⟩ := ha
    rw [← h4]
    refine cd_last (e' := [some (.frz (pL (grp n r))), some (.frz (pL (grp n q))), some (.frz (.int n)), none]) ?_
    simp [pSs, pS, pO, pOs, pE, pEs, pAnd1, pAnd2, pOr1, pOr2, pV, pVs, pA, pAs, pLs, pI, pF, pOpt, pIfs, En.at, En.put, get_v, get_r, list_v, list_iL, list_pL, list_fL, list_r, sub_v, sub_r, getAll, ownFree, tgIn, tgsIn, bindT_n, bindT_t, bindTs_nil, bindTs_cons, putAll, PR.bind, PR.val, O.toD, startE, frzL, rngA_nat (show n < 4000000 by omega)]
    rw [mfM_all (enc := iD) (g := fun s => D.tup [.int (num (grp n r) s), .int (num (grp n q) s)])]
    · simp [pSs, pS, pO, pOs, pE, pEs, pAnd1, pAnd2, pOr1, pOr2, pV, pVs, pA, pAs, pLs, pI, pF, pOpt, pIfs, En.at, En.put, get_v, get_r, list_v, list_iL, list_pL, list_fL, list_r, sub_v, sub_r, getAll, ownFree, tgIn, tgsIn, bindT_n, bindT_t, bindTs_nil, bindTs_cons, putAll, PR.bind, PR.val, O.toD, startE, frzL, h3]
    · intro s hs
      rw [List.mem_range] at hs
      simp [pSs, pS, pO, pOs, pE, pEs, pAnd1, pAnd2, pOr1, pOr2, pV, pVs, pA, pAs, pLs, pI, pF, pOpt, pIfs, En.at, En.put, get_v, get_r, list_v, list_iL, list_pL, list_fL, list_r, sub_v, sub_r, getAll, ownFree, tgIn, tgsIn, bindT_n, bindT_t, bindTs_nil, bindTs_cons, putAll, PR.bind, PR.val, O.toD, startE, frzL, iD_def, p_number_of (show 1 ≤ k by omega) (num_lt hr hs), p_number_of (show 1 ≤ k by omega) (num_lt hq hs)]
theorem p_both_parts (hk : 6 ≤ k) {n : Nat} {r q : Nat → Nat → Bool} (hr : Eqv r) (hq : Eqv q) (h1 : 1 ≤ n) (h2 : n ≤ 6) : cd (CC k) 35 [pL (grp n r), pL (grp n q)] = some (pL (grp n (rAnd r q))) := by
  obtain ⟨k, rfl⟩ : ∃ j, k = j + 1 := ⟨k - 1, by omega⟩
  refine cd_at t_both_parts [some (.frz (pL (grp n r))), some (.frz (pL (grp n q)))] rfl rfl rfl rfl rfl ?_
  refine cd_step (e' := [some (.frz (pL (grp n r))), some (.frz (pL (grp n q)))]) ?_ ?_
  · simp [pSs, pS, pO, pOs, pE, pEs, pAnd1, pAnd2, pOr1, pOr2, pV, pVs, pA, pAs, pLs, pI, pF, pOpt, pIfs, En.at, En.put, get_v, get_r, list_v, list_iL, list_pL, list_fL, list_r, sub_v, sub_r, getAll, ownFree, tgIn, tgsIn, bindT_n, bindT_t, bindTs_nil, bindTs_cons, putAll, PR.bind, PR.val, O.toD, startE, frzL, p_check_both (show 5 ≤ k by omega) (grp_ok hr h1 h2) (grp_ok hq h1 h2)]
  · have ha := p_both_by (k := k) (by omega) hr hq h1 h2
    unfold cd at ha
    simp only [Option.map_eq_some_iff] at ha
    obtain ⟨o, h3, h4⟩ := ha
    rw [← h4]
    refine cd_last (e' := [some (.frz (pL (grp n r))), some (.frz (pL (grp n q)))]) ?_
    simp [pSs, pS, pO, pOs, pE, pEs, pAnd1, pAnd2, pOr1, pOr2, pV, pVs, pA, pAs, pLs, pI, pF, pOpt, pIfs, En.at, En.put, get_v, get_r, list_v, list_iL, list_pL, list_fL, list_r, sub_v, sub_r, getAll, ownFree, tgIn, tgsIn, bindT_n, bindT_t, bindTs_nil, bindTs_cons, putAll, PR.bind, PR.val, O.toD, startE, frzL, h3]
/-- the rows of a sure look -/
def sureRows (n : Nat) (P : List (List Nat)) : List (List Rat) := (List.range n).map fun s => (List.range P.length).map fun j => if num P s = j then 1 else 0
theorem g_one : glD 3 = some (fr 1) := rfl
theorem g_none : glD 4 = some (fr 0) := rfl
theorem p_sure_look (hk : 5 ≤ k) {n : Nat} {r : Nat → Nat → Bool} (hr : Eqv r) (h1 : 1 ≤ n) (h2 : n ≤ 6) : cd (CC k) 32 [pL (grp n r)] = some (lkD (sureRows n (grp n r))) := by
  obtain ⟨k, rfl⟩ : ∃ j, k = j + 1 := ⟨k - 1, by omega⟩
  have hl := grp_len_le (n := n) (r := r)
  refine cdR t_sure_look [some (.frz (pL (grp n r))), none, none, none, none] rfl rfl rfl rfl rfl ?_
  refine Runs.step (p1 := [some (.frz (pL (grp n r))), none, none, none, none]) ?_ (Lf.rfl' _) ?_
  · simp [pSs, pS, pO, pOs, pE, pEs, pAnd1, pAnd2, pOr1, pOr2, pV, pVs, pA, pAs, pLs, pI, pF, pOpt, pIfs, En.at, En.put, get_v, get_r, list_v, list_iL, list_pL, list_fL, list_r, sub_v, sub_r, getAll, ownFree, tgIn, tgsIn, bindT_n, bindT_t, bindTs_nil, bindTs_cons, putAll, PR.bind, PR.val, O.toD, startE, frzL, p_check_parts (show 4 ≤ k by omega) (grp_ok hr h1 h2)]
  refine Runs.step (p1 := [some (.frz (pL (grp n r))), some (.lst (((List.range n).map fun s => D.int (num (grp n r) s)).map O.frz)), none, none, none]) ?_ (lf_frz [some (.frz (pL (grp n r)))] [none, none, none] _) ?_
  · simp [pSs, pS, pO, pOs, pE, pEs, pAnd1, pAnd2, pOr1, pOr2, pV, pVs, pA, pAs, pLs, pI, pF, pOpt, pIfs, En.at, En.put, get_v, get_r, list_v, list_iL, list_pL, list_fL, list_r, sub_v, sub_r, getAll, ownFree, tgIn, tgsIn, bindT_n, bindT_t, bindTs_nil, bindTs_cons, putAll, PR.bind, PR.val, O.toD, startE, frzL, p_many (show 1 ≤ k by omega) (grp_ok hr h1 h2), rngA_nat (show n < 4000000 by omega)]
    rw [mfM_all (enc := iD) (g := fun s => D.int (num (grp n r) s))]
    · simp [pSs, pS, pO, pOs, pE, pEs, pAnd1, pAnd2, pOr1, pOr2, pV, pVs, pA, pAs, pLs, pI, pF, pOpt, pIfs, En.at, En.put, get_v, get_r, list_v, list_iL, list_pL, list_fL, list_r, sub_v, sub_r, getAll, ownFree, tgIn, tgsIn, bindT_n, bindT_t, bindTs_nil, bindTs_cons, putAll, PR.bind, PR.val, O.toD, startE, frzL]
    · intro s hs
      rw [List.mem_range] at hs
      simp [pSs, pS, pO, pOs, pE, pEs, pAnd1, pAnd2, pOr1, pOr2, pV, pVs, pA, pAs, pLs, pI, pF, pOpt, pIfs, En.at, En.put, get_v, get_r, list_v, list_iL, list_pL, list_fL, list_r, sub_v, sub_r, getAll, ownFree, tgIn, tgsIn, bindT_n, bindT_t, bindTs_nil, bindTs_cons, putAll, PR.bind, PR.val, O.toD, startE, frzL, iD_def, p_number_of (show 1 ≤ k by omega) (num_lt hr hs)]
  · refine Runs.last (p1 := [some (.frz (pL (grp n r))), some (.frz (.lst ((List.range n).map fun s => D.int (num (grp n r) s)))), none, none, none]) (o := .frz (lkD (sureRows n (grp n r)))) ?_ rfl
    simp [pSs, pS, pO, pOs, pE, pEs, pAnd1, pAnd2, pOr1, pOr2, pV, pVs, pA, pAs, pLs, pI, pF, pOpt, pIfs, En.at, En.put, get_v, get_r, list_v, list_iL, list_pL, list_fL, list_r, sub_v, sub_r, getAll, ownFree, tgIn, tgsIn, bindT_n, bindT_t, bindTs_nil, bindTs_cons, putAll, PR.bind, PR.val, O.toD, startE, frzL]
    rw [mfM_all (enc := fun s => D.int (num (grp n r) s)) (g := fun s => fL ((List.range (grp n r).length).map fun j => if num (grp n r) s = j then 1 else 0))]
    · simp [pSs, pS, pO, pOs, pE, pEs, pAnd1, pAnd2, pOr1, pOr2, pV, pVs, pA, pAs, pLs, pI, pF, pOpt, pIfs, En.at, En.put, get_v, get_r, list_v, list_iL, list_pL, list_fL, list_r, sub_v, sub_r, getAll, ownFree, tgIn, tgsIn, bindT_n, bindT_t, bindTs_nil, bindTs_cons, putAll, PR.bind, PR.val, O.toD, startE, frzL, lkD, sureRows]
    · intro s hs
      simp [pSs, pS, pO, pOs, pE, pEs, pAnd1, pAnd2, pOr1, pOr2, pV, pVs, pA, pAs, pLs, pI, pF, pOpt, pIfs, En.at, En.put, get_v, get_r, list_v, list_iL, list_pL, list_fL, list_r, sub_v, sub_r, getAll, ownFree, tgIn, tgsIn, bindT_n, bindT_t, bindTs_nil, bindTs_cons, putAll, PR.bind, PR.val, O.toD, startE, frzL, rngA_nat (show (grp n r).length < 4000000 by omega)]
      rw [mfM_all (enc := iD) (g := fun j => fr (if num (grp n r) s = j then 1 else 0))]
      · simp [pSs, pS, pO, pOs, pE, pEs, pAnd1, pAnd2, pOr1, pOr2, pV, pVs, pA, pAs, pLs, pI, pF, pOpt, pIfs, En.at, En.put, get_v, get_r, list_v, list_iL, list_pL, list_fL, list_r, sub_v, sub_r, getAll, ownFree, tgIn, tgsIn, bindT_n, bindT_t, bindTs_nil, bindTs_cons, putAll, PR.bind, PR.val, O.toD, startE, frzL, fL]
      · intro j hj
        by_cases c : num (grp n r) s = j
        · simp [pSs, pS, pO, pOs, pE, pEs, pAnd1, pAnd2, pOr1, pOr2, pV, pVs, pA, pAs, pLs, pI, pF, pOpt, pIfs, En.at, En.put, get_v, get_r, list_v, list_iL, list_pL, list_fL, list_r, sub_v, sub_r, getAll, ownFree, tgIn, tgsIn, bindT_n, bindT_t, bindTs_nil, bindTs_cons, putAll, PR.bind, PR.val, O.toD, startE, frzL, iD_def, c, g_one, g_none]
        · have c' : ¬ ((j : Int) = (num (grp n r) s : Int)) := fun z => c (by omega)
          simp [pSs, pS, pO, pOs, pE, pEs, pAnd1, pAnd2, pOr1, pOr2, pV, pVs, pA, pAs, pLs, pI, pF, pOpt, pIfs, En.at, En.put, get_v, get_r, list_v, list_iL, list_pL, list_fL, list_r, sub_v, sub_r, getAll, ownFree, tgIn, tgsIn, bindT_n, bindT_t, bindTs_nil, bindTs_cons, putAll, PR.bind, PR.val, O.toD, startE, frzL, iD_def, c, c', g_one, g_none]
end TL

set_option maxRecDepth 100000
namespace TL
open PySem
/-! what is known, how likely -/
variable {k : Nat}
theorem Runs.whT {c : TE} {body ss : List TS} {p p1 p2 : En} {v : D} (hc : pE (CC k) c p = some (.bl true)) (hb : pSs (CC k) body p = some (.next p1)) (hf : Lf p2 p1) (h : Runs (CC k) (.while_ c body :: ss) p2 v) : Runs (CC k) (.while_ c body :: ss) p v := by
  intro e L
  obtain ⟨e1, a1, L1⟩ := pE_lf L hc
  obtain ⟨e2, a2, L2⟩ := pSs_lf L1 hb
  have h2 := h e2 (hf.trans L2)
  have : execs (CC k) (.while_ c body :: ss) e = execs (CC k) (.while_ c body :: ss) e2 := by
    show (loopU (evalE (CC k) c) (execs (CC k) body) e).bind _ = (loopU (evalE (CC k) c) (execs (CC k) body) e2).bind _
    rw [loopU_eq, a1]
    simp only [Res.st]
    rw [a2]
    rfl
  rw [this]
  exact h2
theorem Runs.whF {c : TE} {body ss : List TS} {p : En} {v : D} (hc : pE (CC k) c p = some (.bl false)) (h : Runs (CC k) ss p v) : Runs (CC k) (.while_ c body :: ss) p v := by
  intro e L
  obtain ⟨e1, a1, L1⟩ := pE_lf L hc
  have h2 := h e1 L1
  have : execs (CC k) (.while_ c body :: ss) e = execs (CC k) ss e1 := by
    show (loopU (evalE (CC k) c) (execs (CC k) body) e).bind _ = _
    rw [loopU_eq, a1]
    rfl
  rw [this]
  exact h2
/-- the standings of a property -/
def lotL (n : Nat) (S : Nat → Bool) : List Nat := (List.range n).filter S
theorem lotL_mem {n : Nat} {S : Nat → Bool} {s : Nat} : s ∈ lotL n S ↔ s < n ∧ S s = true := by
  unfold lotL; rw [List.mem_filter, List.mem_range]
theorem lotL_ok {n : Nat} (h : n ≤ 6) (S : Nat → Bool) : LOk n (lotL n S) where
  inc := List.pairwise_lt_range.filter _
  lt s hs := (lotL_mem.mp hs).1
  len := by
    have := List.length_filter_le S (List.range n)
    unfold lotL
    rw [List.length_range] at this
    omega
theorem known_perm {n : Nat} {r : Nat → Nat → Bool} (hr : Eqv r) {S : Nat → Bool} (hS : ∀ s t, s < n → t < n → r s t = true → S s = true → S t = true) : ((grp n r).filter fun l => l.all fun s => (lotL n S).contains s).flatten.Perm (lotL n S) := by
  have hnd : ((grp n r).filter fun l => l.all fun s => (lotL n S).contains s).flatten.Nodup := by
    have h := grp_flat_nodup (n := n) hr
    unfold List.Nodup at h ⊢
    rw [List.pairwise_flatten] at h ⊢
    exact ⟨fun l hl => h.1 l (List.mem_filter.mp hl).1, h.2.filter _⟩
  rw [List.perm_ext_iff_of_nodup hnd ((show (lotL n S).Pairwise (· < ·) from List.pairwise_lt_range.filter _).imp fun a => Nat.ne_of_lt a)]
  intro a
  rw [List.mem_flatten]
  constructor
  · rintro ⟨l, hl, ha⟩
    rw [List.mem_filter, List.all_eq_true] at hl
    exact List.contains_iff_mem.mp (hl.2 a ha)
  · intro ha
    obtain ⟨h1, h2⟩ := lotL_mem.mp ha
    obtain ⟨q, hq, hqa⟩ := exists_rep hr h1
    refine ⟨cls n r q, ?_, mem_cls.mpr ⟨h1, hqa⟩⟩
    rw [List.mem_filter, List.all_eq_true]
    refine ⟨mem_grp.mpr ⟨q, hq, rfl⟩, fun t ht => ?_⟩
    obtain ⟨h3, h4⟩ := mem_cls.mp ht
    rw [List.contains_iff_mem, lotL_mem]
    exact ⟨h3, hS a t h1 h3 (hr.trans (hr.symm hqa) h4) h2⟩
theorem p_known_by (hk : 2 ≤ k) {n : Nat} {r : Nat → Nat → Bool} (hr : Eqv r) (h2 : n ≤ 6) {S : Nat → Bool} (hS : ∀ s t, s < n → t < n → r s t = true → S s = true → S t = true) : cd (CC k) 36 [pL (grp n r), iL (lotL n S)] = some (iL (lotL n S)) := by
  obtain ⟨k, rfl⟩ : ∃ j, k = j + 1 := ⟨k - 1, by omega⟩
  refine cdR t_known_by [some (.frz (pL (grp n r))), some (.frz (iL (lotL n S))), none] rfl rfl rfl rfl rfl ?_
  refine Runs.last (p1 := [some (.frz (pL (grp n r))), some (.frz (iL (lotL n S))), none]) (o := .lst (((lotL n S).map iD).map .frz)) ?_ (by simp [O.toD, lst_iL])
  have hp := known_perm hr hS
  have hl := (lotL_ok h2 S).len
  have h3 : ((grp n r).filter fun l => l.all fun s => (lotL n S).contains s).flatten.length ≤ listLine := by
    rw [hp.length_eq]; unfold listLine; omega
  have h4 := sortD_perm ((lotL_ok h2 S).inc.imp fun a => Nat.le_of_lt a) hp
  simp only [pSs, pS, pO, pOs, pE, pEs, pAnd1, pAnd2, pOr1, pOr2, pV, pVs, pA, pAs, pLs, pI, pF, pOpt, pIfs, En.at, En.put, get_v, get_r, list_v, list_iL, list_pL, list_fL, list_r, sub_v, sub_r, getAll, ownFree, tgIn, tgsIn, bindT_n, bindT_t, bindTs_nil, bindTs_cons, putAll, PR.bind, PR.val, O.toD, startE, frzL, items_pL, List.map_cons, List.map_nil, Option.bind_some, Option.map_some, List.getElem?_cons_zero, List.getElem?_cons_succ, List.set_cons_zero, List.set_cons_succ, id, Option.isNone_none, Bool.and_true, Bool.true_and, List.contains_cons, BEq.rfl, Bool.true_or, if_true, Bool.and_self]
  rw [mfM_enc (enc := iL) (p := fun l => l.all fun s => (lotL n S).contains s) (g := iL)]
  · simp only [pSs, pS, pO, pOs, pE, pEs, pAnd1, pAnd2, pOr1, pOr2, pV, pVs, pA, pAs, pLs, pI, pF, pOpt, pIfs, En.at, En.put, get_v, get_r, list_v, list_iL, list_pL, list_fL, list_r, sub_v, sub_r, getAll, ownFree, tgIn, tgsIn, bindT_n, bindT_t, bindTs_nil, bindTs_cons, putAll, PR.bind, PR.val, O.toD, startE, frzL, Option.bind_some, Option.map_some, sumL_iL]
    rw [List.length_map, if_pos h3]
    simp only [pSs, pS, pO, pOs, pE, pEs, pAnd1, pAnd2, pOr1, pOr2, pV, pVs, pA, pAs, pLs, pI, pF, pOpt, pIfs, En.at, En.put, get_v, get_r, list_v, list_iL, list_pL, list_fL, list_r, sub_v, sub_r, getAll, ownFree, tgIn, tgsIn, bindT_n, bindT_t, bindTs_nil, bindTs_cons, putAll, PR.bind, PR.val, O.toD, startE, frzL, Option.bind_some, Option.map_some, h4]
  · intro l hl
    simp only [pSs, pS, pO, pOs, pE, pEs, pAnd1, pAnd2, pOr1, pOr2, pV, pVs, pA, pAs, pLs, pI, pF, pOpt, pIfs, En.at, En.put, get_v, get_r, list_v, list_iL, list_pL, list_fL, list_r, sub_v, sub_r, getAll, ownFree, tgIn, tgsIn, bindT_n, bindT_t, bindTs_nil, bindTs_cons, putAll, PR.bind, PR.val, O.toD, startE, frzL, p_lies_in (show 1 ≤ k by omega), List.getElem?_cons_zero, List.getElem?_cons_succ, List.set_cons_zero, List.set_cons_succ, id, Option.bind_some, Option.map_some]
    split <;> rfl
theorem p_both_know (hk : 3 ≤ k) {n : Nat} {r q : Nat → Nat → Bool} (hr : Eqv r) (hq : Eqv q) (h2 : n ≤ 6) {S : Nat → Bool} (hS : ∀ s t, s < n → t < n → r s t = true → S s = true → S t = true) (hT : ∀ s t, s < n → t < n → q s t = true → S s = true → S t = true) : cd (CC k) 37 [pL (grp n r), pL (grp n q), iL (lotL n S)] = some (iL (lotL n S)) := by
  obtain ⟨k, rfl⟩ : ∃ j, k = j + 1 := ⟨k - 1, by omega⟩
  refine cdR t_both_know [some (.frz (pL (grp n r))), some (.frz (pL (grp n q))), some (.frz (iL (lotL n S))), none, none] rfl rfl rfl rfl rfl ?_
  refine Runs.step (p1 := [some (.frz (pL (grp n r))), some (.frz (pL (grp n q))), some (.frz (iL (lotL n S))), some (.frz (iL (lotL n S))), none]) ?_ (Lf.rfl' _) ?_
  · simp [pSs, pS, pO, pOs, pE, pEs, pAnd1, pAnd2, pOr1, pOr2, pV, pVs, pA, pAs, pLs, pI, pF, pOpt, pIfs, En.at, En.put, get_v, get_r, list_v, list_iL, list_pL, list_fL, list_r, sub_v, sub_r, getAll, ownFree, tgIn, tgsIn, bindT_n, bindT_t, bindTs_nil, bindTs_cons, putAll, PR.bind, PR.val, O.toD, startE, frzL, p_known_by (show 2 ≤ k by omega) hq h2 hT]
  refine Runs.last (p1 := [some (.frz (pL (grp n r))), some (.frz (pL (grp n q))), some (.frz (iL (lotL n S))), some (.frz (iL (lotL n S))), none]) (o := .lst (((lotL n S).map iD).map .frz)) ?_ (by simp [O.toD, lst_iL])
  simp [pSs, pS, pO, pOs, pE, pEs, pAnd1, pAnd2, pOr1, pOr2, pV, pVs, pA, pAs, pLs, pI, pF, pOpt, pIfs, En.at, En.put, get_v, get_r, list_v, list_iL, list_pL, list_fL, list_r, sub_v, sub_r, getAll, ownFree, tgIn, tgsIn, bindT_n, bindT_t, bindTs_nil, bindTs_cons, putAll, PR.bind, PR.val, O.toD, startE, frzL, p_known_by (show 2 ≤ k by omega) hr h2 hS]
  rw [mfM_enc (enc := iD) (p := fun s => (lotL n S).contains s) (g := iD)]
  · have : (lotL n S).filter (fun s => (lotL n S).contains s) = lotL n S := by
      rw [List.filter_eq_self]
      intro a ha
      simpa using ha
    rw [this]
    simp
  · intro s hs
    simp [pSs, pS, pO, pOs, pE, pEs, pAnd1, pAnd2, pOr1, pOr2, pV, pVs, pA, pAs, pLs, pI, pF, pOpt, pIfs, En.at, En.put, get_v, get_r, list_v, list_iL, list_pL, list_fL, list_r, sub_v, sub_r, getAll, ownFree, tgIn, tgsIn, bindT_n, bindT_t, bindTs_nil, bindTs_cons, putAll, PR.bind, PR.val, O.toD, startE, frzL, iD_def, hs]
theorem modAt_nil {α : Type} (f : O → Option (O × α)) (k : Nat) (e : En) : En.modAt f k [] e = (e.at k).bind fun o => (f o).map fun r => (e.put k r.1, r.2) := by
  unfold En.modAt
  congr 1
theorem p_known_along (hk : 4 ≤ k) {n : Nat} {r q : Nat → Nat → Bool} (hr : Eqv r) (hq : Eqv q) (h2 : n ≤ 6) {S : Nat → Bool} (hS : ∀ s t, s < n → t < n → r s t = true → S s = true → S t = true) (hT : ∀ s t, s < n → t < n → q s t = true → S s = true → S t = true) : cd (CC k) 38 [pL (grp n r), pL (grp n q), iL (lotL n S)] = some (.lst [iL (lotL n S)]) := by
  obtain ⟨k, rfl⟩ : ∃ j, k = j + 1 := ⟨k - 1, by omega⟩
  have hb := p_both_know (k := k) (by omega) hr hq h2 hS hT
  generalize pL (grp n r) = P at hb ⊢
  generalize pL (grp n q) = Q at hb ⊢
  generalize lotL n S = l at hb ⊢
  refine cdR t_known_along [some (.frz P), some (.frz Q), some (.frz (iL l)), none, none] rfl rfl rfl rfl rfl ?_
  refine Runs.step (p1 := [some (.frz P), some (.frz Q), some (.frz (iL l)), some (.lst []), some (.frz (iL l))]) ?_ (Lf.rfl' _) ?_
  · simp [pSs, pS, pO, pOs, pE, pEs, pAnd1, pAnd2, pOr1, pOr2, pV, pVs, pA, pAs, pLs, pI, pF, pOpt, pIfs, En.at, En.put, get_v, get_r, list_v, list_iL, list_pL, list_fL, list_r, sub_v, sub_r, getAll, ownFree, tgIn, tgsIn, bindT_n, bindT_t, bindTs_nil, bindTs_cons, putAll, PR.bind, PR.val, O.toD, startE, frzL, hb]
  refine Runs.whT (p1 := [some (.frz P), some (.frz Q), some (.frz (iL l)), some (.lst [.frz (iL l)]), some (.frz (iL l))]) ?_ ?_ (Lf.rfl' _) ?_
  · simp [pSs, pS, pO, pOs, pE, pEs, pAnd1, pAnd2, pOr1, pOr2, pV, pVs, pA, pAs, pLs, pI, pF, pOpt, pIfs, En.at, En.put, get_v, get_r, list_v, list_iL, list_pL, list_fL, list_r, sub_v, sub_r, getAll, ownFree, tgIn, tgsIn, bindT_n, bindT_t, bindTs_nil, bindTs_cons, putAll, PR.bind, PR.val, O.toD, startE, frzL, O.toDs, opC, D.ok, D.oks, D.eq, D.eqs]
  · simp [pSs, pS, pO, pOs, pE, pEs, pAnd1, pAnd2, pOr1, pOr2, pV, pVs, pA, pAs, pLs, pI, pF, pOpt, pIfs, En.at, En.put, get_v, get_r, list_v, list_iL, list_pL, list_fL, list_r, sub_v, sub_r, getAll, ownFree, tgIn, tgsIn, bindT_n, bindT_t, bindTs_nil, bindTs_cons, putAll, PR.bind, PR.val, O.toD, startE, frzL, isLstAt, modAt_nil, appO, listLine, hb]
  refine Runs.whF ?_ ?_
  · have h3 : ixAt 1 (-1) = some 0 := by decide
    simp [pSs, pS, pO, pOs, pE, pEs, pAnd1, pAnd2, pOr1, pOr2, pV, pVs, pA, pAs, pLs, pI, pF, pOpt, pIfs, En.at, En.put, get_v, get_r, list_v, list_iL, list_pL, list_fL, list_r, sub_v, sub_r, getAll, ownFree, tgIn, tgsIn, bindT_n, bindT_t, bindTs_nil, bindTs_cons, putAll, PR.bind, PR.val, O.toD, startE, frzL, O.toDs, opC, D.ok, D.oks, D.eq, D.eqs, subO, h3]
  refine Runs.last (o := .lst [.frz (iL l)]) (p1 := [some (.frz P), some (.frz Q), some (.frz (iL l)), none, some (.frz (iL l))]) ?_ rfl
  simp [pSs, pS, pO, pOs, pE, pEs, pAnd1, pAnd2, pOr1, pOr2, pV, pVs, pA, pAs, pLs, pI, pF, pOpt, pIfs, En.at, En.put, get_v, get_r, list_v, list_iL, list_pL, list_fL, list_r, sub_v, sub_r, getAll, ownFree, tgIn, tgsIn, bindT_n, bindT_t, bindTs_nil, bindTs_cons, putAll, PR.bind, PR.val, O.toD, startE, frzL]
theorem p_known_by_all (hk : 6 ≤ k) {n : Nat} {r q : Nat → Nat → Bool} (hr : Eqv r) (hq : Eqv q) (h1 : 1 ≤ n) (h2 : n ≤ 6) {S : Nat → Bool} (hS : ∀ s t, s < n → t < n → r s t = true → S s = true → S t = true) (hT : ∀ s t, s < n → t < n → q s t = true → S s = true → S t = true) : cd (CC k) 39 [pL (grp n r), pL (grp n q), iL (lotL n S)] = some (iL (lotL n S)) := by
  obtain ⟨k, rfl⟩ : ∃ j, k = j + 1 := ⟨k - 1, by omega⟩
  refine cd_of t_known_by_all rfl rfl rfl rfl ?_
  have h3 : ixAt 1 (-1) = some 0 := by decide
  simp [pSs, pS, pO, pOs, pE, pEs, pAnd1, pAnd2, pOr1, pOr2, pV, pVs, pA, pAs, pLs, pI, pF, pOpt, pIfs, En.at, En.put, get_v, get_r, list_v, list_iL, list_pL, list_fL, list_r, sub_v, sub_r, getAll, ownFree, tgIn, tgsIn, bindT_n, bindT_t, bindTs_nil, bindTs_cons, putAll, PR.bind, PR.val, O.toD, startE, frzL, t_known_by_all, p_check_both (show 5 ≤ k by omega) (grp_ok hr h1 h2) (grp_ok hq h1 h2), p_check_lot (show 3 ≤ k by omega) (grp_ok hr h1 h2) (lotL_ok h2 S), p_known_along (show 4 ≤ k by omega) hr hq h2 hS hT, subD, h3]
/-- a belief above 0 -/
structure FulOk (A n : Nat) (b : Nat → Rat) : Prop where
  sz : ∀ s, s < n → Sz A (b s)
  pos : ∀ s, s < n → 0 < b s
  one : sumN b n = 1
  small : A < 60
  n1 : 1 ≤ n
  n2 : n ≤ 6
def rgL (n : Nat) (b : Nat → Rat) : List Rat := (List.range n).map b
theorem rgL_len (n : Nat) (b : Nat → Rat) : (rgL n b).length = n := by simp [rgL]
theorem rgL_mem {n : Nat} {b : Nat → Rat} {q : Rat} (h : q ∈ rgL n b) : ∃ s, s < n ∧ b s = q := by
  obtain ⟨s, h1, h2⟩ := List.mem_map.mp h
  exact ⟨s, List.mem_range.mp h1, h2⟩
theorem FulOk.bel {A n : Nat} {b : Nat → Rat} (h : FulOk A n b) : BelOk A (rgL n b) where
  sz q hq := by obtain ⟨s, h1, rfl⟩ := rgL_mem hq; exact h.sz s h1
  pos q hq := by obtain ⟨s, h1, rfl⟩ := rgL_mem hq; exact Rat.le_of_lt (h.pos s h1)
  one := by unfold rgL; rw [sumQ_range, h.one]
  small := by have := h.small; omega
  le := by rw [rgL_len]; exact h.n2
theorem p_check_told (hk : 6 ≤ k) {A n : Nat} {r q : Nat → Nat → Bool} (hr : Eqv r) (hq : Eqv q) {b : Nat → Rat} (hb : FulOk A n b) (S : Nat → Bool) : cd (CC k) 40 [pL (grp n r), pL (grp n q), fL (rgL n b), iL (lotL n S)] = some .non := by
  obtain ⟨k, rfl⟩ : ∃ j, k = j + 1 := ⟨k - 1, by omega⟩
  refine cd_of t_check_told rfl rfl rfl rfl ?_
  have hl := hb.small
  have hn := hb.n2
  have hm : (rgL n b).length * (A + 2) ≤ 6 * (A + 2) := Nat.mul_le_mul_right _ hb.bel.le
  have hc := p_are_chances (k := k) (show 5 ≤ k by omega) hb.bel.sz (by omega) hb.bel.pos hb.bel.one (rgL_len n b)
  have h0 : ¬ (0 : Rat) ∈ rgL n b := by
    intro z
    obtain ⟨s, h1, h2⟩ := rgL_mem z
    have := hb.pos s h1
    rw [h2] at this
    exact absurd this (by decide)
  simp [pSs, pS, pO, pOs, pE, pEs, pAnd1, pAnd2, pOr1, pOr2, pV, pVs, pA, pAs, pLs, pI, pF, pOpt, pIfs, En.at, En.put, get_v, get_r, list_v, list_iL, list_pL, list_fL, list_r, sub_v, sub_r, getAll, ownFree, tgIn, tgsIn, bindT_n, bindT_t, bindTs_nil, bindTs_cons, putAll, PR.bind, PR.val, O.toD, startE, frzL, t_check_told, p_check_both (show 5 ≤ k by omega) (grp_ok hr hb.n1 hn) (grp_ok hq hb.n1 hn), p_check_lot (show 3 ≤ k by omega) (grp_ok hr hb.n1 hn) (lotL_ok hn S), p_many (show 1 ≤ k by omega) (grp_ok hr hb.n1 hn), hc, g_none, h0]
end TL

set_option maxRecDepth 100000
namespace TL
open PySem
/-! how likely a lot is -/
variable {k : Nat}
def wh (n : Nat) (r : Nat → Nat → Bool) (b : Nat → Rat) (s : Nat) : Rat := sumN (fun t => if r s t then b t else 0) n
def so (n : Nat) (r : Nat → Nat → Bool) (b : Nat → Rat) (S : Nat → Bool) (s : Nat) : Rat := sumN (fun t => if (S t && r s t) then b t else 0) n
def ch (n : Nat) (r : Nat → Nat → Bool) (b : Nat → Rat) (S : Nat → Bool) (s : Nat) : Rat := so n r b S s / wh n r b s
theorem ch_same {n : Nat} {r : Nat → Nat → Bool} (hr : Eqv r) (b : Nat → Rat) (S : Nat → Bool) {q s : Nat} (h : r q s = true) : ch n r b S q = ch n r b S s := by
  have e : r q = r s := funext fun t => hr.left h t
  unfold ch so wh
  rw [e]
theorem sz_sumN {A : Nat} {f : Nat → Rat} : ∀ {m : Nat}, (∀ s, s < m → Sz A (f s)) → Sz (m * (A + 2)) (sumN f m)
  | 0, _ => Sz.zero.mono (Nat.zero_le _)
  | m + 1, h => by
    rw [sumN, Nat.succ_mul]
    exact (Sz.add (sz_sumN fun s hs => h s (by omega)) (h m (by omega))).mono (by omega)
theorem sz_if {A : Nat} {x : Rat} (h : Sz A x) (c : Bool) : Sz A (if c then x else 0) := by
  cases c with
  | true => simpa using h
  | false => simpa using Sz.zero.mono (Nat.zero_le A)
theorem wh_pos {n A : Nat} {r : Nat → Nat → Bool} (hr : Eqv r) {b : Nat → Rat} (h : FulOk A n b) {s : Nat} (hs : s < n) : 0 < wh n r b s := by
  unfold wh
  refine sumN_pos (fun t ht => ?_) ⟨s, hs, ?_⟩
  · have := Rat.le_of_lt (h.pos t ht)
    split
    · exact this
    · exact Rat.le_refl
  · rw [hr.refl s]; exact h.pos s hs
theorem sz_wh {n A : Nat} {r : Nat → Nat → Bool} {b : Nat → Rat} (h : FulOk A n b) (s : Nat) : Sz 400 (wh n r b s) := by
  have := sz_sumN (A := A) (f := fun t => if r s t then b t else 0) (m := n) fun t ht => sz_if (h.sz t ht) _
  have h1 := h.small
  have h2 : n * (A + 2) ≤ 6 * (A + 2) := Nat.mul_le_mul_right _ h.n2
  exact this.mono (by omega)
theorem sz_so {n A : Nat} {r : Nat → Nat → Bool} {b : Nat → Rat} (h : FulOk A n b) (S : Nat → Bool) (s : Nat) : Sz 400 (so n r b S s) := by
  have := sz_sumN (A := A) (f := fun t => if (S t && r s t) then b t else 0) (m := n) fun t ht => sz_if (h.sz t ht) _
  have h1 := h.small
  have h2 : n * (A + 2) ≤ 6 * (A + 2) := Nat.mul_le_mul_right _ h.n2
  exact this.mono (by omega)
theorem set_range {n s : Nat} (f : Nat → Rat) (x : Rat) : (((List.range n).map fun t => fr (f t)).map O.frz).set s (.frz (fr x)) = ((List.range n).map fun t => fr (if t = s then x else f t)).map O.frz := by
  apply List.ext_getElem?
  intro j
  rw [List.getElem?_set]
  simp only [List.getElem?_map, List.length_map, List.length_range]
  by_cases h : s = j
  · subst h
    by_cases c : s < n
    · simp [c]
    · simp [c]
  · have h' : ¬ j = s := fun z => h z.symm
    by_cases c : j < n
    · simp [h, c, h']
    · simp [h, c]
theorem repC_one (d : D) {n : Nat} (h : n ≤ 6) : repC [d] (n : Int) = some ((List.range n).map fun _ => d) := by
  rw [repC_eq]; unfold rep0
  rw [smallI_nat (by omega)]
  have : (List.replicate n [d]).flatten = (List.range n).map fun _ => d := by
    clear h
    induction n with
    | zero => rfl
    | succ n ih => rw [List.replicate_succ', List.flatten_append, ih, List.range_succ, List.map_append]; rfl
  simp [this, listLine]
  omega
def lenv (n : Nat) (P B Lt : D) (φ : Nat → Rat) (o4 o5 o6 o7 : Option O) : En := [some (.frz P), some (.frz B), some (.frz Lt), some (.lst (((List.range n).map fun s => fr (φ s)).map .frz)), o4, o5, o6, o7]
theorem likely_in (hk : 3 ≤ k) {n : Nat} (hn : n ≤ 6) (P B Lt : D) {w s : Rat} {A : Nat} (hw : Sz A w) (hs : Sz A s) (hA : A ≤ 400) (h0 : w ≠ 0) (o4 : Option O) : ∀ (l : List Nat), (∀ t ∈ l, t < n) → ∀ (φ : Nat → Rat) (o7 : Option O), ∃ o7', loopP (fun d e => (bindT (.n 7) d e).bind fun e => pSs (CC k) [.store 3 [] (.var 7) (.e (.call 7 [.d (.var 6), .d (.var 5)] []))] e) (l.map iD) (lenv n P B Lt φ o4 (some (.frz (fr w))) (some (.frz (fr s))) o7) = some (.next (lenv n P B Lt (fun t => if t ∈ l then s / w else φ t) o4 (some (.frz (fr w))) (some (.frz (fr s))) o7')) := by
  intro l
  induction l with
  | nil => intro _ φ o7; exact ⟨o7, by simp [loopP]⟩
  | cons a l ih =>
    intro h φ o7
    have ha := h a List.mem_cons_self
    obtain ⟨o', h'⟩ := ih (fun t ht => h t (List.mem_cons_of_mem _ ht)) (fun t => if t = a then s / w else φ t) (some (.frz (iD a)))
    refine ⟨o', ?_⟩
    have e : (fun t => if t ∈ l then s / w else if t = a then s / w else φ t) = fun t => if t ∈ a :: l then s / w else φ t := by
      funext t
      by_cases c : t ∈ l
      · simp [c]
      · by_cases d : t = a
        · simp [d]
        · simp [c, d]
    rw [e] at h'
    rw [List.map_cons, loopP, ← h']
    have ho := p_over (k := k) hk hs hw (by omega) h0
    have hi : ixAt n (a : Int) = some a := ixAt_nat ha
    have hset := set_range (n := n) (s := a) φ (s / w)
    simp only [List.map_map] at hset
    simp [pSs, pS, pO, pOs, pE, pEs, pAnd1, pAnd2, pOr1, pOr2, pV, pVs, pA, pAs, pLs, pI, pF, pOpt, pIfs, En.at, En.put, get_v, get_r, list_v, list_iL, list_pL, list_fL, list_r, sub_v, sub_r, getAll, ownFree, tgIn, tgsIn, bindT_n, bindT_t, bindTs_nil, bindTs_cons, putAll, PR.bind, PR.val, O.toD, startE, frzL, lenv, isLstAt, ho, modAt_nil, setO, iD_def, hi, hset]
theorem pSs_step {C : Cfg} {s : TS} {ss : List TS} {e e' : En} (h : pS C s e = some (.next e')) : pSs C (s :: ss) e = pSs C ss e' := by
  rw [pSs, h]; rfl
theorem sub_rg {n : Nat} (b : Nat → Rat) {t : Nat} (ht : t < n) : subD (fL (rgL n b)) (.int (t : Int)) = some (fr (b t)) := by
  have := sub_fL (l := rgL n b) (i := t) (by rw [rgL_len]; exact ht)
  rw [iD_def] at this
  rw [this]
  simp [rgL]
theorem likely_one (hk : 4 ≤ k) {A n : Nat} {r : Nat → Nat → Bool} (hr : Eqv r) {b : Nat → Rat} (hb : FulOk A n b) (S : Nat → Bool) (P : D) {q : Nat} (hq : q < n) (φ : Nat → Rat) (o5 o6 o7 : Option O) : ∃ o7', pSs (CC k) [.asg 5 (.e (.call 9 [.d (.f (.comp (.sub (.e (.var 1)) (.var 7)) (.n 7) (.seq (.var 4)) [] [7]))] [])), .asg 6 (.e (.call 9 [.d (.f (.comp (.sub (.e (.var 1)) (.var 7)) (.n 7) (.seq (.var 4)) [.cmp .in_ (.e (.var 7)) (.e (.var 2))] [7]))] [])), .for_ (.n 7) (.seq (.var 4)) [.store 3 [] (.var 7) (.e (.call 7 [.d (.var 6), .d (.var 5)] []))]] (lenv n P (fL (rgL n b)) (iL (lotL n S)) φ (some (.frz (iL (cls n r q)))) o5 o6 none) = some (.next (lenv n P (fL (rgL n b)) (iL (lotL n S)) (fun t => if t ∈ cls n r q then ch n r b S q else φ t) (some (.frz (iL (cls n r q)))) (some (.frz (fr (wh n r b q)))) (some (.frz (fr (so n r b S q)))) o7')) := by
  have hn := hb.n2
  have h7 : ∀ t ∈ cls n r q, t < n := fun t ht => (mem_cls.mp ht).1
  have hlen : (cls n r q).length ≤ 6 := by
    have := List.length_filter_le (r q) (List.range n)
    unfold cls
    rw [List.length_range] at this
    omega
  have hA := hb.small
  have e1 : sumQ ((cls n r q).map b) = wh n r b q := by unfold cls wh; rw [sumQ_filter]
  have e2 : sumQ (((cls n r q).filter fun t => (lotL n S).contains t).map b) = so n r b S q := by
    unfold cls so
    rw [List.filter_filter, sumQ_filter]
    refine sumN_congr fun t ht => ?_
    have : (lotL n S).contains t = S t := by
      rw [Bool.eq_iff_iff, List.contains_iff_mem, lotL_mem]
      simp [ht]
    rw [this]
  have s1 := p_summed (k := k) hk (l := (cls n r q).map b) (A := A) (fun x hx => by
    obtain ⟨t, h1, h2⟩ := List.mem_map.mp hx
    rw [← h2]; exact hb.sz t (h7 t h1)) (by
    rw [List.length_map]
    have : (cls n r q).length * (A + 2) ≤ 6 * (A + 2) := Nat.mul_le_mul_right _ hlen
    omega)
  have s2 := p_summed (k := k) hk (l := ((cls n r q).filter fun t => (lotL n S).contains t).map b) (A := A) (fun x hx => by
    obtain ⟨t, h1, h2⟩ := List.mem_map.mp hx
    rw [← h2]; exact hb.sz t (h7 t (List.mem_filter.mp h1).1)) (by
    rw [List.length_map]
    have h3 := List.length_filter_le (fun t => (lotL n S).contains t) (cls n r q)
    have : ((cls n r q).filter fun t => (lotL n S).contains t).length * (A + 2) ≤ 6 * (A + 2) := Nat.mul_le_mul_right _ (by omega)
    omega)
  rw [e1] at s1
  rw [e2] at s2
  have hw := wh_pos hr hb hq
  have h0 : wh n r b q ≠ 0 := fun z => by rw [z] at hw; exact absurd hw (by decide)
  obtain ⟨o7', h'⟩ := likely_in (k := k) (by omega) hn P (fL (rgL n b)) (iL (lotL n S)) (sz_wh (r := r) hb q) (sz_so (r := r) hb S q) (Nat.le_refl _) h0 (some (.frz (iL (cls n r q)))) (cls n r q) h7 φ none
  refine ⟨o7', ?_⟩
  refine (pSs_step (e' := lenv n P (fL (rgL n b)) (iL (lotL n S)) φ (some (.frz (iL (cls n r q)))) (some (.frz (fr (wh n r b q)))) o6 none) ?_).trans ?_
  · simp [pSs, pS, pO, pOs, pE, pEs, pAnd1, pAnd2, pOr1, pOr2, pV, pVs, pA, pAs, pLs, pI, pF, pOpt, pIfs, En.at, En.put, get_v, get_r, list_v, list_iL, list_pL, list_fL, list_r, sub_v, sub_r, getAll, ownFree, tgIn, tgsIn, bindT_n, bindT_t, bindTs_nil, bindTs_cons, putAll, PR.bind, PR.val, O.toD, startE, frzL, lenv]
    rw [mfM_all (enc := iD) (g := fun t => fr (b t))]
    · have : D.lst ((cls n r q).map fun t => fr (b t)) = fL ((cls n r q).map b) := by unfold fL; rw [List.map_map]; rfl
      simp [pSs, pS, pO, pOs, pE, pEs, pAnd1, pAnd2, pOr1, pOr2, pV, pVs, pA, pAs, pLs, pI, pF, pOpt, pIfs, En.at, En.put, get_v, get_r, list_v, list_iL, list_pL, list_fL, list_r, sub_v, sub_r, getAll, ownFree, tgIn, tgsIn, bindT_n, bindT_t, bindTs_nil, bindTs_cons, putAll, PR.bind, PR.val, O.toD, startE, frzL, this, s1]
    · intro t ht
      simp [pSs, pS, pO, pOs, pE, pEs, pAnd1, pAnd2, pOr1, pOr2, pV, pVs, pA, pAs, pLs, pI, pF, pOpt, pIfs, En.at, En.put, get_v, get_r, list_v, list_iL, list_pL, list_fL, list_r, sub_v, sub_r, getAll, ownFree, tgIn, tgsIn, bindT_n, bindT_t, bindTs_nil, bindTs_cons, putAll, PR.bind, PR.val, O.toD, startE, frzL, iD_def, sub_rg b (h7 t ht)]
  refine (pSs_step (e' := lenv n P (fL (rgL n b)) (iL (lotL n S)) φ (some (.frz (iL (cls n r q)))) (some (.frz (fr (wh n r b q)))) (some (.frz (fr (so n r b S q)))) none) ?_).trans ?_
  · simp [pSs, pS, pO, pOs, pE, pEs, pAnd1, pAnd2, pOr1, pOr2, pV, pVs, pA, pAs, pLs, pI, pF, pOpt, pIfs, En.at, En.put, get_v, get_r, list_v, list_iL, list_pL, list_fL, list_r, sub_v, sub_r, getAll, ownFree, tgIn, tgsIn, bindT_n, bindT_t, bindTs_nil, bindTs_cons, putAll, PR.bind, PR.val, O.toD, startE, frzL, lenv]
    rw [mfM_enc (enc := iD) (p := fun t => (lotL n S).contains t) (g := fun t => fr (b t))]
    · have : D.lst (((cls n r q).filter fun t => (lotL n S).contains t).map fun t => fr (b t)) = fL (((cls n r q).filter fun t => (lotL n S).contains t).map b) := by unfold fL; rw [List.map_map]; rfl
      rw [Option.map_some, this]
      simp [-List.contains_eq_mem, pSs, pS, pO, pOs, pE, pEs, pAnd1, pAnd2, pOr1, pOr2, pV, pVs, pA, pAs, pLs, pI, pF, pOpt, pIfs, En.at, En.put, get_v, get_r, list_v, list_iL, list_pL, list_fL, list_r, sub_v, sub_r, getAll, ownFree, tgIn, tgsIn, bindT_n, bindT_t, bindTs_nil, bindTs_cons, putAll, PR.bind, PR.val, O.toD, startE, frzL, s2]
    · intro t ht
      by_cases c : t ∈ lotL n S
      · simp [pSs, pS, pO, pOs, pE, pEs, pAnd1, pAnd2, pOr1, pOr2, pV, pVs, pA, pAs, pLs, pI, pF, pOpt, pIfs, En.at, En.put, get_v, get_r, list_v, list_iL, list_pL, list_fL, list_r, sub_v, sub_r, getAll, ownFree, tgIn, tgsIn, bindT_n, bindT_t, bindTs_nil, bindTs_cons, putAll, PR.bind, PR.val, O.toD, startE, frzL, iD_def, sub_rg b (h7 t ht), c]
      · simp [pSs, pS, pO, pOs, pE, pEs, pAnd1, pAnd2, pOr1, pOr2, pV, pVs, pA, pAs, pLs, pI, pF, pOpt, pIfs, En.at, En.put, get_v, get_r, list_v, list_iL, list_pL, list_fL, list_r, sub_v, sub_r, getAll, ownFree, tgIn, tgsIn, bindT_n, bindT_t, bindTs_nil, bindTs_cons, putAll, PR.bind, PR.val, O.toD, startE, frzL, iD_def, sub_rg b (h7 t ht), c]
  refine (pSs_step (e' := lenv n P (fL (rgL n b)) (iL (lotL n S)) (fun t => if t ∈ cls n r q then ch n r b S q else φ t) (some (.frz (iL (cls n r q)))) (some (.frz (fr (wh n r b q)))) (some (.frz (fr (so n r b S q)))) o7') ?_).trans ?_
  · rw [pS]
    have hi : pI (CC k) (.seq (.var 4)) (lenv n P (fL (rgL n b)) (iL (lotL n S)) φ (some (.frz (iL (cls n r q)))) (some (.frz (fr (wh n r b q)))) (some (.frz (fr (so n r b S q)))) none) = some ((cls n r q).map iD) := by
      simp [pSs, pS, pO, pOs, pE, pEs, pAnd1, pAnd2, pOr1, pOr2, pV, pVs, pA, pAs, pLs, pI, pF, pOpt, pIfs, En.at, En.put, get_v, get_r, list_v, list_iL, list_pL, list_fL, list_r, sub_v, sub_r, getAll, ownFree, tgIn, tgsIn, bindT_n, bindT_t, bindTs_nil, bindTs_cons, putAll, PR.bind, PR.val, O.toD, startE, frzL, lenv]
    rw [hi, Option.bind_some]
    exact h'
  · rfl
theorem likely_out (hk : 4 ≤ k) {A n : Nat} {r : Nat → Nat → Bool} (hr : Eqv r) {b : Nat → Rat} (hb : FulOk A n b) (S : Nat → Bool) (P : D) : ∀ (L : List Nat), (∀ q ∈ L, q ∈ reps n r) → ∀ (φ : Nat → Rat) (o4 o5 o6 : Option O), ∃ φ' o4' o5' o6', LoopR (fun d e => (bindT (.n 4) d e).bind fun e => pSs (CC k) [.asg 5 (.e (.call 9 [.d (.f (.comp (.sub (.e (.var 1)) (.var 7)) (.n 7) (.seq (.var 4)) [] [7]))] [])), .asg 6 (.e (.call 9 [.d (.f (.comp (.sub (.e (.var 1)) (.var 7)) (.n 7) (.seq (.var 4)) [.cmp .in_ (.e (.var 7)) (.e (.var 2))] [7]))] [])), .for_ (.n 7) (.seq (.var 4)) [.store 3 [] (.var 7) (.e (.call 7 [.d (.var 6), .d (.var 5)] []))]] e) (L.map fun q => iL (cls n r q)) (lenv n P (fL (rgL n b)) (iL (lotL n S)) φ o4 o5 o6 none) (lenv n P (fL (rgL n b)) (iL (lotL n S)) φ' o4' o5' o6' none) ∧ (∀ s, s < n → (∃ q ∈ L, r q s = true) → φ' s = ch n r b S s) ∧ (∀ s, φ s = ch n r b S s → φ' s = ch n r b S s) := by
  intro L
  induction L with
  | nil => intro _ φ o4 o5 o6; exact ⟨φ, o4, o5, o6, .nil _, fun s _ h => (by obtain ⟨q, hq, _⟩ := h; cases hq), fun s h => h⟩
  | cons q L ih =>
    intro h φ o4 o5 o6
    have hq := (mem_reps.mp (h q List.mem_cons_self)).1
    obtain ⟨o7', h1⟩ := likely_one hk hr hb S P hq φ o5 o6 none
    obtain ⟨φ', p4, p5, p6, h2, h3, h4⟩ := ih (fun t ht => h t (List.mem_cons_of_mem _ ht)) (fun t => if t ∈ cls n r q then ch n r b S q else φ t) (some (.frz (iL (cls n r q)))) (some (.frz (fr (wh n r b q)))) (some (.frz (fr (so n r b S q))))
    refine ⟨φ', p4, p5, p6, ?_, ?_, ?_⟩
    · rw [List.map_cons]
      refine .cons (p1 := lenv n P (fL (rgL n b)) (iL (lotL n S)) (fun t => if t ∈ cls n r q then ch n r b S q else φ t) (some (.frz (iL (cls n r q)))) (some (.frz (fr (wh n r b q)))) (some (.frz (fr (so n r b S q)))) o7') ?_ ?_ h2
      · rw [bindT_n, Option.bind_some]
        exact h1
      · exact lf_none [some (.frz P), some (.frz (fL (rgL n b))), some (.frz (iL (lotL n S))), some (.lst (((List.range n).map fun s => fr (if s ∈ cls n r q then ch n r b S q else φ s)).map .frz)), some (.frz (iL (cls n r q))), some (.frz (fr (wh n r b q))), some (.frz (fr (so n r b S q)))] [] o7'
    · intro s hs ⟨p, hp, hps⟩
      rcases List.mem_cons.mp hp with z | z
      · subst z
        refine h4 s ?_
        simp only [mem_cls, hs, hps, and_self, if_true]
        exact ch_same hr b S hps
      · exact h3 s hs ⟨p, z, hps⟩
    · intro s hs
      refine h4 s ?_
      by_cases c : s ∈ cls n r q
      · simp only [c, if_true]
        exact ch_same hr b S (mem_cls.mp c).2
      · simp only [c, if_false]
        exact hs
theorem p_likely_by (hk : 5 ≤ k) {A n : Nat} {r : Nat → Nat → Bool} (hr : Eqv r) {b : Nat → Rat} (hb : FulOk A n b) (S : Nat → Bool) : cd (CC k) 41 [pL (grp n r), fL (rgL n b), iL (lotL n S)] = some (fL (rgL n (ch n r b S))) := by
  obtain ⟨k, rfl⟩ : ∃ j, k = j + 1 := ⟨k - 1, by omega⟩
  have hn := hb.n2
  obtain ⟨φ', p4, p5, p6, h2, h3, h4⟩ := likely_out (k := k) (by omega) hr hb S (pL (grp n r)) (reps n r) (fun q hq => hq) (fun _ => 0) none none none
  refine cdR t_likely_by [some (.frz (pL (grp n r))), some (.frz (fL (rgL n b))), some (.frz (iL (lotL n S))), none, none, none, none, none] rfl rfl rfl rfl rfl ?_
  refine Runs.step (p1 := lenv n (pL (grp n r)) (fL (rgL n b)) (iL (lotL n S)) (fun _ => 0) none none none none) ?_ (Lf.rfl' _) ?_
  · simp [pSs, pS, pO, pOs, pE, pEs, pAnd1, pAnd2, pOr1, pOr2, pV, pVs, pA, pAs, pLs, pI, pF, pOpt, pIfs, En.at, En.put, get_v, get_r, list_v, list_iL, list_pL, list_fL, list_r, sub_v, sub_r, getAll, ownFree, tgIn, tgsIn, bindT_n, bindT_t, bindTs_nil, bindTs_cons, putAll, PR.bind, PR.val, O.toD, startE, frzL, lenv, g_none, rgL_len, intD, repC_one _ hn]
  refine Runs.for_ (ds := (reps n r).map fun q => iL (cls n r q)) ?_ h2 ?_
  · simp [pSs, pS, pO, pOs, pE, pEs, pAnd1, pAnd2, pOr1, pOr2, pV, pVs, pA, pAs, pLs, pI, pF, pOpt, pIfs, En.at, En.put, get_v, get_r, list_v, list_iL, list_pL, list_fL, list_r, sub_v, sub_r, getAll, ownFree, tgIn, tgsIn, bindT_n, bindT_t, bindTs_nil, bindTs_cons, putAll, PR.bind, PR.val, O.toD, startE, frzL, lenv, grp]
  refine Runs.last (o := .lst (((List.range n).map fun s => fr (φ' s)).map .frz)) (p1 := [some (.frz (pL (grp n r))), some (.frz (fL (rgL n b))), some (.frz (iL (lotL n S))), none, p4, p5, p6, none]) ?_ ?_
  · simp [pSs, pS, pO, pOs, pE, pEs, pAnd1, pAnd2, pOr1, pOr2, pV, pVs, pA, pAs, pLs, pI, pF, pOpt, pIfs, En.at, En.put, get_v, get_r, list_v, list_iL, list_pL, list_fL, list_r, sub_v, sub_r, getAll, ownFree, tgIn, tgsIn, bindT_n, bindT_t, bindTs_nil, bindTs_cons, putAll, PR.bind, PR.val, O.toD, startE, frzL, lenv]
  · simp only [O.toD, toDs_frz]
    unfold fL rgL
    rw [List.map_map]
    congr 1
    apply List.map_congr_left
    intro s hs
    rw [List.mem_range] at hs
    obtain ⟨q, hq, hqs⟩ := exists_rep hr hs
    simp only [Function.comp]
    rw [h3 s hs ⟨q, hq, hqs⟩]
end TL

set_option maxRecDepth 100000
namespace TL
open PySem
/-! all that is told -/
variable {k : Nat}
def kr (n : Nat) (b : Nat → Rat) (S : Nat → Bool) (r : Nat → Nat → Bool) (s t : Nat) : Bool := decide (ch n r b S s = ch n r b S t)
/-- the hearer's parts behind the teller's chances -/
def nx (n : Nat) (b : Nat → Rat) (S : Nat → Bool) (r q : Nat → Nat → Bool) : Nat → Nat → Bool := rAnd q (kr n b S r)
theorem kr_eqv (n : Nat) (b : Nat → Rat) (S : Nat → Bool) (r : Nat → Nat → Bool) : Eqv (kr n b S r) := Eqv.of (ch n r b S)
theorem rAnd_eqv {r q : Nat → Nat → Bool} (h : Eqv r) (g : Eqv q) : Eqv (rAnd r q) := Eqv.and h g
theorem nx_eqv (n : Nat) (b : Nat → Rat) (S : Nat → Bool) (r : Nat → Nat → Bool) {q : Nat → Nat → Bool} (h : Eqv q) : Eqv (nx n b S r q) := rAnd_eqv h (kr_eqv n b S r)
theorem nx_sub {n : Nat} {b : Nat → Rat} {S : Nat → Bool} {r q : Nat → Nat → Bool} {s t : Nat} (h : nx n b S r q s t = true) : q s t = true := by
  simp only [nx, rAnd, Bool.and_eq_true] at h; exact h.1
theorem nx_sup {n : Nat} {b : Nat → Rat} {S : Nat → Bool} {r q : Nat → Nat → Bool} (hr : Eqv r) {s t : Nat} (h1 : r s t = true) (h2 : q s t = true) : nx n b S r q s t = true := by
  simp only [nx, rAnd, Bool.and_eq_true, kr, decide_eq_true_eq]; exact ⟨h2, ch_same hr b S h1⟩
theorem p_alike_fr (hk : 1 ≤ k) (n : Nat) (hn : n ≤ 6) (c : Nat → Rat) : cd (CC k) 30 [fL (rgL n c)] = some (pL (grp n fun s t => decide (c s = c t))) := by
  have := p_alike (k := k) hk (enc := fr) fr_eq (fun a => fr_ok 49 a) c n (by omega)
  rw [← this]
  unfold fL rgL
  rw [List.map_map]
  rfl
/-- one telling, and what it leaves of the hearer's parts -/
theorem p_tell (hk : 5 ≤ k) {A n : Nat} {r q : Nat → Nat → Bool} (hr : Eqv r) (hq : Eqv q) {b : Nat → Rat} (hb : FulOk A n b) (S : Nat → Bool) : ∃ D', cd (CC k) 30 [fL (rgL n (ch n r b S))] = some D' ∧ cd (CC k) 34 [pL (grp n q), D'] = some (pL (grp n (nx n b S r q))) := by
  refine ⟨_, p_alike_fr (by omega) n hb.n2 (ch n r b S), ?_⟩
  exact p_both_by (by omega) hq (kr_eqv n b S r) hb.n1 hb.n2
def row (n : Nat) (b : Nat → Rat) (S : Nat → Bool) (w : Int) (r q : Nat → Nat → Bool) : D := .tup [.int w, fL (rgL n (ch n r b S)), pL (grp n (nx n b S r q))]
def tenv (X Y B Lt : D) (fs : List D) (P0 P1 : D) (q : Nat) (o7 o8 o9 : Option O) : En := [some (.frz X), some (.frz Y), some (.frz B), some (.frz Lt), some (.lst [.frz P0, .frz P1]), some (.lst (fs.map .frz)), some (.frz (.int q)), o7, o8, o9, none]
def tbody : List TS := [.asg 7 (.e (.bin .mod (.e (.blt .len [.pk 5])) (.e (.int 2)))), .asg 8 (.e (.call 41 [.d (.sub (.pk 4) (.var 7)), .d (.var 2), .d (.var 3)] [])), .asg 9 (.e (.call 34 [.d (.sub (.pk 4) (.bin .sub (.e (.int 1)) (.e (.var 7)))), .d (.call 30 [.d (.var 8)] [])] [])), .asg 6 (.e (.ife (.cmp .eq (.e (.var 9)) (.e (.sub (.pk 4) (.bin .sub (.e (.int 1)) (.e (.var 7)))))) (.bin .add (.e (.var 6)) (.e (.int 1))) (.int 0))), .store 4 [] (.bin .sub (.e (.int 1)) (.e (.var 7))) (.e (.var 9)), .app 5 [] (.e (.tup [.e (.var 7), .e (.var 8), .e (.f (.comp (.f (.list_ (.seq (.var 10)))) (.n 10) (.seq (.var 9)) [] [10]))]))]
theorem ix2_0 : ixAt 2 0 = some 0 := by decide
theorem ix2_1 : ixAt 2 1 = some 1 := by decide
theorem copy_pL (P : List (List Nat)) (e : En) (h10 : e[10]? = some none) : pE (CC k) (.f (.comp (.f (.list_ (.seq (.var 10)))) (.n 10) (.seq (.var 9)) [] [10])) (e.set 9 (some (.frz (pL P)))) = some (pL P) := by
  have hl : 10 < e.length := by
    by_cases z : 10 < e.length
    · exact z
    · rw [List.getElem?_eq_none (by omega)] at h10; cases h10
  have h9 : (e.set 9 (some (.frz (pL P))))[9]? = some (some (.frz (pL P))) := by
    rw [List.getElem?_set]; simp; omega
  have h10' : (e.set 9 (some (.frz (pL P))))[10]? = some none := by
    rw [List.getElem?_set]; simp [h10]
  simp only [pSs, pS, pO, pOs, pE, pEs, pAnd1, pAnd2, pOr1, pOr2, pV, pVs, pA, pAs, pLs, pI, pF, pOpt, pIfs, En.at, En.put, get_v, get_r, list_v, list_iL, list_pL, list_fL, list_r, sub_v, sub_r, getAll, ownFree, tgIn, tgsIn, bindT_n, bindT_t, bindTs_nil, bindTs_cons, putAll, PR.bind, PR.val, O.toD, startE, frzL, h9, h10', Option.bind_some, id, items_pL, Option.isNone_none, Bool.and_true, List.contains_cons, BEq.rfl, Bool.true_or, if_true, Option.map_some, Bool.and_self]
  rw [mfM_all (enc := iL) (g := iL)]
  · rfl
  · intro l hl'
    rw [List.getElem?_set]
    simp [hl, lst_iL, List.length_set]
theorem tell_0 (hk : 5 ≤ k) {A n : Nat} {r0 r1 : Nat → Nat → Bool} (h0 : Eqv r0) (h1 : Eqv r1) {b : Nat → Rat} (hb : FulOk A n b) (S : Nat → Bool) (X Y : D) (fs : List D) (hf : fs.length % 2 = 0) (hl : fs.length < 1000) (q : Nat) (o7 o8 o9 : Option O) : ∃ o7' o8' o9', pSs (CC k) tbody (tenv X Y (fL (rgL n b)) (iL (lotL n S)) fs (pL (grp n r0)) (pL (grp n r1)) q o7 o8 o9) = some (.next (tenv X Y (fL (rgL n b)) (iL (lotL n S)) (fs ++ [row n b S 0 r0 r1]) (pL (grp n r0)) (pL (grp n (nx n b S r0 r1))) (if grp n (nx n b S r0 r1) = grp n r1 then q + 1 else 0) o7' o8' o9')) := by
  obtain ⟨D', e1, e2⟩ := p_tell (k := k) hk h0 h1 hb S
  have e0 := p_likely_by (k := k) hk h0 hb S
  have em : opQ .mod (.int (fs.length : Int)) (.int 2) = some (.int 0) := by
    rw [opQ_mod (by decide)]
    congr 2
    omega
  have es : opQ .sub (.int 1) (.int 0) = some (.int 1) := by rw [opQ_sub]; rfl
  refine ⟨some (.frz (.int 0)), some (.frz (fL (rgL n (ch n r0 b S)))), some (.frz (pL (grp n (nx n b S r0 r1)))), ?_⟩
  unfold tbody
  refine (pSs_step (e' := tenv X Y (fL (rgL n b)) (iL (lotL n S)) fs (pL (grp n r0)) (pL (grp n r1)) q (some (.frz (.int 0))) o8 o9) ?_).trans ?_
  · simp [pSs, pS, pO, pOs, pE, pEs, pAnd1, pAnd2, pOr1, pOr2, pV, pVs, pA, pAs, pLs, pI, pF, pOpt, pIfs, En.at, En.put, get_v, get_r, list_v, list_iL, list_pL, list_fL, list_r, sub_v, sub_r, getAll, ownFree, tgIn, tgsIn, bindT_n, bindT_t, bindTs_nil, bindTs_cons, putAll, PR.bind, PR.val, O.toD, startE, frzL, tenv, em]
  refine (pSs_step (e' := tenv X Y (fL (rgL n b)) (iL (lotL n S)) fs (pL (grp n r0)) (pL (grp n r1)) q (some (.frz (.int 0))) (some (.frz (fL (rgL n (ch n r0 b S))))) o9) ?_).trans ?_
  · simp [pSs, pS, pO, pOs, pE, pEs, pAnd1, pAnd2, pOr1, pOr2, pV, pVs, pA, pAs, pLs, pI, pF, pOpt, pIfs, En.at, En.put, get_v, get_r, list_v, list_iL, list_pL, list_fL, list_r, sub_v, sub_r, getAll, ownFree, tgIn, tgsIn, bindT_n, bindT_t, bindTs_nil, bindTs_cons, putAll, PR.bind, PR.val, O.toD, startE, frzL, tenv, subO, ix2_0, e0]
  refine (pSs_step (e' := tenv X Y (fL (rgL n b)) (iL (lotL n S)) fs (pL (grp n r0)) (pL (grp n r1)) q (some (.frz (.int 0))) (some (.frz (fL (rgL n (ch n r0 b S))))) (some (.frz (pL (grp n (nx n b S r0 r1)))))) ?_).trans ?_
  · simp [pSs, pS, pO, pOs, pE, pEs, pAnd1, pAnd2, pOr1, pOr2, pV, pVs, pA, pAs, pLs, pI, pF, pOpt, pIfs, En.at, En.put, get_v, get_r, list_v, list_iL, list_pL, list_fL, list_r, sub_v, sub_r, getAll, ownFree, tgIn, tgsIn, bindT_n, bindT_t, bindTs_nil, bindTs_cons, putAll, PR.bind, PR.val, O.toD, startE, frzL, tenv, subO, ix2_1, es, e1, e2]
  refine (pSs_step (e' := tenv X Y (fL (rgL n b)) (iL (lotL n S)) fs (pL (grp n r0)) (pL (grp n r1)) (if grp n (nx n b S r0 r1) = grp n r1 then q + 1 else 0) (some (.frz (.int 0))) (some (.frz (fL (rgL n (ch n r0 b S))))) (some (.frz (pL (grp n (nx n b S r0 r1)))))) ?_).trans ?_
  · by_cases c : grp n (nx n b S r0 r1) = grp n r1
    · simp [pSs, pS, pO, pOs, pE, pEs, pAnd1, pAnd2, pOr1, pOr2, pV, pVs, pA, pAs, pLs, pI, pF, pOpt, pIfs, En.at, En.put, get_v, get_r, list_v, list_iL, list_pL, list_fL, list_r, sub_v, sub_r, getAll, ownFree, tgIn, tgsIn, bindT_n, bindT_t, bindTs_nil, bindTs_cons, putAll, PR.bind, PR.val, O.toD, startE, frzL, tenv, subO, ix2_1, es, c]
    · simp [pSs, pS, pO, pOs, pE, pEs, pAnd1, pAnd2, pOr1, pOr2, pV, pVs, pA, pAs, pLs, pI, pF, pOpt, pIfs, En.at, En.put, get_v, get_r, list_v, list_iL, list_pL, list_fL, list_r, sub_v, sub_r, getAll, ownFree, tgIn, tgsIn, bindT_n, bindT_t, bindTs_nil, bindTs_cons, putAll, PR.bind, PR.val, O.toD, startE, frzL, tenv, subO, ix2_1, es, c]
  generalize (if grp n (nx n b S r0 r1) = grp n r1 then q + 1 else 0) = q'
  refine (pSs_step (e' := tenv X Y (fL (rgL n b)) (iL (lotL n S)) fs (pL (grp n r0)) (pL (grp n (nx n b S r0 r1))) q' (some (.frz (.int 0))) (some (.frz (fL (rgL n (ch n r0 b S))))) (some (.frz (pL (grp n (nx n b S r0 r1)))))) ?_).trans ?_
  · simp [pSs, pS, pO, pOs, pE, pEs, pAnd1, pAnd2, pOr1, pOr2, pV, pVs, pA, pAs, pLs, pI, pF, pOpt, pIfs, En.at, En.put, get_v, get_r, list_v, list_iL, list_pL, list_fL, list_r, sub_v, sub_r, getAll, ownFree, tgIn, tgsIn, bindT_n, bindT_t, bindTs_nil, bindTs_cons, putAll, PR.bind, PR.val, O.toD, startE, frzL, tenv, isLstAt, modAt_nil, setO, ix2_1, es]
  refine (pSs_step (e' := tenv X Y (fL (rgL n b)) (iL (lotL n S)) (fs ++ [row n b S 0 r0 r1]) (pL (grp n r0)) (pL (grp n (nx n b S r0 r1))) q' (some (.frz (.int 0))) (some (.frz (fL (rgL n (ch n r0 b S))))) (some (.frz (pL (grp n (nx n b S r0 r1)))))) ?_).trans ?_
  · have hc := copy_pL (k := k) (grp n (nx n b S r0 r1)) (tenv X Y (fL (rgL n b)) (iL (lotL n S)) fs (pL (grp n r0)) (pL (grp n (nx n b S r0 r1))) q' (some (.frz (.int 0))) (some (.frz (fL (rgL n (ch n r0 b S))))) none) rfl
    have hc2 : pE (CC k) (.tup [.e (.var 7), .e (.var 8), .e (.f (.comp (.f (.list_ (.seq (.var 10)))) (.n 10) (.seq (.var 9)) [] [10]))]) (tenv X Y (fL (rgL n b)) (iL (lotL n S)) fs (pL (grp n r0)) (pL (grp n (nx n b S r0 r1))) q' (some (.frz (.int 0))) (some (.frz (fL (rgL n (ch n r0 b S))))) (some (.frz (pL (grp n (nx n b S r0 r1)))))) = some (row n b S 0 r0 r1) := by
      rw [pE, pLs, pLs, pLs, pLs]
      have hc : pE (CC k) (.f (.comp (.f (.list_ (.seq (.var 10)))) (.n 10) (.seq (.var 9)) [] [10])) (tenv X Y (fL (rgL n b)) (iL (lotL n S)) fs (pL (grp n r0)) (pL (grp n (nx n b S r0 r1))) q' (some (.frz (.int 0))) (some (.frz (fL (rgL n (ch n r0 b S))))) (some (.frz (pL (grp n (nx n b S r0 r1)))))) = _ := hc
      rw [hc]
      rfl
    have hll : fs.length < listLine := by unfold listLine; omega
    rw [pS, pO, hc2]
    simp [pEs, tenv, isLstAt, modAt_nil, appO, hll, En.at, En.put]
  · rfl
theorem tell_1 (hk : 5 ≤ k) {A n : Nat} {r0 r1 : Nat → Nat → Bool} (h0 : Eqv r0) (h1 : Eqv r1) {b : Nat → Rat} (hb : FulOk A n b) (S : Nat → Bool) (X Y : D) (fs : List D) (hf : fs.length % 2 = 1) (hl : fs.length < 1000) (q : Nat) (o7 o8 o9 : Option O) : ∃ o7' o8' o9', pSs (CC k) tbody (tenv X Y (fL (rgL n b)) (iL (lotL n S)) fs (pL (grp n r0)) (pL (grp n r1)) q o7 o8 o9) = some (.next (tenv X Y (fL (rgL n b)) (iL (lotL n S)) (fs ++ [row n b S 1 r1 r0]) (pL (grp n (nx n b S r1 r0))) (pL (grp n r1)) (if grp n (nx n b S r1 r0) = grp n r0 then q + 1 else 0) o7' o8' o9')) := by
  obtain ⟨D', e1, e2⟩ := p_tell (k := k) hk h1 h0 hb S
  have e0 := p_likely_by (k := k) hk h1 hb S
  have em : opQ .mod (.int (fs.length : Int)) (.int 2) = some (.int 1) := by
    rw [opQ_mod (by decide)]
    congr 2
    omega
  have es : opQ .sub (.int 1) (.int 1) = some (.int 0) := by rw [opQ_sub]; rfl
  refine ⟨some (.frz (.int 1)), some (.frz (fL (rgL n (ch n r1 b S)))), some (.frz (pL (grp n (nx n b S r1 r0)))), ?_⟩
  unfold tbody
  refine (pSs_step (e' := tenv X Y (fL (rgL n b)) (iL (lotL n S)) fs (pL (grp n r0)) (pL (grp n r1)) q (some (.frz (.int 1))) o8 o9) ?_).trans ?_
  · simp [pSs, pS, pO, pOs, pE, pEs, pAnd1, pAnd2, pOr1, pOr2, pV, pVs, pA, pAs, pLs, pI, pF, pOpt, pIfs, En.at, En.put, get_v, get_r, list_v, list_iL, list_pL, list_fL, list_r, sub_v, sub_r, getAll, ownFree, tgIn, tgsIn, bindT_n, bindT_t, bindTs_nil, bindTs_cons, putAll, PR.bind, PR.val, O.toD, startE, frzL, tenv, em]
  refine (pSs_step (e' := tenv X Y (fL (rgL n b)) (iL (lotL n S)) fs (pL (grp n r0)) (pL (grp n r1)) q (some (.frz (.int 1))) (some (.frz (fL (rgL n (ch n r1 b S))))) o9) ?_).trans ?_
  · simp [pSs, pS, pO, pOs, pE, pEs, pAnd1, pAnd2, pOr1, pOr2, pV, pVs, pA, pAs, pLs, pI, pF, pOpt, pIfs, En.at, En.put, get_v, get_r, list_v, list_iL, list_pL, list_fL, list_r, sub_v, sub_r, getAll, ownFree, tgIn, tgsIn, bindT_n, bindT_t, bindTs_nil, bindTs_cons, putAll, PR.bind, PR.val, O.toD, startE, frzL, tenv, subO, ix2_1, e0]
  refine (pSs_step (e' := tenv X Y (fL (rgL n b)) (iL (lotL n S)) fs (pL (grp n r0)) (pL (grp n r1)) q (some (.frz (.int 1))) (some (.frz (fL (rgL n (ch n r1 b S))))) (some (.frz (pL (grp n (nx n b S r1 r0)))))) ?_).trans ?_
  · simp [pSs, pS, pO, pOs, pE, pEs, pAnd1, pAnd2, pOr1, pOr2, pV, pVs, pA, pAs, pLs, pI, pF, pOpt, pIfs, En.at, En.put, get_v, get_r, list_v, list_iL, list_pL, list_fL, list_r, sub_v, sub_r, getAll, ownFree, tgIn, tgsIn, bindT_n, bindT_t, bindTs_nil, bindTs_cons, putAll, PR.bind, PR.val, O.toD, startE, frzL, tenv, subO, ix2_0, es, e1, e2]
  refine (pSs_step (e' := tenv X Y (fL (rgL n b)) (iL (lotL n S)) fs (pL (grp n r0)) (pL (grp n r1)) (if grp n (nx n b S r1 r0) = grp n r0 then q + 1 else 0) (some (.frz (.int 1))) (some (.frz (fL (rgL n (ch n r1 b S))))) (some (.frz (pL (grp n (nx n b S r1 r0)))))) ?_).trans ?_
  · by_cases c : grp n (nx n b S r1 r0) = grp n r0
    · simp [pSs, pS, pO, pOs, pE, pEs, pAnd1, pAnd2, pOr1, pOr2, pV, pVs, pA, pAs, pLs, pI, pF, pOpt, pIfs, En.at, En.put, get_v, get_r, list_v, list_iL, list_pL, list_fL, list_r, sub_v, sub_r, getAll, ownFree, tgIn, tgsIn, bindT_n, bindT_t, bindTs_nil, bindTs_cons, putAll, PR.bind, PR.val, O.toD, startE, frzL, tenv, subO, ix2_0, es, c]
    · simp [pSs, pS, pO, pOs, pE, pEs, pAnd1, pAnd2, pOr1, pOr2, pV, pVs, pA, pAs, pLs, pI, pF, pOpt, pIfs, En.at, En.put, get_v, get_r, list_v, list_iL, list_pL, list_fL, list_r, sub_v, sub_r, getAll, ownFree, tgIn, tgsIn, bindT_n, bindT_t, bindTs_nil, bindTs_cons, putAll, PR.bind, PR.val, O.toD, startE, frzL, tenv, subO, ix2_0, es, c]
  generalize (if grp n (nx n b S r1 r0) = grp n r0 then q + 1 else 0) = q'
  refine (pSs_step (e' := tenv X Y (fL (rgL n b)) (iL (lotL n S)) fs (pL (grp n (nx n b S r1 r0))) (pL (grp n r1)) q' (some (.frz (.int 1))) (some (.frz (fL (rgL n (ch n r1 b S))))) (some (.frz (pL (grp n (nx n b S r1 r0)))))) ?_).trans ?_
  · simp [pSs, pS, pO, pOs, pE, pEs, pAnd1, pAnd2, pOr1, pOr2, pV, pVs, pA, pAs, pLs, pI, pF, pOpt, pIfs, En.at, En.put, get_v, get_r, list_v, list_iL, list_pL, list_fL, list_r, sub_v, sub_r, getAll, ownFree, tgIn, tgsIn, bindT_n, bindT_t, bindTs_nil, bindTs_cons, putAll, PR.bind, PR.val, O.toD, startE, frzL, tenv, isLstAt, modAt_nil, setO, ix2_0, es]
  refine (pSs_step (e' := tenv X Y (fL (rgL n b)) (iL (lotL n S)) (fs ++ [row n b S 1 r1 r0]) (pL (grp n (nx n b S r1 r0))) (pL (grp n r1)) q' (some (.frz (.int 1))) (some (.frz (fL (rgL n (ch n r1 b S))))) (some (.frz (pL (grp n (nx n b S r1 r0)))))) ?_).trans ?_
  · have hc := copy_pL (k := k) (grp n (nx n b S r1 r0)) (tenv X Y (fL (rgL n b)) (iL (lotL n S)) fs (pL (grp n (nx n b S r1 r0))) (pL (grp n r1)) q' (some (.frz (.int 1))) (some (.frz (fL (rgL n (ch n r1 b S))))) none) rfl
    have hc2 : pE (CC k) (.tup [.e (.var 7), .e (.var 8), .e (.f (.comp (.f (.list_ (.seq (.var 10)))) (.n 10) (.seq (.var 9)) [] [10]))]) (tenv X Y (fL (rgL n b)) (iL (lotL n S)) fs (pL (grp n (nx n b S r1 r0))) (pL (grp n r1)) q' (some (.frz (.int 1))) (some (.frz (fL (rgL n (ch n r1 b S))))) (some (.frz (pL (grp n (nx n b S r1 r0)))))) = some (row n b S 1 r1 r0) := by
      rw [pE, pLs, pLs, pLs, pLs]
      have hc : pE (CC k) (.f (.comp (.f (.list_ (.seq (.var 10)))) (.n 10) (.seq (.var 9)) [] [10])) (tenv X Y (fL (rgL n b)) (iL (lotL n S)) fs (pL (grp n (nx n b S r1 r0))) (pL (grp n r1)) q' (some (.frz (.int 1))) (some (.frz (fL (rgL n (ch n r1 b S))))) (some (.frz (pL (grp n (nx n b S r1 r0)))))) = _ := hc
      rw [hc]
      rfl
    have hll : fs.length < listLine := by unfold listLine; omega
    rw [pS, pO, hc2]
    simp [pEs, tenv, isLstAt, modAt_nil, appO, hll, En.at, En.put]
  · rfl
end TL

set_option maxRecDepth 100000
namespace TL
open PySem
variable {k : Nat}
/-- telling by r teaches q nothing -/
def Still (n : Nat) (b : Nat → Rat) (S : Nat → Bool) (r q : Nat → Nat → Bool) : Prop := grp n (nx n b S r q) = grp n q
theorem still_lt {n : Nat} {b : Nat → Rat} {S : Nat → Bool} {r q : Nat → Nat → Bool} (h : ¬ Still n b S r q) : pairsN n (nx n b S r q) < pairsN n q := by
  have : ∃ s t, s < n ∧ t < n ∧ q s t = true ∧ nx n b S r q s t = false := by
    refine Classical.byContradiction fun z => h (grp_congr fun s t hs ht => ?_)
    cases c : nx n b S r q s t with
    | true => exact (nx_sub c).symm
    | false => cases d : q s t with
      | false => rfl
      | true => exact absurd ⟨s, t, hs, ht, d, c⟩ z
  obtain ⟨s, t, hs, ht, h1, h2⟩ := this
  exact pairsN_lt (fun s t h => nx_sub h) hs ht h1 h2
def tloop : List TS := [.while_ (.cmp .lt (.e (.var 6)) (.e (.int 2))) tbody, .ret (.e (.tup [.e (.var 5), .e (.var 4)]))]
theorem t_cond (X Y B Lt : D) (fs : List D) (P0 P1 : D) (q : Nat) (o7 o8 o9 : Option O) : pE (CC k) (.cmp .lt (.e (.var 6)) (.e (.int 2))) (tenv X Y B Lt fs P0 P1 q o7 o8 o9) = some (.bl (decide (q < 2))) := by
  simp [pSs, pS, pO, pOs, pE, pEs, pAnd1, pAnd2, pOr1, pOr2, pV, pVs, pA, pAs, pLs, pI, pF, pOpt, pIfs, En.at, En.put, get_v, get_r, list_v, list_iL, list_pL, list_fL, list_r, sub_v, sub_r, getAll, ownFree, tgIn, tgsIn, bindT_n, bindT_t, bindTs_nil, bindTs_cons, putAll, PR.bind, PR.val, O.toD, startE, frzL, tenv]
  omega
theorem lf_two (a c : En) (x y : List D) (o p : Option O) : Lf (a ++ some (.frz (.lst x)) :: some (.frz (.lst y)) :: c) (a ++ some (.lst (x.map O.frz)) :: some (.lst (y.map O.frz)) :: c) := by
  refine (lf_frz a (some (.frz (.lst y)) :: c) x).trans ?_
  have := lf_frz (a ++ [some (.lst (x.map O.frz))]) c y
  simpa using this
theorem t_end (X Y B Lt : D) (fs : List D) (P0 P1 : D) (q : Nat) (o7 o8 o9 : Option O) (hq : ¬ q < 2) : Runs (CC k) tloop (tenv X Y B Lt fs P0 P1 q o7 o8 o9) (.tup [.lst fs, .lst [P0, P1]]) := by
  refine Runs.whF ?_ ?_
  · rw [t_cond]; simp [hq]
  · have hL : Lf [some (.frz X), some (.frz Y), some (.frz B), some (.frz Lt), some (.frz (.lst [P0, P1])), some (.frz (.lst fs)), some (.frz (.int q)), o7, o8, o9, none] (tenv X Y B Lt fs P0 P1 q o7 o8 o9) := lf_two [some (.frz X), some (.frz Y), some (.frz B), some (.frz Lt)] [some (.frz (.int q)), o7, o8, o9, none] [P0, P1] fs none none
    intro e L
    refine Runs.last (p1 := [some (.frz X), some (.frz Y), some (.frz B), some (.frz Lt), some (.frz (.lst [P0, P1])), some (.frz (.lst fs)), some (.frz (.int q)), o7, o8, o9, none]) (o := .frz (.tup [.lst fs, .lst [P0, P1]])) ?_ rfl e (hL.trans L)
    simp [pSs, pS, pO, pOs, pE, pEs, pAnd1, pAnd2, pOr1, pOr2, pV, pVs, pA, pAs, pLs, pI, pF, pOpt, pIfs, En.at, En.put, get_v, get_r, list_v, list_iL, list_pL, list_fL, list_r, sub_v, sub_r, getAll, ownFree, tgIn, tgsIn, bindT_n, bindT_t, bindTs_nil, bindTs_cons, putAll, PR.bind, PR.val, O.toD, startE, frzL]
theorem tell_loop (hk : 5 ≤ k) {A n : Nat} {b : Nat → Rat} (hb : FulOk A n b) (S : Nat → Bool) (X Y : D) : ∀ (m : Nat) (r0 r1 : Nat → Nat → Bool) (fs : List D) (q : Nat) (o7 o8 o9 : Option O), Eqv r0 → Eqv r1 → 3 * (pairsN n r0 + pairsN n r1) + (2 - q) ≤ m → fs.length + m < 1000 → q ≤ 2 →
    (fs.length % 2 = 0 → 1 ≤ q → Still n b S r1 r0) → (fs.length % 2 = 1 → 1 ≤ q → Still n b S r0 r1) → (q = 2 → Still n b S r1 r0 ∧ Still n b S r0 r1) →
    ∃ (fs' : List D) (p0 p1 : Nat → Nat → Bool), Eqv p0 ∧ Eqv p1 ∧ (∀ s t, p0 s t = true → r0 s t = true) ∧ (∀ s t, p1 s t = true → r1 s t = true) ∧ (∀ s t, r0 s t = true → r1 s t = true → p0 s t = true ∧ p1 s t = true) ∧ Still n b S p1 p0 ∧ Still n b S p0 p1 ∧
      Runs (CC k) tloop (tenv X Y (fL (rgL n b)) (iL (lotL n S)) fs (pL (grp n r0)) (pL (grp n r1)) q o7 o8 o9) (.tup [.lst fs', .lst [pL (grp n p0), pL (grp n p1)]]) := by
  intro m
  induction m with
  | zero =>
    intro r0 r1 fs q o7 o8 o9 h0 h1 hm hf hq i0 i1 i2
    have : q = 2 := by omega
    exact ⟨fs, r0, r1, h0, h1, fun s t h => h, fun s t h => h, fun s t h g => ⟨h, g⟩, (i2 this).1, (i2 this).2, t_end _ _ _ _ _ _ _ _ _ _ _ (by omega)⟩
  | succ m ih =>
    intro r0 r1 fs q o7 o8 o9 h0 h1 hm hf hq i0 i1 i2
    by_cases c : q < 2
    · by_cases w : fs.length % 2 = 0
      · obtain ⟨o7', o8', o9', hs⟩ := tell_0 hk h0 h1 hb S X Y fs w (by omega) q o7 o8 o9
        by_cases z : grp n (nx n b S r0 r1) = grp n r1
        · rw [if_pos z, z] at hs
          obtain ⟨fs', p0, p1, g0, g1, s0, s1, j, t0, t1, hR⟩ := ih r0 r1 (fs ++ [row n b S 0 r0 r1]) (q + 1) o7' o8' o9' h0 h1 (by omega) (by simp; omega) (by omega) (fun hw _ => by rw [List.length_append, List.length_singleton] at hw; omega) (fun _ _ => z) (fun hq2 => ⟨i0 w (by omega), z⟩)
          refine ⟨fs', p0, p1, g0, g1, s0, s1, j, t0, t1, ?_⟩
          exact Runs.whT (by rw [t_cond]; simp [c]) hs (Lf.rfl' _) hR
        · rw [if_neg z] at hs
          have hlt := still_lt z
          obtain ⟨fs', p0, p1, g0, g1, s0, s1, j, t0, t1, hR⟩ := ih r0 (nx n b S r0 r1) (fs ++ [row n b S 0 r0 r1]) 0 o7' o8' o9' h0 (nx_eqv n b S r0 h1) (by omega) (by simp; omega) (by omega) (fun _ h => by omega) (fun _ h => by omega) (fun h => by omega)
          refine ⟨fs', p0, p1, g0, g1, s0, fun s t h => nx_sub (s1 s t h), fun s t h g => j s t h (nx_sup h0 h g), t0, t1, ?_⟩
          exact Runs.whT (by rw [t_cond]; simp [c]) hs (Lf.rfl' _) hR
      · have w : fs.length % 2 = 1 := by omega
        obtain ⟨o7', o8', o9', hs⟩ := tell_1 hk h0 h1 hb S X Y fs w (by omega) q o7 o8 o9
        by_cases z : grp n (nx n b S r1 r0) = grp n r0
        · rw [if_pos z, z] at hs
          obtain ⟨fs', p0, p1, g0, g1, s0, s1, j, t0, t1, hR⟩ := ih r0 r1 (fs ++ [row n b S 1 r1 r0]) (q + 1) o7' o8' o9' h0 h1 (by omega) (by simp; omega) (by omega) (fun _ _ => z) (fun hw _ => by rw [List.length_append, List.length_singleton] at hw; omega) (fun hq2 => ⟨z, i1 w (by omega)⟩)
          refine ⟨fs', p0, p1, g0, g1, s0, s1, j, t0, t1, ?_⟩
          exact Runs.whT (by rw [t_cond]; simp [c]) hs (Lf.rfl' _) hR
        · rw [if_neg z] at hs
          have hlt := still_lt z
          obtain ⟨fs', p0, p1, g0, g1, s0, s1, j, t0, t1, hR⟩ := ih (nx n b S r1 r0) r1 (fs ++ [row n b S 1 r1 r0]) 0 o7' o8' o9' (nx_eqv n b S r1 h0) h1 (by omega) (by simp; omega) (by omega) (fun _ h => by omega) (fun _ h => by omega) (fun h => by omega)
          refine ⟨fs', p0, p1, g0, g1, fun s t h => nx_sub (s0 s t h), s1, fun s t h g => j s t (nx_sup h1 g h) g, t0, t1, ?_⟩
          exact Runs.whT (by rw [t_cond]; simp [c]) hs (Lf.rfl' _) hR
    · have : q = 2 := by omega
      exact ⟨fs, r0, r1, h0, h1, fun s t h => h, fun s t h => h, fun s t h g => ⟨h, g⟩, (i2 this).1, (i2 this).2, t_end _ _ _ _ _ _ _ _ _ _ _ (by omega)⟩
/-- the start of tellings -/
theorem t_start {A n : Nat} {r0 r1 : Nat → Nat → Bool} {b : Nat → Rat} (S : Nat → Bool) {v : D} (h : Runs (CC k) tloop (tenv (pL (grp n r0)) (pL (grp n r1)) (fL (rgL n b)) (iL (lotL n S)) [] (pL (grp n r0)) (pL (grp n r1)) 0 none none none) v) : cd (CC (k + 1)) 42 [pL (grp n r0), pL (grp n r1), fL (rgL n b), iL (lotL n S)] = some v := by
  refine cdR t_tellings [some (.frz (pL (grp n r0))), some (.frz (pL (grp n r1))), some (.frz (fL (rgL n b))), some (.frz (iL (lotL n S))), none, none, none, none, none, none, none] rfl rfl rfl rfl rfl ?_
  refine Runs.step (p1 := tenv (pL (grp n r0)) (pL (grp n r1)) (fL (rgL n b)) (iL (lotL n S)) [] (pL (grp n r0)) (pL (grp n r1)) 0 none none none) ?_ (Lf.rfl' _) h
  simp [pSs, pS, pO, pOs, pE, pEs, pAnd1, pAnd2, pOr1, pOr2, pV, pVs, pA, pAs, pLs, pI, pF, pOpt, pIfs, En.at, En.put, get_v, get_r, list_v, list_iL, list_pL, list_fL, list_r, sub_v, sub_r, getAll, ownFree, tgIn, tgsIn, bindT_n, bindT_t, bindTs_nil, bindTs_cons, putAll, PR.bind, PR.val, O.toD, startE, frzL, tenv]
/-- what both parts are at the end -/
structure Ends (n : Nat) (b : Nat → Rat) (S : Nat → Bool) (r0 r1 p0 p1 : Nat → Nat → Bool) : Prop where
  g0 : Eqv p0
  g1 : Eqv p1
  s0 : ∀ s t, p0 s t = true → r0 s t = true
  s1 : ∀ s t, p1 s t = true → r1 s t = true
  j : ∀ s t, r0 s t = true → r1 s t = true → p0 s t = true ∧ p1 s t = true
  t0 : Still n b S p1 p0
  t1 : Still n b S p0 p1
theorem p_tellings (hk : 6 ≤ k) {A n : Nat} {r0 r1 : Nat → Nat → Bool} (h0 : Eqv r0) (h1 : Eqv r1) {b : Nat → Rat} (hb : FulOk A n b) (S : Nat → Bool) : ∃ (fs : List D) (p0 p1 : Nat → Nat → Bool), Ends n b S r0 r1 p0 p1 ∧ cd (CC k) 42 [pL (grp n r0), pL (grp n r1), fL (rgL n b), iL (lotL n S)] = some (.tup [.lst fs, .lst [pL (grp n p0), pL (grp n p1)]]) := by
  obtain ⟨k, rfl⟩ : ∃ j, k = j + 1 := ⟨k - 1, by omega⟩
  have a0 := pairsN_le (n := n) (r := r0)
  have a1 := pairsN_le (n := n) (r := r1)
  have a2 : n * n ≤ 6 * 6 := Nat.mul_le_mul hb.n2 hb.n2
  obtain ⟨fs, p0, p1, g0, g1, s0, s1, j, t0, t1, hR⟩ := tell_loop (k := k) (by omega) hb S (pL (grp n r0)) (pL (grp n r1)) 300 r0 r1 [] 0 none none none h0 h1 (by omega) (by simp) (by omega) (fun _ h => by omega) (fun _ h => by omega) (fun h => by omega)
  exact ⟨fs, p0, p1, ⟨g0, g1, s0, s1, j, t0, t1⟩, t_start (A := A) S hR⟩
/-- who has nothing new to tell -/
theorem p_tellings_still (hk : 6 ≤ k) {A n : Nat} {r0 r1 : Nat → Nat → Bool} (h0 : Eqv r0) (h1 : Eqv r1) {b : Nat → Rat} (hb : FulOk A n b) (S : Nat → Bool) (t0 : Still n b S r1 r0) (t1 : Still n b S r0 r1) : cd (CC k) 42 [pL (grp n r0), pL (grp n r1), fL (rgL n b), iL (lotL n S)] = some (.tup [.lst [row n b S 0 r0 r1, row n b S 1 r1 r0], .lst [pL (grp n r0), pL (grp n r1)]]) := by
  obtain ⟨k, rfl⟩ : ∃ j, k = j + 1 := ⟨k - 1, by omega⟩
  refine t_start (A := A) S ?_
  have t0 : grp n (nx n b S r1 r0) = grp n r0 := t0
  have t1 : grp n (nx n b S r0 r1) = grp n r1 := t1
  obtain ⟨o7, o8, o9, hs⟩ := tell_0 (k := k) (by omega) h0 h1 hb S (pL (grp n r0)) (pL (grp n r1)) [] rfl (by simp) 0 none none none
  rw [if_pos t1, t1] at hs
  obtain ⟨u7, u8, u9, hs2⟩ := tell_1 (k := k) (by omega) h0 h1 hb S (pL (grp n r0)) (pL (grp n r1)) [row n b S 0 r0 r1] rfl (by simp) 1 o7 o8 o9
  rw [if_pos t0, t0] at hs2
  refine Runs.whT (by rw [t_cond]; rfl) hs (Lf.rfl' _) ?_
  refine Runs.whT (by rw [t_cond]; rfl) hs2 (Lf.rfl' _) ?_
  exact t_end _ _ _ _ _ _ _ _ _ _ _ (by omega)
theorem p_told (hk : 7 ≤ k) {A n : Nat} {r0 r1 : Nat → Nat → Bool} (h0 : Eqv r0) (h1 : Eqv r1) {b : Nat → Rat} (hb : FulOk A n b) (S : Nat → Bool) (t0 : Still n b S r1 r0) (t1 : Still n b S r0 r1) : cd (CC k) 43 [pL (grp n r0), pL (grp n r1), fL (rgL n b), iL (lotL n S)] = some (.lst [row n b S 0 r0 r1, row n b S 1 r1 r0]) := by
  obtain ⟨k, rfl⟩ : ∃ j, k = j + 1 := ⟨k - 1, by omega⟩
  refine cd_of t_told_in_turn rfl rfl rfl rfl ?_
  have h3 : ∀ (a c : D), subD (.tup [a, c]) (.int 0) = some a := fun _ _ => rfl
  simp [pSs, pS, pO, pOs, pE, pEs, pAnd1, pAnd2, pOr1, pOr2, pV, pVs, pA, pAs, pLs, pI, pF, pOpt, pIfs, En.at, En.put, get_v, get_r, list_v, list_iL, list_pL, list_fL, list_r, sub_v, sub_r, getAll, ownFree, tgIn, tgsIn, bindT_n, bindT_t, bindTs_nil, bindTs_cons, putAll, PR.bind, PR.val, O.toD, startE, frzL, t_told_in_turn, p_check_told (show 6 ≤ k by omega) h0 h1 hb S, p_tellings_still (show 6 ≤ k by omega) h0 h1 hb S t0 t1, h3]
theorem agreed_of (hk : 6 ≤ k) {A n : Nat} {r0 r1 p0 p1 : Nat → Nat → Bool} (h0 : Eqv r0) (h1 : Eqv r1) (g0 : Eqv p0) {b : Nat → Rat} (hb : FulOk A n b) (S : Nat → Bool) {fs : List D} (h : cd (CC k) 42 [pL (grp n r0), pL (grp n r1), fL (rgL n b), iL (lotL n S)] = some (.tup [.lst fs, .lst [pL (grp n p0), pL (grp n p1)]])) : cd (CC (k + 1)) 45 [pL (grp n r0), pL (grp n r1), fL (rgL n b), iL (lotL n S)] = some (fL (rgL n (ch n p0 b S))) := by
  refine cd_of t_agreed rfl rfl rfl rfl ?_
  have h3 : ∀ (a c : D), subD (.tup [a, c]) (.int 1) = some c := fun _ _ => rfl
  have hl := p_likely_by (k := k) (by omega) g0 hb S
  unfold cd at hl
  simp only [Option.map_eq_some_iff] at hl
  obtain ⟨o, h4, h5⟩ := hl
  simp [pSs, pS, pO, pOs, pE, pEs, pAnd1, pAnd2, pOr1, pOr2, pV, pVs, pA, pAs, pLs, pI, pF, pOpt, pIfs, En.at, En.put, get_v, get_r, list_v, list_iL, list_pL, list_fL, list_r, sub_v, sub_r, getAll, ownFree, tgIn, tgsIn, bindT_n, bindT_t, bindTs_nil, bindTs_cons, putAll, PR.bind, PR.val, O.toD, startE, frzL, t_agreed, p_check_told (show 6 ≤ k by omega) h0 h1 hb S, h, h3, h4, h5]
theorem agreed_by_of (hk : 6 ≤ k) {A n : Nat} {r0 r1 p0 p1 : Nat → Nat → Bool} (h0 : Eqv r0) (h1 : Eqv r1) {b : Nat → Rat} (hb : FulOk A n b) (S : Nat → Bool) {fs : List D} (h : cd (CC k) 42 [pL (grp n r0), pL (grp n r1), fL (rgL n b), iL (lotL n S)] = some (.tup [.lst fs, .lst [pL (grp n p0), pL (grp n p1)]])) : cd (CC (k + 1)) 44 [pL (grp n r0), pL (grp n r1), fL (rgL n b), iL (lotL n S)] = some (.tup [pL (grp n p0), pL (grp n p1)]) := by
  generalize hX : pL (grp n r0) = X at h ⊢
  generalize hY : pL (grp n r1) = Y at h ⊢
  generalize hB : fL (rgL n b) = B at h ⊢
  generalize hL : iL (lotL n S) = Lt at h ⊢
  have hc := p_check_told (show 6 ≤ k by omega) h0 h1 hb S
  rw [hX, hY, hB, hL] at hc
  refine cd_at t_agreed_by [some (.frz X), some (.frz Y), some (.frz B), some (.frz Lt), none, none, none] rfl rfl rfl rfl rfl ?_
  refine cd_step (e' := [some (.frz X), some (.frz Y), some (.frz B), some (.frz Lt), none, none, none]) ?_ ?_
  · simp [pSs, pS, pO, pOs, pE, pEs, pAnd1, pAnd2, pOr1, pOr2, pV, pVs, pA, pAs, pLs, pI, pF, pOpt, pIfs, En.at, En.put, get_v, get_r, list_v, list_iL, list_pL, list_fL, list_r, sub_v, sub_r, getAll, ownFree, tgIn, tgsIn, bindT_n, bindT_t, bindTs_nil, bindTs_cons, putAll, PR.bind, PR.val, O.toD, startE, frzL, hc]
  have h3 : ∀ (a c : D), subD (.tup [a, c]) (.int 1) = some c := fun _ _ => rfl
  refine cd_step (e' := [some (.frz X), some (.frz Y), some (.frz B), some (.frz Lt), some (.frz (pL (grp n p0))), some (.frz (pL (grp n p1))), none]) ?_ ?_
  · have hbl : ∀ (a c : D) (e : En), bindT (.t [.n 4, .n 5]) (.lst [a, c]) e = some ((e.put 4 (.frz a)).put 5 (.frz c)) := fun _ _ _ => rfl
    simp [h, h3, pSs, pS, pO, pOs, pE, pEs, pAnd1, pAnd2, pOr1, pOr2, pV, pVs, pA, pAs, pLs, pI, pF, pOpt, pIfs, En.at, En.put, get_v, get_r, list_v, list_iL, list_pL, list_fL, list_r, sub_v, sub_r, getAll, ownFree, tgIn, tgsIn, bindT_n, bindT_t, bindTs_nil, bindTs_cons, putAll, PR.bind, PR.val, O.toD, startE, frzL]
    rw [bindT]
    simp [pSs, pS, pO, pOs, pE, pEs, pAnd1, pAnd2, pOr1, pOr2, pV, pVs, pA, pAs, pLs, pI, pF, pOpt, pIfs, En.at, En.put, get_v, get_r, list_v, list_iL, list_pL, list_fL, list_r, sub_v, sub_r, getAll, ownFree, tgIn, tgsIn, bindT_n, bindT_t, bindTs_nil, bindTs_cons, putAll, PR.bind, PR.val, O.toD, startE, frzL]
  refine cd_last (o := .frz (.tup [pL (grp n p0), pL (grp n p1)])) (e' := [some (.frz X), some (.frz Y), some (.frz B), some (.frz Lt), some (.frz (pL (grp n p0))), some (.frz (pL (grp n p1))), none]) ?_
  simp [pSs, pS, pO, pOs, pE, pEs, pAnd1, pAnd2, pOr1, pOr2, pV, pVs, pA, pAs, pLs, pI, pF, pOpt, pIfs, En.at, En.put, get_v, get_r, list_v, list_iL, list_pL, list_fL, list_r, sub_v, sub_r, getAll, ownFree, tgIn, tgsIn, bindT_n, bindT_t, bindTs_nil, bindTs_cons, putAll, PR.bind, PR.val, O.toD, startE, frzL]
  rw [mfM_all (enc := iL) (g := iL)]
  · rw [mfM_all (enc := iL) (g := iL)]
    · simp [lst_pL]
    · intro l hl
      simp [pSs, pS, pO, pOs, pE, pEs, pAnd1, pAnd2, pOr1, pOr2, pV, pVs, pA, pAs, pLs, pI, pF, pOpt, pIfs, En.at, En.put, get_v, get_r, list_v, list_iL, list_pL, list_fL, list_r, sub_v, sub_r, getAll, ownFree, tgIn, tgsIn, bindT_n, bindT_t, bindTs_nil, bindTs_cons, putAll, PR.bind, PR.val, O.toD, startE, frzL, lst_iL]
  · intro l hl
    simp [pSs, pS, pO, pOs, pE, pEs, pAnd1, pAnd2, pOr1, pOr2, pV, pVs, pA, pAs, pLs, pI, pF, pOpt, pIfs, En.at, En.put, get_v, get_r, list_v, list_iL, list_pL, list_fL, list_r, sub_v, sub_r, getAll, ownFree, tgIn, tgsIn, bindT_n, bindT_t, bindTs_nil, bindTs_cons, putAll, PR.bind, PR.val, O.toD, startE, frzL, lst_iL]
end TL

set_option maxRecDepth 100000
namespace TL
open PySem
/-! what a sure look is worth -/
variable {k : Nat}
theorem sumN_ind (i : Nat) : ∀ m, sumN (fun j => if i = j then 1 else 0) m = if i < m then 1 else 0
  | 0 => by simp [sumN]
  | m + 1 => by
    rw [sumN, sumN_ind i m]
    by_cases h : i < m
    · have : ¬ i = m := by omega
      simp only [h, this, if_true, if_false, show i < m + 1 from by omega]
      exact Rat.add_zero 1
    · by_cases e : i = m
      · subst e; simp; exact Rat.zero_add 1
      · have : ¬ i < m + 1 := by omega
        simp only [h, e, this, if_false]
        exact Rat.add_zero 0
theorem sure_ok {n : Nat} {r : Nat → Nat → Bool} (hr : Eqv r) (h1 : 1 ≤ n) (h2 : n ≤ 6) : LookOk 0 (sureRows n (grp n r)) (grp n r).length := by
  have hm := grp_len_le (n := n) (r := r)
  have hp := grp_pos hr (n := n) (by omega)
  have key : ∀ row ∈ sureRows n (grp n r), ∃ s, s < n ∧ row = (List.range (grp n r).length).map fun j => if num (grp n r) s = j then 1 else 0 := by
    intro row h
    obtain ⟨s, hs, e⟩ := List.mem_map.mp h
    exact ⟨s, List.mem_range.mp hs, e.symm⟩
  refine ⟨?_, ?_, hp, by omega, ?_, ?_, ?_, ?_, by omega⟩
  · intro z
    have := congrArg List.length z
    simp [sureRows] at this
    omega
  · simp [sureRows]; exact h2
  · intro row h
    obtain ⟨s, hs, rfl⟩ := key row h
    simp
  · intro row h q hq
    obtain ⟨s, hs, rfl⟩ := key row h
    obtain ⟨j, hj, rfl⟩ := List.mem_map.mp hq
    split
    · exact Sz.one
    · exact Sz.zero
  · intro row h q hq
    obtain ⟨s, hs, rfl⟩ := key row h
    obtain ⟨j, hj, rfl⟩ := List.mem_map.mp hq
    split
    · decide
    · exact Rat.le_refl
  · intro row h
    obtain ⟨s, hs, rfl⟩ := key row h
    rw [sumQ_range, sumN_ind, if_pos (num_lt hr hs)]
theorem zip_rg {α β : Type} (l : List Nat) (f : Nat → α) (g : Nat → β) : (l.map f).zip (l.map g) = l.map fun s => (f s, g s) := by
  induction l with
  | nil => rfl
  | cons a l ih => rw [List.map_cons, List.map_cons, List.zip_cons_cons, ih]; rfl
def cb (n : Nat) (P : List (List Nat)) (b : Nat → Rat) (j : Nat) (s : Nat) : Rat := b s * if num P s = j then 1 else 0
theorem p_weighed (hk : 4 ≤ k) {A n : Nat} {r : Nat → Nat → Bool} (hr : Eqv r) {b : Nat → Rat} (hb : FulOk A n b) {j : Nat} (hj : j < (grp n r).length) : cd (CC k) 47 [lkD (sureRows n (grp n r)), fL (rgL n b), .int j] = some (fL (rgL n (cb n (grp n r) b j))) := by
  obtain ⟨k, rfl⟩ : ∃ j, k = j + 1 := ⟨k - 1, by omega⟩
  have hA := hb.small
  have hl := sure_ok hr hb.n1 hb.n2
  have hc := p_column_of (k := k) (by omega) hl.len hj
  have e : (sureRows n (grp n r)).map (fun row => row.getD j 0) = rgL n fun s => if num (grp n r) s = j then (1 : Rat) else 0 := by
    unfold sureRows rgL
    rw [List.map_map]
    apply List.map_congr_left
    intro s hs
    simp [List.getElem?_range, hj]
  rw [e] at hc
  refine cdR t_weighed [some (.frz (lkD (sureRows n (grp n r)))), some (.frz (fL (rgL n b))), some (.frz (.int j)), none, none] rfl rfl rfl rfl rfl ?_
  refine Runs.last (p1 := [some (.frz (lkD (sureRows n (grp n r)))), some (.frz (fL (rgL n b))), some (.frz (.int j)), none, none]) (o := .lst (((List.range n).map fun s => fr (cb n (grp n r) b j s)).map .frz)) ?_ (by
    simp only [O.toD, toDs_frz]
    unfold fL rgL
    rw [List.map_map]
    rfl)
  simp only [pSs, pS, pO, pOs, pE, pEs, pAnd1, pAnd2, pOr1, pOr2, pV, pVs, pA, pAs, pLs, pI, pF, pOpt, pIfs, En.at, En.put, get_v, get_r, list_v, list_iL, list_pL, list_fL, list_r, sub_v, sub_r, getAll, ownFree, tgIn, tgsIn, bindT_n, bindT_t, bindTs_nil, bindTs_cons, putAll, PR.bind, PR.val, O.toD, startE, frzL, hc, seq_fL, List.map_cons, List.map_nil, Option.bind_some, Option.map_some, List.getElem?_cons_zero, List.getElem?_cons_succ, List.set_cons_zero, List.set_cons_succ, id, Option.isNone_none, Bool.and_true, Bool.true_and, List.contains_cons, BEq.rfl, Bool.true_or, Bool.or_true, if_true, Bool.and_self, List.length_map, rgL_len, zip_enc, bne_self_eq_false, Bool.false_eq_true, if_false]
  unfold rgL
  rw [zip_rg, List.map_map, mfM_all (enc := (fun p : Rat × Rat => D.tup [fr p.1, fr p.2]) ∘ fun s => (b s, if num (grp n r) s = j then (1 : Rat) else 0)) (g := fun s => fr (cb n (grp n r) b j s))]
  · simp
  · intro s hs
    rw [List.mem_range] at hs
    have hz : Sz 0 (if num (grp n r) s = j then (1 : Rat) else 0) := by
      split
      · exact Sz.one
      · exact Sz.zero
    have := p_times (k := k) (by omega) (hb.sz s hs) hz (by omega)
    simp only [Function.comp, pSs, pS, pO, pOs, pE, pEs, pAnd1, pAnd2, pOr1, pOr2, pV, pVs, pA, pAs, pLs, pI, pF, pOpt, pIfs, En.at, En.put, get_v, get_r, list_v, list_iL, list_pL, list_fL, list_r, sub_v, sub_r, getAll, ownFree, tgIn, tgsIn, bindT_n, bindT_t, bindTs_nil, bindTs_cons, putAll, PR.bind, PR.val, O.toD, startE, frzL, List.map_cons, List.map_nil, Option.bind_some, Option.map_some, List.getElem?_cons_zero, List.getElem?_cons_succ, List.set_cons_zero, List.set_cons_succ, id, if_true]
    rw [this]
    rfl
theorem sz_cb {A n : Nat} {P : List (List Nat)} {b : Nat → Rat} (hb : FulOk A n b) (j : Nat) {s : Nat} (hs : s < n) : Sz (A + 1) (cb n P b j s) := by
  have hz : Sz 0 (if num P s = j then (1 : Rat) else 0) := by
    split
    · exact Sz.one
    · exact Sz.zero
  exact (hb.sz s hs).mul hz
theorem p_pays_at (hk : 6 ≤ k) {A E n : Nat} {r : Nat → Nat → Bool} (hr : Eqv r) {b : Nat → Rat} (hb : FulOk A n b) {j : Nat} (hj : j < (grp n r).length) {pays : List (Nat → Rat)} (hE : ∀ p ∈ pays, ∀ s, s < n → Sz E (p s)) (hE2 : E < 60) : cd (CC k) 48 [lkD (sureRows n (grp n r)), fL (rgL n b), gmD (pays.map (rgL n)), .int j] = some (fL (pays.map fun pay => sumN (fun s => cb n (grp n r) b j s * pay s) n)) := by
  obtain ⟨k, rfl⟩ : ∃ j, k = j + 1 := ⟨k - 1, by omega⟩
  have hA := hb.small
  have hn := hb.n2
  have hw := p_weighed (k := k) (by omega) hr hb hj
  generalize hX : lkD (sureRows n (grp n r)) = X at hw ⊢
  refine cdR t_pays_at [some (.frz X), some (.frz (fL (rgL n b))), some (.frz (gmD (pays.map (rgL n)))), some (.frz (.int j)), none, none] rfl rfl rfl rfl rfl ?_
  refine Runs.step (p1 := [some (.frz X), some (.frz (fL (rgL n b))), some (.frz (gmD (pays.map (rgL n)))), some (.frz (.int j)), some (.frz (fL (rgL n (cb n (grp n r) b j)))), none]) ?_ (Lf.rfl' _) ?_
  · simp [pSs, pS, pO, pOs, pE, pEs, pAnd1, pAnd2, pOr1, pOr2, pV, pVs, pA, pAs, pLs, pI, pF, pOpt, pIfs, En.at, En.put, get_v, get_r, list_v, list_iL, list_pL, list_fL, list_r, sub_v, sub_r, getAll, ownFree, tgIn, tgsIn, bindT_n, bindT_t, bindTs_nil, bindTs_cons, putAll, PR.bind, PR.val, O.toD, startE, frzL, hw]
  refine Runs.last (p1 := [some (.frz X), some (.frz (fL (rgL n b))), some (.frz (gmD (pays.map (rgL n)))), some (.frz (.int j)), some (.frz (fL (rgL n (cb n (grp n r) b j)))), none]) (o := .lst ((pays.map fun pay => fr (sumN (fun s => cb n (grp n r) b j s * pay s) n)).map .frz)) ?_ (by
    simp only [O.toD, toDs_frz]
    unfold fL
    rw [List.map_map]
    rfl)
  have hmm : (pays.map (rgL n)).map fL = pays.map fun p => fL (rgL n p) := by rw [List.map_map]; rfl
  simp only [pSs, pS, pO, pOs, pE, pEs, pAnd1, pAnd2, pOr1, pOr2, pV, pVs, pA, pAs, pLs, pI, pF, pOpt, pIfs, En.at, En.put, get_v, get_r, list_v, list_iL, list_pL, list_fL, list_r, sub_v, sub_r, getAll, ownFree, tgIn, tgsIn, bindT_n, bindT_t, bindTs_nil, bindTs_cons, putAll, PR.bind, PR.val, O.toD, startE, frzL, sub_gm1, items_l, hmm, List.map_cons, List.map_nil, Option.bind_some, Option.map_some, List.getElem?_cons_zero, List.getElem?_cons_succ, List.set_cons_zero, List.set_cons_succ, id, Option.isNone_none, Bool.and_true, Bool.true_and, List.contains_cons, BEq.rfl, Bool.true_or, Bool.or_true, if_true, Bool.and_self]
  rw [mfM_all (enc := fun p => fL (rgL n p)) (g := fun pay => fr (sumN (fun s => cb n (grp n r) b j s * pay s) n))]
  · simp
  · intro p hp
    have h1 := p_product (k := k) (by omega) (l := rgL n (cb n (grp n r) b j)) (m := rgL n p) (A := A + 1) (B := E) (fun q hq => by obtain ⟨s, hs, rfl⟩ := rgL_mem hq; exact sz_cb hb j hs) (fun q hq => by obtain ⟨s, hs, rfl⟩ := rgL_mem hq; exact hE p hp s hs) (by rw [rgL_len, rgL_len]) (by
      rw [rgL_len]
      have : n * (A + 1 + E + 3) ≤ 6 * (A + 1 + E + 3) := Nat.mul_le_mul_right _ hn
      omega)
    have e : sumQ (((rgL n (cb n (grp n r) b j)).zip (rgL n p)).map fun p => p.1 * p.2) = sumN (fun s => cb n (grp n r) b j s * p s) n := by
      unfold rgL
      rw [zip_rg, List.map_map, ← sumQ_range]
      rfl
    rw [e] at h1
    simp only [pSs, pS, pO, pOs, pE, pEs, pAnd1, pAnd2, pOr1, pOr2, pV, pVs, pA, pAs, pLs, pI, pF, pOpt, pIfs, En.at, En.put, get_v, get_r, list_v, list_iL, list_pL, list_fL, list_r, sub_v, sub_r, getAll, ownFree, tgIn, tgsIn, bindT_n, bindT_t, bindTs_nil, bindTs_cons, putAll, PR.bind, PR.val, O.toD, startE, frzL, h1, List.map_cons, List.map_nil, Option.bind_some, Option.map_some, List.getElem?_cons_zero, List.getElem?_cons_succ, List.set_cons_zero, List.set_cons_succ, id, if_true]
theorem sz_pay {A E n : Nat} {P : List (List Nat)} {b : Nat → Rat} (hb : FulOk A n b) (hE2 : E < 60) {pay : Nat → Rat} (hE : ∀ s, s < n → Sz E (pay s)) (j : Nat) : Sz 800 (sumN (fun s => cb n P b j s * pay s) n) := by
  have h := sz_sumN (A := A + 1 + E + 1) (f := fun s => cb n P b j s * pay s) (m := n) fun s hs => (sz_cb hb j hs).mul (hE s hs)
  have hA := hb.small
  have : n * (A + 1 + E + 1 + 2) ≤ 6 * (A + 1 + E + 1 + 2) := Nat.mul_le_mul_right _ hb.n2
  exact h.mono (by omega)
theorem wth_eq (n : Nat) (P : List (List Nat)) (b : Nat → Rat) (pays : List (Nat → Rat)) : wth n P b pays = sumN (fun j => maxF (pays.map fun pay => sumN (fun s => cb n P b j s * pay s) n)) P.length := rfl
theorem sz_max {A E n : Nat} {P : List (List Nat)} {b : Nat → Rat} (hb : FulOk A n b) (hE2 : E < 60) {pays : List (Nat → Rat)} (hE : ∀ p ∈ pays, ∀ s, s < n → Sz E (p s)) (hn : pays ≠ []) (j : Nat) : Sz 800 (maxF (pays.map fun pay => sumN (fun s => cb n P b j s * pay s) n)) := by
  obtain ⟨p, hp, e⟩ := List.mem_map.mp (maxF_mem (l := pays.map fun pay => sumN (fun s => cb n P b j s * pay s) n) (by simpa using hn))
  rw [← e]
  exact sz_pay hb hE2 (hE p hp) j
theorem sz_wth {A E n : Nat} {r : Nat → Nat → Bool} {b : Nat → Rat} (hb : FulOk A n b) (hE2 : E < 60) {pays : List (Nat → Rat)} (hE : ∀ p ∈ pays, ∀ s, s < n → Sz E (p s)) (hn : pays ≠ []) : Sz 5000 (wth n (grp n r) b pays) := by
  rw [wth_eq]
  have h := sz_sumN (A := 800) (f := fun j => maxF (pays.map fun pay => sumN (fun s => cb n (grp n r) b j s * pay s) n)) (m := (grp n r).length) fun j _ => sz_max hb hE2 hE hn j
  have hm := grp_len_le (n := n) (r := r)
  have := hb.n2
  have h3 : (grp n r).length * 802 ≤ 6 * 802 := Nat.mul_le_mul_right _ (by omega)
  exact h.mono (by omega)
theorem p_worth (hk : 9 ≤ k) {A E n : Nat} {r : Nat → Nat → Bool} (hr : Eqv r) {b : Nat → Rat} (hb : FulOk A n b) {pays : List (Nat → Rat)} (hE : ∀ p ∈ pays, ∀ s, s < n → Sz E (p s)) (hE2 : E < 60) (hn : pays ≠ []) (hn2 : pays.length ≤ 8) : cd (CC k) 50 [lkD (sureRows n (grp n r)), fL (rgL n b), gmD (pays.map (rgL n))] = some (fr (wth n (grp n r) b pays)) := by
  obtain ⟨k, rfl⟩ : ∃ j, k = j + 2 := ⟨k - 2, by omega⟩
  have hl := sure_ok hr hb.n1 hb.n2
  have hlen : (sureRows n (grp n r)).length = n := by simp [sureRows]
  have hm := grp_len_le (n := n) (r := r)
  have hnn := hb.n2
  have hg : GameOk E (pays.map (rgL n)) (sureRows n (grp n r)).length := by
    rw [hlen]
    refine ⟨by simpa using hn, by simpa using hn2, hb.n1, hb.n2, ?_, ?_, by omega⟩
    · intro row h
      obtain ⟨p, hp, rfl⟩ := List.mem_map.mp h
      exact rgL_len _ _
    · intro row h q hq
      obtain ⟨p, hp, rfl⟩ := List.mem_map.mp h
      obtain ⟨s, hs, rfl⟩ := rgL_mem hq
      exact hE p hp s hs
  have hc := p_check_asked (k := k + 1) (by omega) hl hb.bel (by rw [hlen, rgL_len]) hg
  have hwb : cd (CC (k + 1)) 49 [lkD (sureRows n (grp n r)), fL (rgL n b), gmD (pays.map (rgL n))] = some (fr (wth n (grp n r) b pays)) := by
    have hs := p_summed (k := k) (by omega) (l := (List.range (grp n r).length).map fun j => maxF (pays.map fun pay => sumN (fun s => cb n (grp n r) b j s * pay s) n)) (A := 800) (fun q hq => by
      obtain ⟨j, _, rfl⟩ := List.mem_map.mp hq
      exact sz_max hb hE2 hE hn j) (by
      rw [List.length_map, List.length_range]
      have h3 : (grp n r).length * 802 ≤ 6 * 802 := Nat.mul_le_mul_right _ (by omega)
      omega)
    rw [sumQ_range, ← wth_eq] at hs
    have hmk : cd (CC k) 17 [lkD (sureRows n (grp n r))] = some (.int (grp n r).length) := by
      cases e : sureRows n (grp n r) with
      | nil => exact absurd e hl.n1
      | cons row rows =>
        rw [p_marks_of (by omega)]
        rw [hl.len row (by rw [e]; exact List.mem_cons_self)]
    have hpay := fun (j : Nat) (hj : j < (grp n r).length) => p_pays_at (k := k) (by omega) hr hb hj hE hE2
    generalize hX : lkD (sureRows n (grp n r)) = X at hmk hpay ⊢
    generalize hG : gmD (pays.map (rgL n)) = G at hpay ⊢
    refine cdR t_worth_by [some (.frz X), some (.frz (fL (rgL n b))), some (.frz G), none] rfl rfl rfl rfl rfl ?_
    unfold cd at hs
    simp only [Option.map_eq_some_iff] at hs
    obtain ⟨o, h4, h5⟩ := hs
    refine Runs.last (p1 := [some (.frz X), some (.frz (fL (rgL n b))), some (.frz G), none]) (o := o) ?_ h5
    simp only [pSs, pS, pO, pOs, pE, pEs, pAnd1, pAnd2, pOr1, pOr2, pV, pVs, pA, pAs, pLs, pI, pF, pOpt, pIfs, En.at, En.put, get_v, get_r, list_v, list_iL, list_pL, list_fL, list_r, sub_v, sub_r, getAll, ownFree, tgIn, tgsIn, bindT_n, bindT_t, bindTs_nil, bindTs_cons, putAll, PR.bind, PR.val, O.toD, startE, frzL, hmk, rngA_nat (show (grp n r).length < 4000000 by omega), List.map_cons, List.map_nil, Option.bind_some, Option.map_some, List.getElem?_cons_zero, List.getElem?_cons_succ, List.set_cons_zero, List.set_cons_succ, id, Option.isNone_none, Bool.and_true, Bool.true_and, List.contains_cons, BEq.rfl, Bool.true_or, Bool.or_true, if_true, Bool.and_self]
    rw [mfM_all (enc := iD) (g := fun j => fr (maxF (pays.map fun pay => sumN (fun s => cb n (grp n r) b j s * pay s) n)))]
    · have e : D.lst ((List.range (grp n r).length).map fun j => fr (maxF (pays.map fun pay => sumN (fun s => cb n (grp n r) b j s * pay s) n))) = fL ((List.range (grp n r).length).map fun j => maxF (pays.map fun pay => sumN (fun s => cb n (grp n r) b j s * pay s) n)) := by
        unfold fL; rw [List.map_map]; rfl
      simp only [Option.map_some, Option.bind_some, e, h4]
    · intro j hj
      rw [List.mem_range] at hj
      have hgr := p_greatest (k := k) (by omega) (l := pays.map fun pay => sumN (fun s => cb n (grp n r) b j s * pay s) n) (A := 800) (fun q hq => by
        obtain ⟨p, hp, rfl⟩ := List.mem_map.mp hq
        exact sz_pay hb hE2 (hE p hp) j) (by omega) (by simpa using hn)
      have hpj := hpay j hj
      simp only [pSs, pS, pO, pOs, pE, pEs, pAnd1, pAnd2, pOr1, pOr2, pV, pVs, pA, pAs, pLs, pI, pF, pOpt, pIfs, En.at, En.put, get_v, get_r, list_v, list_iL, list_pL, list_fL, list_r, sub_v, sub_r, getAll, ownFree, tgIn, tgsIn, bindT_n, bindT_t, bindTs_nil, bindTs_cons, putAll, PR.bind, PR.val, O.toD, startE, frzL, iD_def, hpj, hgr, List.map_cons, List.map_nil, Option.bind_some, Option.map_some, List.getElem?_cons_zero, List.getElem?_cons_succ, List.set_cons_zero, List.set_cons_succ, id, if_true]
  unfold cd at hwb
  simp only [Option.map_eq_some_iff] at hwb
  obtain ⟨o, h4, h5⟩ := hwb
  refine cd_of t_worth rfl rfl rfl rfl ?_
  simp [pSs, pS, pO, pOs, pE, pEs, pAnd1, pAnd2, pOr1, pOr2, pV, pVs, pA, pAs, pLs, pI, pF, pOpt, pIfs, En.at, En.put, get_v, get_r, list_v, list_iL, list_pL, list_fL, list_r, sub_v, sub_r, getAll, ownFree, tgIn, tgsIn, bindT_n, bindT_t, bindTs_nil, bindTs_cons, putAll, PR.bind, PR.val, O.toD, startE, frzL, t_worth, hc, h4, h5]
end TL

set_option maxRecDepth 100000
namespace TL
open PySem
/-! the law's own defs: what is drawn, exact -/
variable {k : Nat}
def gn (g s c : Nat) : O := .lst [.frz (.int g), .frz (.int s), .frz (.int c)]
def Gen (C : Nat) (o : O) : Prop := ∃ g s c : Nat, o = gn g s c ∧ g.log2 ≤ 4000 ∧ s < 2147483647 ∧ c ≤ C
theorem Gen.mono {C C' : Nat} {o : O} (h : Gen C o) (hc : C ≤ C') : Gen C' o := by
  obtain ⟨g, s, c, e, h1, h2, h3⟩ := h
  exact ⟨g, s, c, e, h1, h2, by omega⟩
theorem mul_small {a b : Int} (ha : a.natAbs ≤ 2 ^ 100) (hb : b.natAbs ≤ 2 ^ 100) : mulOk a b = true := by
  have h1 := log2_le ha
  have h2 := log2_le hb
  rw [Nat.log2_two_pow] at h1 h2
  exact mul_ok h1 h2 (by omega)
theorem opB_mul {a b : Int} (ha : a.natAbs ≤ 2 ^ 100) (hb : b.natAbs ≤ 2 ^ 100) : opQ .mul (.int a) (.int b) = some (.int (a * b)) := opQ_mul (mul_small ha hb)
theorem opX_int (a : Int) : opX .int [.int a] = some (.int a) := rfl
theorem mod_small {a b : Int} (hb : 0 < b) (h : b ≤ 2 ^ 31) : (a % b).natAbs ≤ 2 ^ 31 := by
  have h1 := Int.emod_nonneg a (show b ≠ 0 by omega)
  have h2 := Int.emod_lt_of_pos a hb
  omega
theorem p_hash (hk : 1 ≤ k) {s c : Nat} (hs : s < 2147483647) (hc : c < 1000000) : ∃ x : Int, cd (CC k) 51 [.int s, .int c] = some (.int x) ∧ x.natAbs ≤ 2 ^ 31 := by
  obtain ⟨k, rfl⟩ : ∃ j, k = j + 1 := ⟨k - 1, by omega⟩
  have e : ∃ x : Int, (pSs (CC k) t__law_hash.body [some (.frz (.int s)), some (.frz (.int c)), none]).bind PR.val = some (.int x) ∧ x.natAbs ≤ 2 ^ 31 := by
    have b1 : (s : Int).natAbs ≤ 2 ^ 100 := by omega
    have b2 : (c : Int).natAbs ≤ 2 ^ 100 := by omega
    have m1 := opB_mul b1 (show (1220147 : Int).natAbs ≤ 2 ^ 100 by decide)
    have m2 := opB_mul (show (16777903 : Int).natAbs ≤ 2 ^ 100 by decide) b2
    have m3 := opB_mul (a := 16777903 * (c : Int)) (by omega) b2
    have m4 := opB_mul (show (223 : Int).natAbs ≤ 2 ^ 100 by decide) b2
    have d1 := fun a => opQ_mod (a := a) (show (0 : Int) < 2147483629 by decide)
    have d2 := fun a => opQ_mod (a := a) (show (0 : Int) < 2147483587 by decide)
    have d3 := fun a => opQ_mod (a := a) (show (0 : Int) < 2147483647 by decide)
    have m5 := opB_mul (show (69019 : Int).natAbs ≤ 2 ^ 100 by decide) b2
    generalize hM : ((s : Int) * 1220147 + 16777903 * (c : Int) * (c : Int) + 223 * (c : Int) + 97) % 2147483629 = M
    have bM : M.natAbs ≤ 2 ^ 100 := by have := mod_small (a := (s : Int) * 1220147 + 16777903 * (c : Int) * (c : Int) + 223 * (c : Int) + 97) (b := 2147483629) (by omega) (by omega); rw [hM] at this; omega
    have m6 := opB_mul bM bM
    generalize hN : (M * M + 69019 * (c : Int) + 32416187) % 2147483587 = N
    have bN : N.natAbs ≤ 2 ^ 100 := by have := mod_small (a := M * M + 69019 * (c : Int) + 32416187) (b := 2147483587) (by omega) (by omega); rw [hN] at this; omega
    have m7 := opB_mul bN (show (48271 : Int).natAbs ≤ 2 ^ 100 by decide)
    refine ⟨(N * 48271) % 2147483647, ?_, mod_small (by omega) (by omega)⟩
    simp [pSs, pS, pO, pOs, pE, pEs, pAnd1, pAnd2, pOr1, pOr2, pV, pVs, pA, pAs, pLs, pI, pF, pOpt, pIfs, En.at, En.put, get_v, get_r, list_v, list_iL, list_pL, list_fL, list_r, sub_v, sub_r, getAll, ownFree, tgIn, tgsIn, bindT_n, bindT_t, bindTs_nil, bindTs_cons, putAll, PR.bind, PR.val, O.toD, startE, frzL, t__law_hash, m1, m2, m3, m4, m5, m6, m7, d1, d2, d3, opX_int, hM, hN]
  obtain ⟨x, h1, h2⟩ := e
  exact ⟨x, cd_of t__law_hash rfl rfl rfl rfl h1, h2⟩
theorem bits_div (b : Nat) (h : b < 10) : (bitsI (b : Int) : Int) / 30 = 0 := by
  have : ∀ b : _root_.Fin 10, (bitsI ((b.1 : Nat) : Int) : Int) / 30 = 0 := by decide +kernel
  exact this ⟨b, h⟩
theorem c_random (hk : 2 ≤ k) {C : Nat} {o : O} (hg : Gen C o) (hC : C < 900000) {b : Nat} (h1 : 1 ≤ b) (h2 : b < 10) : ∃ (x : Nat) (o' : O), CT k 52 [o, .frz (.int b)] = .ok (.frz (.int x)) [some o', none] ∧ x < b ∧ Gen (C + 1) o' := by
  obtain ⟨k, rfl⟩ : ∃ j, k = j + 1 := ⟨k - 1, by omega⟩
  obtain ⟨g, s, c, rfl, hg1, hs, hc⟩ := hg
  have hb : (0 : Int) < (b : Int) := by omega
  have hdv : divOk (b : Int) = true := by
    unfold divOk
    have : (b : Int).natAbs.log2 ≤ (2 ^ 4 : Nat).log2 := log2_le (by omega)
    rw [Nat.log2_two_pow] at this
    simp only [Bool.and_eq_true, decide_eq_true_eq]
    omega
  have i0 : ixAt 3 0 = some 0 := by decide
  have i1 : ixAt 3 1 = some 1 := by decide
  have i2 : ixAt 3 2 = some 2 := by decide
  by_cases z : g = 0
  · subst z
    obtain ⟨x, hx, hx2⟩ := p_hash (k := k) (by omega) hs (show c + 1 < 1000000 by omega)
    have hx : cd (CC k) 51 [.int s, .int ((c : Int) + 1)] = some (.int x) := hx
    have mz := opB_mul (a := 0) (b := 2147483587) (by decide) (by decide)
    have hrun : pSs (CC k) t__law_random.body [some (gn 0 s c), some (.frz (.int b)), none, none] = some (.ret (.frz (.int (x % b))) [some (gn 0 s (c + 1)), some (.frz (.int b)), some (.frz (.int x)), some (.frz (.int 0))]) := by
      have hbits : opM .bits (.int (b : Int)) [] = some (.int (bitsI b)) := rfl
      have hdv2 : opQ .fdiv (.int (bitsI (b : Int))) (.int 30) = some (.int 0) := by
        rw [opQ_fdiv (by decide), bits_div b h2]
      have hr : rngA (.int 1) = some ([0].map iD) := rngA_nat (n := 1) (by omega)
      unfold t__law_random gn
      refine (pSs_step (e' := [some (.lst [.frz (.int 0), .frz (.int s), .frz (.int c)]), some (.frz (.int b)), none, none]) ?_).trans ?_
      · simp [pSs, pS, pO, pOs, pE, pEs, pAnd1, pAnd2, pOr1, pOr2, pV, pVs, pA, pAs, pLs, pI, pF, pOpt, pIfs, En.at, En.put, get_v, get_r, list_v, list_iL, list_pL, list_fL, list_r, sub_v, sub_r, getAll, ownFree, tgIn, tgsIn, bindT_n, bindT_t, bindTs_nil, bindTs_cons, putAll, PR.bind, PR.val, O.toD, startE, frzL, subO, i0]
      refine (pSs_step (e' := [some (.lst [.frz (.int 0), .frz (.int s), .frz (.int c)]), some (.frz (.int b)), some (.frz (.int 0)), none]) ?_).trans ?_
      · simp [pSs, pS, pO, pOs, pE, pEs, pAnd1, pAnd2, pOr1, pOr2, pV, pVs, pA, pAs, pLs, pI, pF, pOpt, pIfs, En.at, En.put, get_v, get_r, list_v, list_iL, list_pL, list_fL, list_r, sub_v, sub_r, getAll, ownFree, tgIn, tgsIn, bindT_n, bindT_t, bindTs_nil, bindTs_cons, putAll, PR.bind, PR.val, O.toD, startE, frzL]
      refine (pSs_step (e' := [some (.lst [.frz (.int 0), .frz (.int s), .frz (.int ((c + 1 : Nat) : Int))]), some (.frz (.int b)), some (.frz (.int x)), some (.frz (.int 0))]) ?_).trans ?_
      · simp [pSs, pS, pO, pOs, pE, pEs, pAnd1, pAnd2, pOr1, pOr2, pV, pVs, pA, pAs, pLs, pI, pF, pOpt, pIfs, En.at, En.put, get_v, get_r, list_v, list_iL, list_pL, list_fL, list_r, sub_v, sub_r, getAll, ownFree, tgIn, tgsIn, bindT_n, bindT_t, bindTs_nil, bindTs_cons, putAll, PR.bind, PR.val, O.toD, startE, frzL, hbits, hdv2, hr]
        simp [pSs, pS, pO, pOs, pE, pEs, pAnd1, pAnd2, pOr1, pOr2, pV, pVs, pA, pAs, pLs, pI, pF, pOpt, pIfs, En.at, En.put, get_v, get_r, list_v, list_iL, list_pL, list_fL, list_r, sub_v, sub_r, getAll, ownFree, tgIn, tgsIn, bindT_n, bindT_t, bindTs_nil, bindTs_cons, putAll, PR.bind, PR.val, O.toD, startE, frzL, loopP, iD_def, subO, i0, i1, i2, isLstAt, modAt_nil, setO, mz, hx]
      · simp [pSs, pS, pO, pOs, pE, pEs, pAnd1, pAnd2, pOr1, pOr2, pV, pVs, pA, pAs, pLs, pI, pF, pOpt, pIfs, En.at, En.put, get_v, get_r, list_v, list_iL, list_pL, list_fL, list_r, sub_v, sub_r, getAll, ownFree, tgIn, tgsIn, bindT_n, bindT_t, bindTs_nil, bindTs_cons, putAll, PR.bind, PR.val, O.toD, startE, frzL, opX_int, opQ_mod hb]
    refine ⟨(x % (b : Int)).toNat, gn 0 s (c + 1), ?_, ?_, 0, s, c + 1, rfl, by simp, hs, by omega⟩
    · rw [ct_eq k 52 _ (d := t__law_random) rfl]
      have e : ((x % (b : Int)).toNat : Int) = x % b := Int.toNat_of_nonneg (Int.emod_nonneg _ (by omega))
      rw [e]
      exact run_ret (pSs_ok hrun) rfl ⟨rfl, rfl⟩ rfl
    · have a1 := Int.emod_nonneg x (show (b : Int) ≠ 0 by omega)
      have a2 := Int.emod_lt_of_pos x hb
      omega
  · have hg0 : (0 : Int) < (g : Int) := by omega
    have hd : opQ .fdiv (.int (g : Int)) (.int (b : Int)) = some (.int ((g / b : Nat) : Int)) := by
      rw [opQ_fdiv hdv]; rfl
    have hm : opQ .mod (.int (g : Int)) (.int (b : Int)) = some (.int ((g % b : Nat) : Int)) := by
      rw [opQ_mod hb]; rfl
    have hrun : pSs (CC k) t__law_random.body [some (gn g s c), some (.frz (.int b)), none, none] = some (.ret (.frz (.int ((g % b : Nat) : Int))) [some (gn (g / b) s c), some (.frz (.int b)), some (.frz (.int ((g % b : Nat) : Int))), none]) := by
      have hg0' : 0 < g := by omega
      simp [pSs, pS, pO, pOs, pE, pEs, pAnd1, pAnd2, pOr1, pOr2, pV, pVs, pA, pAs, pLs, pI, pF, pOpt, pIfs, En.at, En.put, get_v, get_r, list_v, list_iL, list_pL, list_fL, list_r, sub_v, sub_r, getAll, ownFree, tgIn, tgsIn, bindT_n, bindT_t, bindTs_nil, bindTs_cons, putAll, PR.bind, PR.val, O.toD, startE, frzL, t__law_random, gn, subO, i0, hm, hd, isLstAt, modAt_nil, setO, opX_int, hg0, hg0']
    refine ⟨g % b, gn (g / b) s c, ?_, Nat.mod_lt _ (by omega), g / b, s, c, rfl, Nat.le_trans (log2_le (Nat.div_le_self _ _)) hg1, hs, by omega⟩
    rw [ct_eq k 52 _ (d := t__law_random) rfl]
    exact run_ret (pSs_ok hrun) rfl ⟨rfl, rfl⟩ rfl
end TL

set_option maxRecDepth 100000
namespace TL
open PySem
variable {k : Nat}
@[simp] theorem len_scr (ns : List Int) : opX .len [.scr ns] = some (.int ns.length) := rfl
theorem sub_scr {ns : List Int} {i : Nat} (h : i < ns.length) : subD (.scr ns) (.int (i : Int)) = some (.int ns[i]) := by
  simp [subD, ixAt_nat h, List.getElem?_eq_getElem h]
theorem sumI_intsP (l : List Int) : sumI (l.map D.int) = some l.sum := by
  induction l with
  | nil => rfl
  | cons a l ih =>
    rw [List.map_cons]
    show (sumI (l.map D.int)).map (a + ·) = _
    rw [ih]
    simp
theorem p_cell (hk : 1 ≤ k) (ns : List Int) (i : Nat) : ∃ x : Int, cd (CC k) 53 [.scr ns, .int i] = some (.int x) := by
  obtain ⟨k, rfl⟩ : ∃ j, k = j + 1 := ⟨k - 1, by omega⟩
  by_cases h : i < ns.length
  · refine ⟨ns[i], cd_of t__law_cell rfl rfl rfl rfl ?_⟩
    simp [pSs, pS, pO, pOs, pE, pEs, pAnd1, pAnd2, pOr1, pOr2, pV, pVs, pA, pAs, pLs, pI, pF, pOpt, pIfs, En.at, En.put, get_v, get_r, list_v, list_iL, list_pL, list_fL, list_r, sub_v, sub_r, getAll, ownFree, tgIn, tgsIn, bindT_n, bindT_t, bindTs_nil, bindTs_cons, putAll, PR.bind, PR.val, O.toD, startE, frzL, t__law_cell, h, sub_scr h]
  · have hs : PV.listS (.v (.scr ns)) [some (.frz (.scr ns)), some (.frz (.int (i : Int)))] = some (ns.map D.int) := rfl
    have hc : cutD (ns.map D.int) none (some 1) = (ns.take 1).map D.int := by
      unfold cutD cutIx
      simp
    have hsum : opX .sum [.lst ((ns.take 1).map D.int)] = some (.int (ns.take 1).sum) := by
      show (sumI _).map D.int = _
      rw [sumI_intsP]; rfl
    refine ⟨(ns.take 1).sum % 1000003, cd_of t__law_cell rfl rfl rfl rfl ?_⟩
    simp [-List.map_take, pSs, pS, pO, pOs, pE, pEs, pAnd1, pAnd2, pOr1, pOr2, pV, pVs, pA, pAs, pLs, pI, pF, pOpt, pIfs, En.at, En.put, get_v, get_r, list_v, list_iL, list_pL, list_fL, list_r, sub_v, sub_r, getAll, ownFree, tgIn, tgsIn, bindT_n, bindT_t, bindTs_nil, bindTs_cons, putAll, PR.bind, PR.val, O.toD, startE, frzL, t__law_cell, h, hs, hc, hsum, opQ_mod]
theorem pow18 : (10 : Int) ^ 18 = 1000000000000000000 := by decide
theorem p_generator (hk : 2 ≤ k) (ns : List Int) (i : Nat) (hi : i < 4) : ∃ o, cdO (CC k) 54 [.scr ns, .int i] = some o ∧ Gen 4000 o := by
  obtain ⟨k, rfl⟩ : ∃ j, k = j + 1 := ⟨k - 1, by omega⟩
  obtain ⟨x, hx⟩ := p_cell (k := k) (by omega) ns i
  have q1 : opQ .pow (.int 10) (.int 18) = some (.int ((10 : Int) ^ 18)) := opQ_pow (by decide)
  have q2 : opQ .pow (.int 10) (.int 60) = some (.int ((10 : Int) ^ 60)) := opQ_pow (by decide)
  have q3 : opQ .pow (.int ((10 : Int) ^ 60)) (.int 10) = some (.int (((10 : Int) ^ 60) ^ 10)) := opQ_pow (by decide +kernel)
  have hpos : (0 : Int) < ((10 : Int) ^ 60) ^ 10 := by decide +kernel
  generalize hT : (10 : Int) ^ 18 = T at q1
  generalize hB : ((10 : Int) ^ 60) ^ 10 = B at q3 hpos
  generalize hA : (10 : Int) ^ 60 = A at q2 q3
  have hmx : opX .max2 [.int (x - T), .int 0] = some (.int (if 0 > x - T then 0 else x - T)) := rfl
  generalize hM : (if 0 > x - T then 0 else x - T) = M at hmx
  have q4 := opQ_mod (a := M) hpos
  have q5 := opQ_mod (a := x) (show (0 : Int) < 2147483647 by decide)
  have q6 := opQ_mul (a := 1000) (b := (i : Int)) (mul_small (by decide) (by omega))
  have a1 := Int.emod_nonneg M (show B ≠ 0 by omega)
  have a2 := Int.emod_lt_of_pos M hpos
  have a3 := Int.emod_nonneg x (show (2147483647 : Int) ≠ 0 by omega)
  have a4 := Int.emod_lt_of_pos x (show (0 : Int) < 2147483647 by decide)
  refine ⟨.lst [.frz (.int (M % B)), .frz (.int (x % 2147483647)), .frz (.int (1000 * (i : Int)))], ?_, (M % B).toNat, (x % 2147483647).toNat, 1000 * i, ?_, ?_, by omega, by omega⟩
  · refine cdO_ret t__law_generator (e := [some (.frz (.scr ns)), some (.frz (.int i)), some (.frz (.int x))]) rfl rfl rfl rfl ?_
    simp [pSs, pS, pO, pOs, pE, pEs, pAnd1, pAnd2, pOr1, pOr2, pV, pVs, pA, pAs, pLs, pI, pF, pOpt, pIfs, En.at, En.put, get_v, get_r, list_v, list_iL, list_pL, list_fL, list_r, sub_v, sub_r, getAll, ownFree, tgIn, tgsIn, bindT_n, bindT_t, bindTs_nil, bindTs_cons, putAll, PR.bind, PR.val, O.toD, startE, frzL, t__law_generator, hx, q1, q2, q3, hmx, q4, q5, q6, opX_int]
  · unfold gn
    rw [Int.toNat_of_nonneg a1, Int.toNat_of_nonneg a3]
    simp
  · have h1 : (M % B).toNat ≤ B.toNat := by omega
    have h2 : B.toNat.log2 ≤ 4000 := by
      rw [← hB]
      decide +kernel
    exact Nat.le_trans (log2_le h1) h2
/-! fractions in lowest terms, by the law's own loop -/
theorem frac_loop {v : D} {t u : Int} (ss : List TS) : ∀ (n : Nat) (a b : Int), 0 ≤ a → 0 ≤ b → b.toNat ≤ n → Runs (CC k) ss [some (.frz (.int t)), some (.frz (.int u)), some (.frz (.int (Int.gcd a b))), some (.frz (.int 0))] v →
    Runs (CC k) (.while_ (.cmp .gt (.e (.var 3)) (.e (.int 0))) [.par [2, 3] [.e (.var 3), .e (.bin .mod (.e (.blt .int [.e (.var 2)])) (.e (.var 3)))]] :: ss) [some (.frz (.int t)), some (.frz (.int u)), some (.frz (.int a)), some (.frz (.int b))] v := by
  intro n
  induction n with
  | zero =>
    intro a b ha hb hn h
    obtain rfl : b = 0 := by omega
    refine Runs.whF ?_ ?_
    · simp [pSs, pS, pO, pOs, pE, pEs, pAnd1, pAnd2, pOr1, pOr2, pV, pVs, pA, pAs, pLs, pI, pF, pOpt, pIfs, En.at, En.put, get_v, get_r, list_v, list_iL, list_pL, list_fL, list_r, sub_v, sub_r, getAll, ownFree, tgIn, tgsIn, bindT_n, bindT_t, bindTs_nil, bindTs_cons, putAll, PR.bind, PR.val, O.toD, startE, frzL]
    · simpa [Int.natAbs_of_nonneg ha] using h
  | succ n ih =>
    intro a b ha hb hn h
    by_cases c : 0 < b
    · refine Runs.whT (p1 := [some (.frz (.int t)), some (.frz (.int u)), some (.frz (.int b)), some (.frz (.int (a % b)))]) ?_ ?_ (Lf.rfl' _) ?_
      · simp [pSs, pS, pO, pOs, pE, pEs, pAnd1, pAnd2, pOr1, pOr2, pV, pVs, pA, pAs, pLs, pI, pF, pOpt, pIfs, En.at, En.put, get_v, get_r, list_v, list_iL, list_pL, list_fL, list_r, sub_v, sub_r, getAll, ownFree, tgIn, tgsIn, bindT_n, bindT_t, bindTs_nil, bindTs_cons, putAll, PR.bind, PR.val, O.toD, startE, frzL, c]
      · simp [pSs, pS, pO, pOs, pE, pEs, pAnd1, pAnd2, pOr1, pOr2, pV, pVs, pA, pAs, pLs, pI, pF, pOpt, pIfs, En.at, En.put, get_v, get_r, list_v, list_iL, list_pL, list_fL, list_r, sub_v, sub_r, getAll, ownFree, tgIn, tgsIn, bindT_n, bindT_t, bindTs_nil, bindTs_cons, putAll, PR.bind, PR.val, O.toD, startE, frzL, opX_int, opQ_mod c]
      · refine ih b (a % b) (by omega) (Int.emod_nonneg _ (by omega)) (by have := Int.emod_lt_of_pos a c; omega) ?_
        rw [gcd_step a b ha c]
        exact h
    · obtain rfl : b = 0 := by omega
      refine Runs.whF ?_ ?_
      · simp [pSs, pS, pO, pOs, pE, pEs, pAnd1, pAnd2, pOr1, pOr2, pV, pVs, pA, pAs, pLs, pI, pF, pOpt, pIfs, En.at, En.put, get_v, get_r, list_v, list_iL, list_pL, list_fL, list_r, sub_v, sub_r, getAll, ownFree, tgIn, tgsIn, bindT_n, bindT_t, bindTs_nil, bindTs_cons, putAll, PR.bind, PR.val, O.toD, startE, frzL]
      · simpa [Int.natAbs_of_nonneg ha] using h
theorem p_frac (hk : 1 ≤ k) (t u : Int) (hu : 0 < u) (hb : u.natAbs.log2 < 9000) : cd (CC k) 55 [.int t, .int u] = some (fr (Rat.divInt t u)) := by
  obtain ⟨k, rfl⟩ : ∃ j, k = j + 1 := ⟨k - 1, by omega⟩
  have hg : 0 < (Int.gcd t u : Int) := by
    have := Int.gcd_pos_of_ne_zero_right t (b := u) (by omega)
    omega
  have hd : divOk (Int.gcd t u) = true := by
    unfold divOk
    have h1 : Int.gcd t u ≤ u.natAbs := Nat.le_of_dvd (by omega) (Nat.gcd_dvd_right ..)
    simp only [Bool.and_eq_true, decide_eq_true_eq]
    refine ⟨hg, ?_⟩
    rw [Int.natAbs_natCast]
    exact Nat.lt_of_le_of_lt (log2_le h1) hb
  refine cdR t__law_frac [some (.frz (.int t)), some (.frz (.int u)), none, none] rfl rfl rfl rfl rfl ?_
  refine Runs.step (p1 := [some (.frz (.int t)), some (.frz (.int u)), some (.frz (.int u)), some (.frz (.int (absI t)))]) ?_ (Lf.rfl' _) ?_
  · simp [pSs, pS, pO, pOs, pE, pEs, pAnd1, pAnd2, pOr1, pOr2, pV, pVs, pA, pAs, pLs, pI, pF, pOpt, pIfs, En.at, En.put, get_v, get_r, list_v, list_iL, list_pL, list_fL, list_r, sub_v, sub_r, getAll, ownFree, tgIn, tgsIn, bindT_n, bindT_t, bindTs_nil, bindTs_cons, putAll, PR.bind, PR.val, O.toD, startE, frzL, opX]
  refine frac_loop _ (absI t).toNat u (absI t) (by omega) (absI_nonneg t) (Nat.le_refl _) ?_
  have e : Int.gcd u (absI t) = Int.gcd t u := by
    have := absI_gcd t u
    have h2 : absI u = u := by unfold absI; rw [if_neg (by omega)]
    rw [h2] at this
    rw [Int.gcd_comm, this]
  rw [e]
  refine Runs.last (o := .frz (.tup [.int (t / Int.gcd t u), .int (u / Int.gcd t u)])) (p1 := [some (.frz (.int t)), some (.frz (.int u)), some (.frz (.int (Int.gcd t u))), some (.frz (.int 0))]) ?_ ?_
  · simp [pSs, pS, pO, pOs, pE, pEs, pAnd1, pAnd2, pOr1, pOr2, pV, pVs, pA, pAs, pLs, pI, pF, pOpt, pIfs, En.at, En.put, get_v, get_r, list_v, list_iL, list_pL, list_fL, list_r, sub_v, sub_r, getAll, ownFree, tgIn, tgsIn, bindT_n, bindT_t, bindTs_nil, bindTs_cons, putAll, PR.bind, PR.val, O.toD, startE, frzL, opQ_fdiv hd]
  · rw [fr_pos hu]; rfl
theorem p_below (hk : 1 ≤ k) {p q : Rat} {A B : Nat} (hp : Sz A p) (hq : Sz B q) (h : A + B < 900000) : cd (CC k) 56 [fr p, fr q] = some (.bl (decide (p < q))) := by
  obtain ⟨k, rfl⟩ : ∃ j, k = j + 1 := ⟨k - 1, by omega⟩
  have m1 : opQ .mul (.int p.num) (.int q.den) = _ := opQ_mul (mul_ok hp.1 (by simpa using hq.2) (by omega))
  have m2 : opQ .mul (.int q.num) (.int p.den) = _ := opQ_mul (mul_ok hq.1 (by simpa using hp.2) (by omega))
  have e3 : decide (p.num * (q.den : Int) < q.num * (p.den : Int)) = decide (p < q) := decide_eq_decide.mpr (Rat.lt_iff p q).symm
  have s0 : ∀ q : Rat, subD (fr q) (.int 0) = some (.int q.num) := fun _ => rfl
  have s1 : ∀ q : Rat, subD (fr q) (.int 1) = some (.int q.den) := fun _ => rfl
  refine cd_of t__law_below rfl rfl rfl rfl ?_
  simp [pSs, pS, pO, pOs, pE, pEs, pAnd1, pAnd2, pOr1, pOr2, pV, pVs, pA, pAs, pLs, pI, pF, pOpt, pIfs, En.at, En.put, get_v, get_r, list_v, list_iL, list_pL, list_fL, list_r, sub_v, sub_r, getAll, ownFree, tgIn, tgsIn, bindT_n, bindT_t, bindTs_nil, bindTs_cons, putAll, PR.bind, PR.val, O.toD, startE, frzL, t__law_below, s0, s1, m1, m2, e3]
/-! exactly the same -/
mutual
def plain : Nat → D → Bool
  | _, .int _ => true
  | n + 1, .lst xs => plains n xs && decide (xs.length < 4000000)
  | n + 1, .tup xs => plains n xs && decide (xs.length < 4000000)
  | _, _ => false
def plains : Nat → List D → Bool
  | _, [] => true
  | n, x :: xs => plain n x && plains n xs
end
theorem plains_mem {n : Nat} : ∀ {xs : List D}, plains n xs = true → ∀ x ∈ xs, plain n x = true
  | [], _, x, h => by cases h
  | a :: xs, h, x, hx => by
    simp only [plains, Bool.and_eq_true] at h
    rcases List.mem_cons.mp hx with z | z
    · subst z; exact h.1
    · exact plains_mem h.2 x z
theorem exact_seq {xs : List D} {v : D} (hv : v = .lst xs ∨ v = .tup xs) (hl : xs.length < 4000000) (h : ∀ x ∈ xs, cd (CC k) 57 [x, x] = some (.bl true)) : cd (CC (k + 1)) 57 [v, v] = some (.bl true) := by
  have hlen : opX .len [v] = some (.int xs.length) := by rcases hv with rfl | rfl <;> rfl
  have hsub : ∀ i (hi : i < xs.length), subD v (.int (i : Int)) = some xs[i] := by
    intro i hi
    rcases hv with rfl | rfl
    · exact subD_lst hi
    · simp only [subD, ixAt_nat hi, Option.bind_some, List.getElem?_eq_getElem hi]
  have i1 : isiD [.list, .tuple] v = some true := by rcases hv with rfl | rfl <;> rfl
  have i2 : ∃ b, isiD [.list] v = some b := by rcases hv with rfl | rfl <;> exact ⟨_, rfl⟩
  have i3 : ∃ b, isiD [.tuple] v = some b := by rcases hv with rfl | rfl <;> exact ⟨_, rfl⟩
  obtain ⟨b2, i2⟩ := i2
  obtain ⟨b3, i3⟩ := i3
  have hne : ∀ b : Bool, opC .ne (.bl b) (.bl b) = some false := by
    intro b; cases b <;> decide
  have hee : opC .eq (.lst []) (.lst []) = some true := by decide
  clear hv
  refine cdR t__law_exact [some (.frz v), some (.frz v), none] rfl rfl rfl rfl rfl ?_
  refine Runs.last (o := .frz (.bl true)) (p1 := [some (.frz v), some (.frz v), none]) ?_ rfl
  simp [pSs, pS, pO, pOs, pE, pEs, pAnd1, pAnd2, pOr1, pOr2, pV, pVs, pA, pAs, pLs, pI, pF, pOpt, pIfs, En.at, En.put, get_v, get_r, list_v, list_iL, list_pL, list_fL, list_r, sub_v, sub_r, getAll, ownFree, tgIn, tgsIn, bindT_n, bindT_t, bindTs_nil, bindTs_cons, putAll, PR.bind, PR.val, O.toD, startE, frzL, i1, i2, i3, hne, hlen, rngA_nat hl]
  rw [mfM_enc (enc := iD) (p := fun _ => false) (g := iD)]
  · have hf : (List.range xs.length).filter (fun _ => false) = [] := by simp [List.filter_eq_nil_iff]
    rw [hf]
    simp [pSs, pS, pO, pOs, pE, pEs, pAnd1, pAnd2, pOr1, pOr2, pV, pVs, pA, pAs, pLs, pI, pF, pOpt, pIfs, En.at, En.put, get_v, get_r, list_v, list_iL, list_pL, list_fL, list_r, sub_v, sub_r, getAll, ownFree, tgIn, tgsIn, bindT_n, bindT_t, bindTs_nil, bindTs_cons, putAll, PR.bind, PR.val, O.toD, startE, frzL, hee]
  · intro i hi
    rw [List.mem_range] at hi
    simp [pSs, pS, pO, pOs, pE, pEs, pAnd1, pAnd2, pOr1, pOr2, pV, pVs, pA, pAs, pLs, pI, pF, pOpt, pIfs, En.at, En.put, get_v, get_r, list_v, list_iL, list_pL, list_fL, list_r, sub_v, sub_r, getAll, ownFree, tgIn, tgsIn, bindT_n, bindT_t, bindTs_nil, bindTs_cons, putAll, PR.bind, PR.val, O.toD, startE, frzL, iD_def, hsub i hi, h xs[i] (List.getElem_mem hi)]
theorem p_exact : ∀ (n : Nat) (v : D), plain n v = true → ∀ k, n + 1 ≤ k → cd (CC k) 57 [v, v] = some (.bl true) := by
  intro n
  induction n with
  | zero =>
    intro v hv k hk
    obtain ⟨k, rfl⟩ : ∃ j, k = j + 1 := ⟨k - 1, by omega⟩
    cases v with
    | int i =>
      have h1 : isiD [.list, .tuple] (.int i) = some false := rfl
      have h2 : isiD [.str] (.int i) = some false := rfl
      have h3 : opC .is_ (.int i) .non = some false := rfl
      refine cd_of t__law_exact rfl rfl rfl rfl ?_
      simp [pSs, pS, pO, pOs, pE, pEs, pAnd1, pAnd2, pOr1, pOr2, pV, pVs, pA, pAs, pLs, pI, pF, pOpt, pIfs, En.at, En.put, get_v, get_r, list_v, list_iL, list_pL, list_fL, list_r, sub_v, sub_r, getAll, ownFree, tgIn, tgsIn, bindT_n, bindT_t, bindTs_nil, bindTs_cons, putAll, PR.bind, PR.val, O.toD, startE, frzL, t__law_exact, h1, h2, h3]
    | _ => cases hv
  | succ n ih =>
    intro v hv k hk
    obtain ⟨k, rfl⟩ : ∃ j, k = j + 1 := ⟨k - 1, by omega⟩
    cases v with
    | int i => exact ih (.int i) (by cases n <;> rfl) (k + 1) (by omega)
    | lst xs =>
      simp only [plain, Bool.and_eq_true, decide_eq_true_eq] at hv
      exact exact_seq (.inl rfl) hv.2 fun x hx => ih x (plains_mem hv.1 x hx) k (by omega)
    | tup xs =>
      simp only [plain, Bool.and_eq_true, decide_eq_true_eq] at hv
      exact exact_seq (.inr rfl) hv.2 fun x hx => ih x (plains_mem hv.1 x hx) k (by omega)
    | _ => cases hv
end TL

set_option maxRecDepth 100000
namespace TL
open PySem
variable {k : Nat}
/-! what is drawn changes the generator -/
theorem ev_rand (hk : 2 ≤ k) {e : En} {j C b : Nat} {o : O} {t : TE} (hg : e.at j = some o) (hG : Gen C o) (hC : C < 900000) (h1 : 1 ≤ b) (h2 : b < 10) (ht : evalE (CC k) t e = .ok (.int b) e) : ∃ (x : Nat) (o' : O), evalE (CC k) (.call 52 [.b j, .d t] []) e = .ok (.int x) (e.put j o') ∧ x < b ∧ Gen (C + 1) o' := by
  obtain ⟨x, o', hc, hx, hG'⟩ := c_random hk hG hC h1 h2
  refine ⟨x, o', ?_, hx, hG'⟩
  simp [evalE, evalAs, evalA, hg, ht, Res.bind, doCall, lent, getAll, AV.get, hc, putOuts, ofOpt, O.toD]
theorem loopC_ex {α : Type} {f : D → En → Res (Option α)} {I : Nat → En → Prop} {P : α → Prop} {m M : Nat} (h : ∀ c d e, c < M → I c e → ∃ x e', f d e = .ok (some x) e' ∧ I (c + m) e' ∧ P x) : ∀ (ds : List D) (c : Nat) (e : En), c + m * ds.length < M → I c e → ∃ xs e', loopC f ds e = .ok xs e' ∧ xs.length = ds.length ∧ (∀ x ∈ xs, P x) ∧ I (c + m * ds.length) e'
  | [], c, e, hM, hI => ⟨[], e, rfl, rfl, (fun x hx => by cases hx), (by simpa using hI)⟩
  | d :: ds, c, e, hM, hI => by
    rw [List.length_cons, Nat.mul_succ] at hM
    obtain ⟨x, e1, h1, h2, h3⟩ := h c d e (by omega) hI
    obtain ⟨xs, e2, g1, g2, g3, g4⟩ := loopC_ex h ds (c + m) e1 (by omega) h2
    refine ⟨x :: xs, e2, ?_, by simp [g2], ?_, ?_⟩
    · rw [loopC, h1]
      simp only [Res.bind]
      rw [g1]
    · intro y hy
      rcases List.mem_cons.mp hy with z | z
      · subst z; exact h3
      · exact g3 y z
    · rw [List.length_cons, Nat.mul_succ]
      have : c + (m * ds.length + m) = c + m + m * ds.length := by omega
      rw [this]; exact g4
/-- a comprehension whose items each change the generator -/
theorem comp_ex {C : Cfg} {elt : TE} {tg : TT} {it : TI} {own : List Nat} {I : Nat → En → Prop} {P : D → Prop} {m M : Nat} (h : ∀ c d e, c < M → I c e → ∃ x e1 e2, bindT tg d e = some e1 ∧ evalE C elt e1 = .ok x e2 ∧ I (c + m) (wipeE e2 own) ∧ P x) {e e0 : En} {ds : List D} {c : Nat} (hi : evalI C it e = .ok ds e0) (hI : I c (wipeE e0 own)) (hM : c + m * ds.length < M) : ∃ xs e', evalF C (.comp elt tg it [] own) e = .ok xs e' ∧ xs.length = ds.length ∧ (∀ x ∈ xs, P x) ∧ I (c + m * ds.length) e' := by
  obtain ⟨xs, e', h1, h2, h3, h4⟩ := loopC_ex (f := fun d e => match bindT tg d e with
      | none => .stuck
      | some e => (evalIfs C [] e).bind fun b e => if b then (evalE C elt e).bind fun x e => .ok (some x) (wipeE e own) else .ok none (wipeE e own)) (I := I) (P := P) (m := m) (M := M) (fun c d e hc hI => by
      obtain ⟨x, e1, e2, g1, g2, g3, g4⟩ := h c d e hc hI
      refine ⟨x, wipeE e2 own, ?_, g3, g4⟩
      simp only [g1, evalIfs, Res.bind, if_true, g2]) ds c (wipeE e0 own) hM hI
  refine ⟨xs, e', ?_, h2, h3, h4⟩
  rw [evalF, hi]
  have := congrArg noExc h1
  exact this
theorem gather_fr {Q : Rat → Prop} : ∀ {xs : List D}, (∀ x ∈ xs, ∃ q, x = fr q ∧ Q q) → ∃ l : List Rat, xs = l.map fr ∧ ∀ q ∈ l, Q q
  | [], _ => ⟨[], rfl, fun q hq => by cases hq⟩
  | x :: xs, h => by
    obtain ⟨q, h1, h2⟩ := h x List.mem_cons_self
    obtain ⟨l, h3, h4⟩ := gather_fr fun y hy => h y (List.mem_cons_of_mem _ hy)
    refine ⟨q :: l, by rw [h1, h3]; rfl, fun p hp => ?_⟩
    rcases List.mem_cons.mp hp with z | z
    · subst z; exact h2
    · exact h4 p z
theorem gather_rg {Q : Rat → Prop} {n : Nat} : ∀ {xs : List D}, (∀ x ∈ xs, ∃ l : List Rat, x = fL l ∧ l.length = n ∧ ∀ q ∈ l, Q q) → ∃ ps : List (Nat → Rat), xs = (ps.map (rgL n)).map fL ∧ ∀ p ∈ ps, ∀ s, s < n → Q (p s)
  | [], _ => ⟨[], rfl, fun q hq => by cases hq⟩
  | x :: xs, h => by
    obtain ⟨l, h1, hl, h2⟩ := h x List.mem_cons_self
    obtain ⟨ps, h3, h4⟩ := gather_rg fun y hy => h y (List.mem_cons_of_mem _ hy)
    have e : rgL n (fun s => l.getD s 0) = l := by
      unfold rgL
      apply List.ext_getElem
      · simp [hl]
      · intro i a b; simp [b]
    refine ⟨(fun s => l.getD s 0) :: ps, by rw [h1, h3, List.map_cons, List.map_cons, e], fun p hp => ?_⟩
    rcases List.mem_cons.mp hp with z | z
    · subst z
      intro s hs
      have : s < l.length := by omega
      simp only [List.getD_eq_getElem?_getD, List.getElem?_eq_getElem this, Option.getD_some]
      exact h2 _ (List.getElem_mem this)
    · exact h4 p z
theorem gather_iD {Q : Nat → Prop} : ∀ {xs : List D}, (∀ x ∈ xs, ∃ q : Nat, x = .int q ∧ Q q) → ∃ l : List Nat, xs = l.map iD ∧ ∀ q ∈ l, Q q
  | [], _ => ⟨[], rfl, fun q hq => by cases hq⟩
  | x :: xs, h => by
    obtain ⟨q, h1, h2⟩ := h x List.mem_cons_self
    obtain ⟨l, h3, h4⟩ := gather_iD fun y hy => h y (List.mem_cons_of_mem _ hy)
    refine ⟨q :: l, by rw [h1, h3]; rfl, fun p hp => ?_⟩
    rcases List.mem_cons.mp hp with z | z
    · subst z; exact h2
    · exact h4 p z
theorem ev_tup2 {C : Cfg} {a b : TE} {e e1 e2 : En} {x y : D} (h1 : evalE C a e = .ok x e1) (h2 : evalE C b e1 = .ok y e2) : evalE C (.tup [.e a, .e b]) e = .ok (.tup [x, y]) e2 := by
  simp [evalE, evalLs, h1, h2, Res.bind]
theorem ex_ret {C : Cfg} {t : TE} {e e1 : En} {x : D} (h : evalE C t e = .ok x e1) : execs C [.ret (.e t)] e = .ret (.frz x) e1 := by
  simp [execs, exec, evalO, h, Res.bind, Res.st, FRes.bind]
theorem ev_f {C : Cfg} {t : TF} {e e1 : En} {xs : List D} (h : evalF C t e = .ok xs e1) : evalE C (.f t) e = .ok (.lst xs) e1 := by
  simp [evalE, h, Res.bind]
theorem ev_bin {C : Cfg} {op : BOp} {a b : TE} {e e1 e2 : En} {x y z : D} (h1 : evalE C a e = .ok x e1) (h2 : evalE C b e1 = .ok y e2) (h : opB op x y = some z) : evalE C (.bin op (.e a) (.e b)) e = .ok z e2 := by
  simp [evalE, evalP, h1, h2, Res.bind, PV.get, h, ofOpt]
/-! a game -/
theorem game_elt (hk : 2 ≤ k) {C : Nat} {o : O} (hG : Gen C o) (hC : C < 800000) (N M o3 o4 : Option O) : ∃ (q : Rat) (o' : O), evalE (CC k) (.call 55 [.d (.bin .sub (.e (.call 52 [.b 0, .d (.int 9)] [])) (.e (.int 4))), .d (.bin .add (.e (.int 1)) (.e (.call 52 [.b 0, .d (.int 2)] [])))] []) [some o, N, M, o3, o4] = .ok (fr q) [some o', N, M, o3, o4] ∧ Gen (C + 2) o' ∧ Sz 5 q := by
  obtain ⟨x, o1, hx, hx2, hG1⟩ := ev_rand (k := k) hk (e := [some o, N, M, o3, o4]) (j := 0) (b := 9) (t := .int 9) rfl hG (by omega) (by omega) (by omega) rfl
  obtain ⟨y, o2, hy, hy2, hG2⟩ := ev_rand (k := k) hk (e := [some o1, N, M, o3, o4]) (j := 0) (b := 2) (t := .int 2) rfl hG1 (by omega) (by omega) (by omega) rfl
  have hu : (1 + (y : Int)).natAbs.log2 ≤ 5 := by
    have := log2_le (a := (1 + (y : Int)).natAbs) (b := 2 ^ 5) (by omega)
    rwa [Nat.log2_two_pow] at this
  have ht : ((x : Int) - 4).natAbs.log2 ≤ 5 := by
    have := log2_le (a := ((x : Int) - 4).natAbs) (b := 2 ^ 5) (by omega)
    rwa [Nat.log2_two_pow] at this
  have hf := p_frac (k := k) (by omega) ((x : Int) - 4) (1 + (y : Int)) (by omega) (by omega)
  unfold cd at hf
  simp only [Option.map_eq_some_iff] at hf
  obtain ⟨of, h4, h5⟩ := hf
  refine ⟨Rat.divInt ((x : Int) - 4) (1 + (y : Int)), o2, ?_, hG2, ?_⟩
  · have hx : evalE (CC k) (.call 52 [.b 0, .d (.int 9)] []) [some o, N, M, o3, o4] = .ok (.int x) [some o1, N, M, o3, o4] := hx
    have hy : evalE (CC k) (.call 52 [.b 0, .d (.int 2)] []) [some o1, N, M, o3, o4] = .ok (.int y) [some o2, N, M, o3, o4] := hy
    rw [evalE]
    have ha : evalAs (CC k) [.d (.bin .sub (.e (.call 52 [.b 0, .d (.int 9)] [])) (.e (.int 4))), .d (.bin .add (.e (.int 1)) (.e (.call 52 [.b 0, .d (.int 2)] [])))] [some o, N, M, o3, o4] = .ok ([D.int ((x : Int) - 4), D.int (1 + (y : Int))].map AV.v) [some o2, N, M, o3, o4] := by
      rw [evalAs, evalA, evalE, evalP, hx]
      simp only [Res.bind]
      rw [evalP, evalE]
      simp only [Res.bind, PV.get, Option.bind_some, opB, ofOpt]
      rw [evalAs, evalA, evalE, evalP, evalE]
      simp only [Res.bind]
      rw [evalP, hy]
      simp only [Res.bind, PV.get, Option.bind_some, opB, ofOpt, evalAs, List.map_cons, List.map_nil]
    rw [ha]
    simp only [Res.bind]
    rw [cdO_call h4]
    simp only [h5]
  · have e : (1 + (y : Int)) = ((1 + y : Nat) : Int) := by omega
    rw [e]
    exact Sz.of ((x : Int) - 4) (1 + y) rfl (by omega) ht (by rw [e, Int.natAbs_natCast] at hu; exact hu)
theorem game_row (hk : 2 ≤ k) {n C : Nat} {o : O} (hn : n ≤ 6) (hG : Gen C o) (hC : C < 700000) (M o3 : Option O) : ∃ (l : List Rat) (o' : O), evalE (CC k) (.f (.comp (.call 55 [.d (.bin .sub (.e (.call 52 [.b 0, .d (.int 9)] [])) (.e (.int 4))), .d (.bin .add (.e (.int 1)) (.e (.call 52 [.b 0, .d (.int 2)] [])))] []) (.n 4) (.rng1 (.var 1)) [] [4])) [some o, some (.frz (.int n)), M, o3, none] = .ok (fL l) [some o', some (.frz (.int n)), M, o3, none] ∧ l.length = n ∧ (∀ q ∈ l, Sz 5 q) ∧ Gen (C + 2 * n) o' := by
  have hI : evalI (CC k) (.rng1 (.var 1)) [some o, some (.frz (.int n)), M, o3, none] = .ok ((List.range n).map iD) [some o, some (.frz (.int n)), M, o3, none] := by
    refine pI_ok ?_
    simp [pSs, pS, pO, pOs, pE, pEs, pAnd1, pAnd2, pOr1, pOr2, pV, pVs, pA, pAs, pLs, pI, pF, pOpt, pIfs, En.at, En.put, get_v, get_r, list_v, list_iL, list_pL, list_fL, list_r, sub_v, sub_r, getAll, ownFree, tgIn, tgsIn, bindT_n, bindT_t, bindTs_nil, bindTs_cons, putAll, PR.bind, PR.val, O.toD, startE, frzL, rngA_nat (show n < 4000000 by omega)]
  obtain ⟨xs, e', h1, h2, h3, h4⟩ := comp_ex (C := CC k) (M := 800000) (m := 2) (own := [4]) (tg := .n 4) (elt := .call 55 [.d (.bin .sub (.e (.call 52 [.b 0, .d (.int 9)] [])) (.e (.int 4))), .d (.bin .add (.e (.int 1)) (.e (.call 52 [.b 0, .d (.int 2)] [])))] [])
    (I := fun c e => ∃ o, e = [some o, some (.frz (.int n)), M, o3, none] ∧ Gen c o) (P := fun x => ∃ q, x = fr q ∧ Sz 5 q) (fun c d e hc hI => by
      obtain ⟨o1, rfl, hG1⟩ := hI
      obtain ⟨q, o2, g1, g2, g3⟩ := game_elt (k := k) hk hG1 hc (some (.frz (.int n))) M o3 (some (.frz d))
      exact ⟨fr q, [some o1, some (.frz (.int n)), M, o3, some (.frz d)], [some o2, some (.frz (.int n)), M, o3, some (.frz d)], rfl, g1, ⟨o2, rfl, g2⟩, q, rfl, g3⟩) hI (c := C) ⟨o, rfl, hG⟩ (by simp; omega)
  obtain ⟨o', rfl, hG'⟩ := h4
  obtain ⟨l, hl, hq⟩ := gather_fr h3
  have hlen : l.length = n := by
    have := congrArg List.length hl
    simp at this h2
    omega
  refine ⟨l, o', ?_, hlen, hq, by simpa using hG'⟩
  rw [evalE, h1]
  simp only [Res.bind]
  rw [hl]
  rfl
theorem c_game (hk : 3 ≤ k) {n m C : Nat} {o : O} (hn : n ≤ 6) (hm : m ≤ 8) (hG : Gen C o) (hC : C < 600000) : ∃ (ps : List (Nat → Rat)) (o' : O), CT k 58 [o, .frz (.int n), .frz (.int m)] = .ok (.frz (gmD (ps.map (rgL n)))) [some o', none, none] ∧ ps.length = m ∧ (∀ p ∈ ps, ∀ s, s < n → Sz 5 (p s)) ∧ Gen (C + 100) o' := by
  obtain ⟨k, rfl⟩ : ∃ j, k = j + 1 := ⟨k - 1, by omega⟩
  have hI : evalI (CC k) (.rng1 (.var 2)) [some o, some (.frz (.int n)), some (.frz (.int m)), none, none] = .ok ((List.range m).map iD) [some o, some (.frz (.int n)), some (.frz (.int m)), none, none] := by
    refine pI_ok ?_
    simp [pSs, pS, pO, pOs, pE, pEs, pAnd1, pAnd2, pOr1, pOr2, pV, pVs, pA, pAs, pLs, pI, pF, pOpt, pIfs, En.at, En.put, get_v, get_r, list_v, list_iL, list_pL, list_fL, list_r, sub_v, sub_r, getAll, ownFree, tgIn, tgsIn, bindT_n, bindT_t, bindTs_nil, bindTs_cons, putAll, PR.bind, PR.val, O.toD, startE, frzL, rngA_nat (show m < 4000000 by omega)]
  obtain ⟨xs, e', h1, h2, h3, h4⟩ := comp_ex (C := CC k) (M := 700000) (m := 2 * n) (own := [3]) (tg := .n 3) (elt := .f (.comp (.call 55 [.d (.bin .sub (.e (.call 52 [.b 0, .d (.int 9)] [])) (.e (.int 4))), .d (.bin .add (.e (.int 1)) (.e (.call 52 [.b 0, .d (.int 2)] [])))] []) (.n 4) (.rng1 (.var 1)) [] [4]))
    (I := fun c e => ∃ o, e = [some o, some (.frz (.int n)), some (.frz (.int m)), none, none] ∧ Gen c o) (P := fun x => ∃ l : List Rat, x = fL l ∧ l.length = n ∧ ∀ q ∈ l, Sz 5 q) (fun c d e hc hI => by
      obtain ⟨o1, rfl, hG1⟩ := hI
      obtain ⟨l, o2, g1, g2, g3, g4⟩ := game_row (k := k) (by omega) hn hG1 hc (some (.frz (.int m))) (some (.frz d))
      exact ⟨fL l, [some o1, some (.frz (.int n)), some (.frz (.int m)), some (.frz d), none], [some o2, some (.frz (.int n)), some (.frz (.int m)), some (.frz d), none], rfl, g1, ⟨o2, rfl, g4⟩, l, rfl, g2, g3⟩) hI (c := C) ⟨o, rfl, hG⟩ (by
        simp
        have : 2 * n * m ≤ 2 * 6 * 8 := Nat.mul_le_mul (by omega) hm
        omega)
  obtain ⟨o', rfl, hG'⟩ := h4
  obtain ⟨ps, hl, hq⟩ := gather_rg h3
  have hlen : ps.length = m := by
    have := congrArg List.length hl
    simp at this h2
    omega
  refine ⟨ps, o', ?_, hlen, hq, hG'.mono (by
    simp
    have : 2 * n * m ≤ 2 * 6 * 8 := Nat.mul_le_mul (by omega) hm
    omega)⟩
  rw [ct_eq k 58 _ (d := t__law_game) rfl]
  refine run_ret (e := [some o', some (.frz (.int n)), some (.frz (.int m)), none, none]) ?_ rfl ⟨rfl, rfl⟩ rfl
  show execs (CC k) (.ret (.e (.tup [.e (.str "game"), .e (.f _)])) :: []) [some o, some (.frz (.int n)), some (.frz (.int m)), none, none] = _
  have e3 : evalE (CC k) (.f (.comp (.f (.comp (.call 55 [.d (.bin .sub (.e (.call 52 [.b 0, .d (.int 9)] [])) (.e (.int 4))), .d (.bin .add (.e (.int 1)) (.e (.call 52 [.b 0, .d (.int 2)] [])))] []) (.n 4) (.rng1 (.var 1)) [] [4])) (.n 3) (.rng1 (.var 2)) [] [3])) [some o, some (.frz (.int n)), some (.frz (.int m)), none, none] = .ok (.lst ((ps.map (rgL n)).map fL)) [some o', some (.frz (.int n)), some (.frz (.int m)), none, none] := by
    rw [ev_f h1, hl]
  exact ex_ret (ev_tup2 (by rw [evalE]) e3)
end TL

set_option maxRecDepth 100000
namespace TL
open PySem
variable {k : Nat}
theorem ex_asg {C : Cfg} {j : Nat} {a : TO} {ss : List TS} {e e1 : En} {x : O} (h : evalO C a e = .ok x e1) : execs C (.asg j a :: ss) e = execs C ss (e1.put j x) := by
  simp [execs, exec, h, Res.st, FRes.bind]
theorem ev_oe {C : Cfg} {t : TE} {e e1 : En} {x : D} (h : evalE C t e = .ok x e1) : evalO C (.e t) e = .ok (.frz x) e1 := by
  simp [evalO, h, Res.bind]
theorem ev_of {C : Cfg} {t : TF} {e e1 : En} {xs : List D} (h : evalF C t e = .ok xs e1) : evalO C (.f t) e = .ok (.lst (xs.map .frz)) e1 := by
  simp [evalO, h, Res.bind]
/-! a belief above 0 -/
theorem sum_over (T : Rat) : ∀ (l : List Nat) (x : Rat), (l.map fun c => ((c : Nat) : Rat) / T).foldl (· + ·) x = x + ((l.sum : Nat) : Rat) / T
  | [], x => by simp [Rat.div_def, Rat.zero_mul, Rat.add_zero]
  | a :: l, x => by
    rw [List.map_cons, List.foldl_cons, sum_over T l, List.sum_cons]
    have : ((a + l.sum : Nat) : Rat) = (a : Rat) + (l.sum : Rat) := by simp
    rw [this, Rat.div_def, Rat.div_def, Rat.div_def]
    grind
theorem div_nat (c T : Nat) : Rat.divInt (c : Int) (T : Int) = (c : Rat) / (T : Rat) := by
  rw [Rat.divInt_eq_div]
  rfl
theorem c_full (hk : 2 ≤ k) {n C : Nat} {o : O} (h1 : 1 ≤ n) (h2 : n ≤ 6) (hG : Gen C o) (hC : C < 600000) : ∃ (b : Nat → Rat) (x o' : O), CT (k + 1) 60 [o, .frz (.int n)] = .ok x [some o', none] ∧ x.toD = fL (rgL n b) ∧ FulOk 5 n b ∧ Gen (C + 10) o' := by
  have hI : evalI (CC k) (.rng1 (.var 1)) [some o, some (.frz (.int n)), none, none, none] = .ok ((List.range n).map iD) [some o, some (.frz (.int n)), none, none, none] := by
    refine pI_ok ?_
    simp [pSs, pS, pO, pOs, pE, pEs, pAnd1, pAnd2, pOr1, pOr2, pV, pVs, pA, pAs, pLs, pI, pF, pOpt, pIfs, En.at, En.put, get_v, get_r, list_v, list_iL, list_pL, list_fL, list_r, sub_v, sub_r, getAll, ownFree, tgIn, tgsIn, bindT_n, bindT_t, bindTs_nil, bindTs_cons, putAll, PR.bind, PR.val, O.toD, startE, frzL, rngA_nat (show n < 4000000 by omega)]
  obtain ⟨xs, e', g1, g2, g3, g4⟩ := comp_ex (C := CC k) (M := 700000) (m := 1) (own := [3]) (tg := .n 3) (elt := .bin .add (.e (.int 1)) (.e (.call 52 [.b 0, .d (.int 3)] [])))
    (I := fun c e => ∃ o, e = [some o, some (.frz (.int n)), none, none, none] ∧ Gen c o) (P := fun x => ∃ q : Nat, x = .int q ∧ (1 ≤ q ∧ q ≤ 3)) (fun c d e hc hI => by
      obtain ⟨o1, rfl, hG1⟩ := hI
      obtain ⟨y, o2, hy, hy2, hG2⟩ := ev_rand (k := k) hk (e := [some o1, some (.frz (.int n)), none, some (.frz d), none]) (j := 0) (b := 3) (t := .int 3) rfl hG1 (by omega) (by omega) (by omega) rfl
      refine ⟨.int ((1 + y : Nat) : Int), [some o1, some (.frz (.int n)), none, some (.frz d), none], [some o2, some (.frz (.int n)), none, some (.frz d), none], rfl, ?_, ⟨o2, rfl, hG2⟩, 1 + y, rfl, by omega, by omega⟩
      refine ev_bin (by rw [evalE]) hy ?_
      show some (D.int (1 + (y : Int))) = _
      rw [Int.natCast_add]; rfl) hI (c := C) ⟨o, rfl, hG⟩ (by simp; omega)
  obtain ⟨o', rfl, hG'⟩ := g4
  obtain ⟨l, hl, hq⟩ := gather_iD g3
  have hlen : l.length = n := by
    have := congrArg List.length hl
    simp at this g2
    omega
  subst hl
  have hT1 : l.length ≤ l.sum := by
    clear g1 g3 g2 hlen
    induction l with
    | nil => simp
    | cons a l ih =>
      have := (hq a List.mem_cons_self).1
      have := ih fun q hq' => hq q (List.mem_cons_of_mem _ hq')
      simp
      omega
  have hT2 : l.sum ≤ 3 * l.length := by
    clear g1 g3 g2 hlen hT1
    induction l with
    | nil => simp
    | cons a l ih =>
      have := (hq a List.mem_cons_self).2
      have := ih fun q hq' => hq q (List.mem_cons_of_mem _ hq')
      simp
      omega
  have hrg : l = (List.range n).map fun s => l.getD s 0 := by
    apply List.ext_getElem
    · simp [hlen]
    · intro i a b; simp [a]
  have hTpos : (0 : Rat) < (l.sum : Rat) := by
    have : 0 < l.sum := by omega
    exact_mod_cast this
  have hlg : ∀ x : Nat, x ≤ 18 → x.log2 ≤ 5 := by
    intro x hx
    have := log2_le (a := x) (b := 2 ^ 5) (by omega)
    rwa [Nat.log2_two_pow] at this
  have hb : FulOk 5 n fun s => ((l.getD s 0 : Nat) : Rat) / (l.sum : Rat) := by
    refine ⟨fun s hs => ?_, fun s hs => ?_, ?_, by omega, h1, h2⟩
    · have hs' : s < l.length := by omega
      have h3 := hq l[s] (List.getElem_mem hs')
      rw [List.getD_eq_getElem?_getD, List.getElem?_eq_getElem hs', Option.getD_some]
      exact Sz.of (l[s] : Nat) l.sum (div_nat _ _).symm (by omega) (by rw [Int.natAbs_natCast]; exact hlg _ (by omega)) (hlg _ (by omega))
    · have hs' : s < l.length := by omega
      have h3 := hq l[s] (List.getElem_mem hs')
      rw [List.getD_eq_getElem?_getD, List.getElem?_eq_getElem hs', Option.getD_some, Rat.div_def]
      refine Rat.mul_pos ?_ (Rat.inv_pos.mpr hTpos)
      have : 0 < l[s] := by omega
      exact_mod_cast this
    · rw [← sumQ_range]
      have e : (List.range n).map (fun s => ((l.getD s 0 : Nat) : Rat) / (l.sum : Rat)) = l.map fun c => ((c : Nat) : Rat) / (l.sum : Rat) := by
        conv => rhs; rw [hrg]
        rw [List.map_map]
        apply List.map_congr_left
        intro s hs
        simp only [Function.comp]
        rw [← hrg]
      rw [e]
      unfold sumQ
      rw [sum_over, Rat.zero_add, Rat.div_def]
      exact Rat.mul_inv_cancel _ (fun z => by rw [z] at hTpos; exact absurd hTpos (by decide))
  -- the rest
  have hrun : pSs (CC k) [.ret (.f (.comp (.call 55 [.d (.var 4), .d (.blt .sum [.e (.var 2)])] []) (.n 4) (.seq (.var 2)) [] [4]))] [some o', some (.frz (.int n)), some (.frz (iL l)), none, none] = some (.ret (.lst ((l.map fun (c : Nat) => fr (Rat.divInt (c : Int) (l.sum : Int))).map .frz)) [some o', some (.frz (.int n)), some (.frz (iL l)), none, none]) := by
    have hs : opX .sum [iL l] = some (.int (l.sum : Nat)) := by
      show (sumI (l.map iD)).map D.int = _
      rw [sumI_iD]; rfl
    simp [pSs, pS, pO, pOs, pE, pEs, pAnd1, pAnd2, pOr1, pOr2, pV, pVs, pA, pAs, pLs, pI, pF, pOpt, pIfs, En.at, En.put, get_v, get_r, list_v, list_iL, list_pL, list_fL, list_r, sub_v, sub_r, getAll, ownFree, tgIn, tgsIn, bindT_n, bindT_t, bindTs_nil, bindTs_cons, putAll, PR.bind, PR.val, O.toD, startE, frzL, hs]
    rw [mfM_all (enc := iD) (g := fun (c : Nat) => fr (Rat.divInt (c : Int) (l.sum : Int)))]
    · simp
    · intro c hc
      have h3 := hq c hc
      have hf := p_frac (k := k) (by omega) (c : Int) ((l.sum : Nat) : Int) (by omega) (by rw [Int.natAbs_natCast]; have := hlg l.sum (by omega); omega)
      simp [pSs, pS, pO, pOs, pE, pEs, pAnd1, pAnd2, pOr1, pOr2, pV, pVs, pA, pAs, pLs, pI, pF, pOpt, pIfs, En.at, En.put, get_v, get_r, list_v, list_iL, list_pL, list_fL, list_r, sub_v, sub_r, getAll, ownFree, tgIn, tgsIn, bindT_n, bindT_t, bindTs_nil, bindTs_cons, putAll, PR.bind, PR.val, O.toD, startE, frzL, iD_def, hf]
  have hL : Lf [some o', some (.frz (.int n)), some (.frz (iL l)), none, none] [some o', some (.frz (.int n)), some (.lst ((l.map iD).map .frz)), none, none] := lf_frz [some o', some (.frz (.int n))] [none, none] (l.map iD)
  obtain ⟨e2, x, a1, a2, L2⟩ := pSs_lf hL hrun
  have he0 : e2[0]? = some (some o') := by
    obtain ⟨g, s, c, rfl, _⟩ := hG'
    rcases L2 0 with z | ⟨ds, z, _⟩ | ⟨z, _⟩
    · exact z.symm
    · cases z
    · cases z
  refine ⟨fun s => ((l.getD s 0 : Nat) : Rat) / (l.sum : Rat), x, o', ?_, ?_, hb, hG'.mono (by simp; omega)⟩
  · rw [ct_eq k 60 _ (d := t__law_full) rfl]
    refine run_ret (e := e2) ?_ rfl ⟨rfl, rfl⟩ ?_
    · show execs (CC k) (.asg 2 (.f _) :: _) [some o, some (.frz (.int n)), none, none, none] = _
      rw [ex_asg (ev_of g1)]
      exact a1
    · have hlen2 := L2.len
      simp at hlen2
      cases e2 with
      | nil => cases he0
      | cons y e2 =>
        cases e2 with
        | nil => simp at hlen2
        | cons z e2 =>
          simp only [List.getElem?_cons_zero, Option.some.injEq] at he0
          subst he0
          show outsOf [true, false] _ = _
          simp [outsOf]
  · rw [a2]
    simp only [O.toD, toDs_frz]
    unfold fL rgL
    rw [List.map_map]
    refine congrArg D.lst ?_
    have key : ∀ F : Nat → D, l.map F = (List.range n).map fun s => F (l.getD s 0) := by
      intro F
      conv => lhs; rw [hrg]
      rw [List.map_map]
      rfl
    rw [key]
    apply List.map_congr_left
    intro s hs
    simp only [Function.comp]
    rw [div_nat]
end TL

set_option maxRecDepth 100000
namespace TL
open PySem
variable {k : Nat}
/-! parts drawn -/
theorem grp_put {m : Nat} {r r' : Nat → Nat → Bool} (hr : Eqv r) (hr' : Eqv r') (hs : ∀ s t, s < m → t < m → r' s t = r s t) {a : Nat} (ha : a < (reps m r).length) (hm : r' ((reps m r)[a]) m = true) : grp (m + 1) r' = (grp m r).set a ((grp m r)[a]'(by unfold grp; simpa using ha) ++ [m]) := by
  have hq := (mem_reps.mp (List.getElem_mem ha)).1
  rw [grp_old ⟨(reps m r)[a], hq, hm⟩]
  have e1 : reps m r' = reps m r := by
    unfold reps
    apply List.filter_congr
    intro s h
    rw [List.mem_range] at h
    rw [Bool.eq_iff_iff, isRep_iff, isRep_iff]
    constructor <;> intro g t ht
    · rw [← hs t s (by omega) h]; exact g t ht
    · rw [hs t s (by omega) h]; exact g t ht
  have e2 : ∀ q, q < m → cls m r' q = cls m r q := by
    intro q hq
    unfold cls
    apply List.filter_congr
    intro s h
    rw [List.mem_range] at h
    exact hs q s hq h
  rw [e1]
  apply List.ext_getElem
  · unfold grp; simp
  · intro i h1 h2
    have hi : i < (reps m r).length := by simpa using h1
    have hqi := (mem_reps.mp (List.getElem_mem hi)).1
    rw [List.getElem_map, List.getElem_set]
    by_cases c : a = i
    · subst c
      rw [if_pos hm, if_pos rfl, e2 _ hqi]
      unfold grp
      simp
    · have hn : r' ((reps m r)[i]) m = false := by
        cases z : r' ((reps m r)[i]) m with
        | false => rfl
        | true =>
          have h3 : r ((reps m r)[a]) ((reps m r)[i]) = true := by
            rw [← hs _ _ hq hqi]
            exact hr'.trans hm (hr'.symm z)
          have h4 := rep_uniq hr (List.getElem_mem ha) (List.getElem_mem hi) h3
          have hp := reps_lt (n := m) (r := r)
          rw [List.pairwise_iff_getElem] at hp
          by_cases l : a < i
          · have := hp a i ha hi l; omega
          · have := hp i a hi ha (by omega); omega
      rw [hn, if_neg c]
      unfold grp
      simp [e2 _ hqi]
/-- one standing more, in an old lot or a new one -/
theorem grp_step {m : Nat} (u : Nat → Nat) (hu : ∀ s, s < m → u s ≤ s) (a : Nat) (ha : a ≤ (grp m fun s t => decide (u s = u t)).length) : ∃ u' : Nat → Nat, (∀ s, s < m + 1 → u' s ≤ s) ∧
    (grp (m + 1) fun s t => decide (u' s = u' t)) = if h : a < (grp m fun s t => decide (u s = u t)).length then (grp m fun s t => decide (u s = u t)).set a ((grp m fun s t => decide (u s = u t))[a] ++ [m]) else (grp m fun s t => decide (u s = u t)) ++ [[m]] := by
  by_cases h : a < (grp m fun s t => decide (u s = u t)).length
  · have h' : a < (reps m fun s t => decide (u s = u t)).length := by unfold grp at h; simpa using h
    have hq := (mem_reps.mp (List.getElem_mem h')).1
    refine ⟨fun s => if s = m then u ((reps m fun s t => decide (u s = u t))[a]) else u s, ?_, ?_⟩
    · intro s hs
      by_cases c : s = m
      · simp only [c, if_true]
        have := hu _ hq
        omega
      · simp only [c, if_false]
        exact hu s (by omega)
    · rw [dif_pos h]
      refine grp_put (Eqv.of u) (Eqv.of _) ?_ h' ?_
      · intro s t hs ht
        have c1 : ¬ s = m := by omega
        have c2 : ¬ t = m := by omega
        simp only [c1, c2, if_false]
      · have c1 : ¬ (reps m fun s t => decide (u s = u t))[a] = m := by omega
        simp [c1]
  · refine ⟨fun s => if s = m then m else u s, ?_, ?_⟩
    · intro s hs
      by_cases c : s = m
      · simp only [c, if_true]; omega
      · simp only [c, if_false]; exact hu s (by omega)
    · rw [dif_neg h, grp_new (Eqv.of _)]
      · congr 1
        apply grp_congr
        intro s t hs ht
        have c1 : ¬ s = m := by omega
        have c2 : ¬ t = m := by omega
        simp only [c1, c2, if_false]
      · intro t ht
        have c1 : ¬ t = m := by omega
        have := hu t ht
        simp only [c1, if_false, if_true]
        simp
        omega
/-- the text of a step -/
def stepE : TE := .ife (.cmp .lt (.e (.var 4)) (.e (.blt .len [.e (.var 2)]))) (.f (.cat (.e (.f (.cat (.e (.f (.slice (.e (.var 2)) none (some (.var 4))))) (.e (.f (.lst [.e (.f (.cat (.e (.sub (.e (.var 2)) (.var 4))) (.e (.f (.lst [.e (.var 3)])))))])))))) (.e (.f (.slice (.e (.var 2)) (some (.bin .add (.e (.var 4)) (.e (.int 1)))) none))))) (.f (.cat (.e (.var 2)) (.e (.f (.lst [.e (.f (.lst [.e (.var 3)]))])))))
theorem cutD_to {α : Type} (l : List α) {a : Nat} (h : a < l.length) : cutD l none (some (a : Int)) = l.take a := by
  unfold cutD cutIx
  have h1 : ¬ ((a : Int) < 0) := by omega
  simp only [h1, if_false, List.drop_zero, Nat.sub_zero]
  congr 1
  omega
theorem cutD_from {α : Type} (l : List α) {a : Nat} (h : a < l.length) : cutD l (some ((a : Int) + 1)) none = l.drop (a + 1) := by
  unfold cutD cutIx
  have h1 : ¬ ((a : Int) + 1 < 0) := by omega
  have h2 : ((a : Int) + 1).toNat = a + 1 := by omega
  simp only [h1, if_false, h2]
  rw [show min (a + 1) l.length = a + 1 from by omega]
  rw [List.take_of_length_le]
  simp
theorem step_ok (o : O) (N : Option O) {P : List (List Nat)} (m a : Nat) (hP : P.length ≤ 6) (hQ : ∀ l ∈ P, l.length ≤ 6) : pE (CC k) stepE [some o, N, some (.frz (pL P)), some (.frz (.int m)), some (.frz (.int a))] = some (pL (if h : a < P.length then P.set a (P[a] ++ [m]) else P ++ [[m]])) := by
  have e1 : D.int (m : Int) = iD m := rfl
  by_cases h : a < P.length
  · have h1 := sub_pL (l := P) (i := a) h
    rw [iD_def] at h1
    have h3 := hQ P[a] (List.getElem_mem h)
    have h2 : ∀ e, PV.listS (.v (pL P)) e = some (P.map iL) := fun _ => rfl
    have c1 := cutD_to (P.map iL) (a := a) (by simpa using h)
    have c2 := cutD_from (P.map iL) (a := a) (by simpa using h)
    have c3 : P[a].length + 1 ≤ listLine := by unfold listLine; omega
    rw [dif_pos h]
    have hset : pL (P.set a (P[a] ++ [m])) = .lst (((P.map iL).take a ++ [.lst (P[a].map iD ++ [iD m])]) ++ (P.map iL).drop (a + 1)) := by
      rw [List.set_eq_take_append_cons_drop, if_pos h]
      unfold pL
      simp [List.map_take, List.map_drop, iL]
    rw [hset]
    have c4 : (P.map iL).take a = (P.map iL).take a := rfl
    generalize hA : (P.map iL).take a = A at c1 ⊢
    generalize hB : (P.map iL).drop (a + 1) = B at c2 ⊢
    have lA : A.length ≤ 6 := by rw [← hA]; simp; omega
    have lB : B.length ≤ 6 := by rw [← hB]; simp; omega
    have c5 : A.length + 1 ≤ listLine := by unfold listLine; omega
    have c6 : A.length + 1 + B.length ≤ listLine := by unfold listLine; omega
    unfold stepE
    simp [pSs, pS, pO, pOs, pE, pEs, pAnd1, pAnd2, pOr1, pOr2, pV, pVs, pA, pAs, pLs, pI, pF, pOpt, pIfs, En.at, En.put, get_v, get_r, list_v, list_iL, list_pL, list_fL, list_r, sub_v, sub_r, getAll, ownFree, tgIn, tgsIn, bindT_n, bindT_t, bindTs_nil, bindTs_cons, putAll, PR.bind, PR.val, O.toD, startE, frzL, h, h1, h2, c1, c2, c3, c5, c6, e1]
  · rw [dif_neg h]
    have c1 : P.length + 1 ≤ listLine := by unfold listLine; omega
    have hset : pL (P ++ [[m]]) = .lst (P.map iL ++ [.lst [iD m]]) := by
      unfold pL
      simp [iL]
    rw [hset]
    unfold stepE
    simp [pSs, pS, pO, pOs, pE, pEs, pAnd1, pAnd2, pOr1, pOr2, pV, pVs, pA, pAs, pLs, pI, pF, pOpt, pIfs, En.at, En.put, get_v, get_r, list_v, list_iL, list_pL, list_fL, list_r, sub_v, sub_r, getAll, ownFree, tgIn, tgsIn, bindT_n, bindT_t, bindTs_nil, bindTs_cons, putAll, PR.bind, PR.val, O.toD, startE, frzL, h, c1, e1]
theorem parts_loop (hk : 2 ≤ k) {n : Nat} (hn : n ≤ 6) : ∀ (d m C : Nat) (o : O) (u : Nat → Nat) (o3 o4 : Option O), m + d = n → (∀ s, s < m → u s ≤ s) → Gen C o → C + d < 700000 → ∃ (u' : Nat → Nat) (o' : O) (p3 p4 : Option O), loopF (fun d e => match bindT (.n 3) d e with
    | some e => execs (CC k) [.asg 4 (.e (.call 52 [.b 0, .d (.bin .add (.e (.blt .len [.e (.var 2)])) (.e (.int 1)))] [])), .asg 2 (.e stepE)] e
    | none => .stuck) ((List.range' m d).map iD) [some o, some (.frz (.int n)), some (.frz (pL (grp m fun s t => decide (u s = u t)))), o3, o4] = .next [some o', some (.frz (.int n)), some (.frz (pL (grp n fun s t => decide (u' s = u' t)))), p3, p4] ∧ Gen (C + d) o' := by
  intro d
  induction d with
  | zero =>
    intro m C o u o3 o4 h hu hG hC
    obtain rfl : m = n := by omega
    exact ⟨u, o, o3, o4, rfl, hG⟩
  | succ d ih =>
    intro m C o u o3 o4 h hu hG hC
    have hl := grp_len_le (n := m) (r := fun s t => decide (u s = u t))
    have he : evalE (CC k) (.bin .add (.e (.blt .len [.e (.var 2)])) (.e (.int 1))) [some o, some (.frz (.int n)), some (.frz (pL (grp m fun s t => decide (u s = u t)))), some (.frz (iD m)), o4] = .ok (.int (((grp m fun s t => decide (u s = u t)).length + 1 : Nat) : Int)) [some o, some (.frz (.int n)), some (.frz (pL (grp m fun s t => decide (u s = u t)))), some (.frz (iD m)), o4] := by
      refine pE_ok ?_
      simp [pSs, pS, pO, pOs, pE, pEs, pAnd1, pAnd2, pOr1, pOr2, pV, pVs, pA, pAs, pLs, pI, pF, pOpt, pIfs, En.at, En.put, get_v, get_r, list_v, list_iL, list_pL, list_fL, list_r, sub_v, sub_r, getAll, ownFree, tgIn, tgsIn, bindT_n, bindT_t, bindTs_nil, bindTs_cons, putAll, PR.bind, PR.val, O.toD, startE, frzL]
    obtain ⟨a, o1, hx, ha, hG1⟩ := ev_rand (k := k) hk (j := 0) rfl hG (by omega) (by omega) (by omega) he
    obtain ⟨u1, hu1, hg⟩ := grp_step u hu a (by omega)
    have hok := step_ok (k := k) o1 (some (.frz (.int n))) (P := grp m fun s t => decide (u s = u t)) m a (by omega) (fun l hl' => by
      have h7 : l.Nodup := (grp_lt hl').imp fun a => Nat.ne_of_lt a
      obtain ⟨q, hq, e⟩ := mem_grp.mp hl'
      rw [← e]
      unfold cls
      have := List.length_filter_le ((fun s t => decide (u s = u t)) q) (List.range m)
      rw [List.length_range] at this
      omega)
    rw [← hg] at hok
    obtain ⟨u', o', p3, p4, g1, g2⟩ := ih (m + 1) (C + 1) o1 u1 (some (.frz (iD m))) (some (.frz (.int a))) (by omega) hu1 hG1 (by omega)
    refine ⟨u', o', p3, p4, ?_, g2.mono (by omega)⟩
    rw [List.range'_succ, List.map_cons, loopF]
    have hb : execs (CC k) [.asg 4 (.e (.call 52 [.b 0, .d (.bin .add (.e (.blt .len [.e (.var 2)])) (.e (.int 1)))] [])), .asg 2 (.e stepE)] [some o, some (.frz (.int n)), some (.frz (pL (grp m fun s t => decide (u s = u t)))), some (.frz (iD m)), o4] = .next [some o1, some (.frz (.int n)), some (.frz (pL (grp (m + 1) fun s t => decide (u1 s = u1 t)))), some (.frz (iD m)), some (.frz (.int a))] := by
      rw [ex_asg (ev_oe hx)]
      have hok' : evalE (CC k) stepE [some o1, some (.frz (.int n)), some (.frz (pL (grp m fun s t => decide (u s = u t)))), some (.frz (iD m)), some (.frz (.int a))] = _ := pE_ok hok
      exact ex_asg (ev_oe hok')
    rw [← g1]
    show (execs (CC k) _ [some o, some (.frz (.int n)), some (.frz (pL (grp m fun s t => decide (u s = u t)))), some (.frz (iD m)), o4]).bind _ = _
    rw [hb]
    rfl
theorem c_parts (hk : 2 ≤ k) {n C : Nat} {o : O} (h2 : n ≤ 6) (hG : Gen C o) (hC : C < 600000) : ∃ (r : Nat → Nat → Bool) (o' : O), CT (k + 1) 59 [o, .frz (.int n)] = .ok (.frz (pL (grp n r))) [some o', none] ∧ Eqv r ∧ Gen (C + 10) o' := by
  obtain ⟨u', o', p3, p4, g1, g2⟩ := parts_loop (k := k) hk h2 n 0 C o (fun _ => 0) none none (by omega) (fun s h => by omega) hG (by omega)
  refine ⟨fun s t => decide (u' s = u' t), o', ?_, Eqv.of u', g2.mono (by omega)⟩
  rw [ct_eq k 59 _ (d := t__law_drawn_parts) rfl]
  refine run_ret (e := [some o', some (.frz (.int n)), some (.frz (pL (grp n fun s t => decide (u' s = u' t)))), p3, p4]) ?_ rfl ⟨rfl, rfl⟩ rfl
  have hI : evalI (CC k) (.rng1 (.var 1)) [some o, some (.frz (.int n)), some (.frz (pL [])), none, none] = .ok ((List.range' 0 n).map iD) [some o, some (.frz (.int n)), some (.frz (pL [])), none, none] := by
    refine pI_ok ?_
    rw [← List.range_eq_range']
    simp [pSs, pS, pO, pOs, pE, pEs, pAnd1, pAnd2, pOr1, pOr2, pV, pVs, pA, pAs, pLs, pI, pF, pOpt, pIfs, En.at, En.put, get_v, get_r, list_v, list_iL, list_pL, list_fL, list_r, sub_v, sub_r, getAll, ownFree, tgIn, tgsIn, bindT_n, bindT_t, bindTs_nil, bindTs_cons, putAll, PR.bind, PR.val, O.toD, startE, frzL, rngA_nat (show n < 4000000 by omega)]
  show execs (CC k) (.asg 2 (.e (.f (.lst []))) :: .for_ (.n 3) (.rng1 (.var 1)) _ :: .ret (.e (.var 2)) :: []) [some o, some (.frz (.int n)), none, none, none] = _
  rw [ex_asg (ev_oe (ev_f (show evalF (CC k) (.lst []) [some o, some (.frz (.int n)), none, none, none] = .ok [] _ from by rw [evalF, evalLs])))]
  show execs (CC k) (.for_ (.n 3) (.rng1 (.var 1)) _ :: .ret (.e (.var 2)) :: []) [some o, some (.frz (.int n)), some (.frz (pL [])), none, none] = _
  rw [execs, exec, hI]
  have g1' := congrArg (fun z => FRes.bind z (execs (CC k) [.ret (.e (.var 2))])) g1
  refine Eq.trans ?_ (g1'.trans ?_)
  · rfl
  · rfl
end TL

set_option maxRecDepth 100000
namespace TL
open PySem
variable {k : Nat}
/-! statements, step by step, names more and more frozen -/
def Steps (C : Cfg) (ss : List TS) (p q : En) : Prop := ∀ e, Lf p e → ∃ e', execs C ss e = .next e' ∧ Lf q e'
theorem Steps.nil {C : Cfg} {p q : En} (h : Lf q p) : Steps C [] p q := fun e L => ⟨e, rfl, h.trans L⟩
theorem Steps.cons {C : Cfg} {s : TS} {ss : List TS} {p p1 p2 q : En} (h : pS C s p = some (.next p1)) (hf : Lf p2 p1) (h2 : Steps C ss p2 q) : Steps C (s :: ss) p q := by
  intro e L
  obtain ⟨e1, a1, L1⟩ := pS_lf L h
  obtain ⟨e2, a2, L2⟩ := h2 e1 (hf.trans L1)
  exact ⟨e2, by rw [execs, a1]; exact a2, L2⟩
inductive LoopT (C : Cfg) (t : TT) (body : List TS) : List D → En → En → Prop where
  | nil (p : En) : LoopT C t body [] p p
  | cons {d : D} {ds : List D} {p p1 p2 q : En} (h : bindT t d p = some p1) (hs : Steps C body p1 p2) (r : LoopT C t body ds p2 q) : LoopT C t body (d :: ds) p q
theorem LoopT.run {C : Cfg} {t : TT} {body : List TS} : ∀ {ds : List D} {p q e : En}, LoopT C t body ds p q → Lf p e → ∃ e', loopF (fun d e => match bindT t d e with
    | some e => execs C body e
    | none => .stuck) ds e = .next e' ∧ Lf q e'
  | [], _, _, e, .nil p, L => ⟨e, rfl, L⟩
  | d :: ds, p, q, e, .cons h hs r, L => by
    obtain ⟨e1, b1, L1⟩ := bindT_lf L h
    obtain ⟨e2, a2, L2⟩ := hs e1 L1
    obtain ⟨e3, a3, L3⟩ := LoopT.run r L2
    refine ⟨e3, ?_, L3⟩
    rw [loopF]
    simp only [b1]
    rw [a2]
    exact a3
theorem Runs.forT {C : Cfg} {t : TT} {it : TI} {body ss : List TS} {p q : En} {ds : List D} {v : D} (hi : pI C it p = some ds) (hl : LoopT C t body ds p q) (h2 : Runs C ss q v) : Runs C (.for_ t it body :: ss) p v := by
  intro e L
  obtain ⟨e1, a1, L1⟩ := pI_lf L hi
  obtain ⟨e2, a2, L2⟩ := hl.run L1
  have : execs C (.for_ t it body :: ss) e = execs C ss e2 := by
    rw [execs, exec, a1]
    show (loopF _ ds e1).bind _ = _
    have := congrArg (fun z => FRes.bind z (execs C ss)) a2
    exact this
  rw [this]
  exact h2 e2 L2
/-! known by all -/
theorem still_cl {n : Nat} {b : Nat → Rat} {S : Nat → Bool} {r q : Nat → Nat → Bool} (hr : Eqv r) (hq : Eqv q) (h : Still n b S r q) {s t : Nat} (hs : s < n) (ht : t < n) (hst : q s t = true) : ch n r b S s = ch n r b S t := by
  have h1 := grp_inj (nx_eqv n b S r hq) hq h hs ht
  rw [hst] at h1
  simp only [nx, rAnd, Bool.and_eq_true, kr, decide_eq_true_eq] at h1
  exact h1.2
theorem p_known_right (hk : 8 ≤ k) {A n : Nat} {r0 r1 : Nat → Nat → Bool} (h0 : Eqv r0) (h1 : Eqv r1) {b : Nat → Rat} (hb : FulOk A n b) (S : Nat → Bool) : cd (CC k) 61 [pL (grp n r0), pL (grp n r1), fL (rgL n b), iL (lotL n S)] = some (.bl true) := by
  obtain ⟨k, rfl⟩ : ∃ j, k = j + 2 := ⟨k - 2, by omega⟩
  obtain ⟨fs, p0, p1, E, ht⟩ := p_tellings (k := k) (by omega) h0 h1 hb S
  have ha := agreed_of (k := k) (by omega) h0 h1 E.g0 hb S ht
  have hby := agreed_by_of (k := k) (by omega) h0 h1 hb S ht
  have hn := hb.n2
  have hkn : ∀ s, s < n → cd (CC (k + 1)) 39 [pL (grp n p0), pL (grp n p1), iL (lotL n fun t => decide (ch n p0 b S t = ch n p0 b S s))] = some (iL (lotL n fun t => decide (ch n p0 b S t = ch n p0 b S s))) := by
    intro s hs
    refine p_known_by_all (by omega) E.g0 E.g1 hb.n1 hn ?_ ?_
    · intro t t' h2 h3 h4 h5
      simp only [decide_eq_true_eq] at h5 ⊢
      rw [← h5]
      exact (ch_same E.g0 b S h4).symm
    · intro t t' h2 h3 h4 h5
      simp only [decide_eq_true_eq] at h5 ⊢
      rw [← h5]
      exact (still_cl E.g0 E.g1 E.t1 h2 h3 h4).symm
  generalize hc : ch n p0 b S = c at ha hkn
  generalize pL (grp n p0) = E0 at hby hkn
  generalize pL (grp n p1) = E1 at hby hkn
  generalize pL (grp n r0) = X at ha hby ⊢
  generalize pL (grp n r1) = Y at ha hby ⊢
  generalize iL (lotL n S) = Lt at ha hby ⊢
  refine cdR t__law_known_right [some (.frz X), some (.frz Y), some (.frz (fL (rgL n b))), some (.frz Lt), none, none, none, none, none] rfl rfl rfl rfl rfl ?_
  refine Runs.step (p1 := [some (.frz X), some (.frz Y), some (.frz (fL (rgL n b))), some (.frz Lt), none, some (.frz (fL (rgL n c))), some (.frz (.tup [E0, E1])), none, none]) ?_ (Lf.rfl' _) ?_
  · simp [pSs, pS, pO, pOs, pE, pEs, pAnd1, pAnd2, pOr1, pOr2, pV, pVs, pA, pAs, pLs, pI, pF, pOpt, pIfs, En.at, En.put, get_v, get_r, list_v, list_iL, list_pL, list_fL, list_r, sub_v, sub_r, getAll, ownFree, tgIn, tgsIn, bindT_n, bindT_t, bindTs_nil, bindTs_cons, putAll, PR.bind, PR.val, O.toD, startE, frzL, ha, hby]
  have loop : ∀ (l : List Nat), (∀ s ∈ l, s < n) → ∀ o4, ∃ o4', LoopT (CC (k + 1)) (.n 4) [.asg 7 (.f (.comp (.var 8) (.n 8) (.rng1 (.blt .len [.e (.var 2)])) [.cmp .eq (.e (.sub (.e (.var 5)) (.var 8))) (.e (.sub (.e (.var 5)) (.var 4)))] [8])), .if_ (.cmp .notin (.e (.var 4)) (.e (.call 39 [.d (.sub (.e (.var 6)) (.int 0)), .d (.sub (.e (.var 6)) (.int 1)), .d (.var 7)] []))) [.ret (.e (.bl false))] []] (l.map iD) [some (.frz X), some (.frz Y), some (.frz (fL (rgL n b))), some (.frz Lt), o4, some (.frz (fL (rgL n c))), some (.frz (.tup [E0, E1])), none, none] [some (.frz X), some (.frz Y), some (.frz (fL (rgL n b))), some (.frz Lt), o4', some (.frz (fL (rgL n c))), some (.frz (.tup [E0, E1])), none, none] := by
    intro l
    induction l with
    | nil => intro _ o4; exact ⟨o4, .nil _⟩
    | cons s l ih =>
      intro hl o4
      have hs := hl s List.mem_cons_self
      obtain ⟨o4', h⟩ := ih (fun t ht => hl t (List.mem_cons_of_mem _ ht)) (some (.frz (iD s)))
      refine ⟨o4', ?_⟩
      rw [List.map_cons]
      refine .cons (bindT_n _ _ _) ?_ h
      refine Steps.cons (p1 := [some (.frz X), some (.frz Y), some (.frz (fL (rgL n b))), some (.frz Lt), some (.frz (iD s)), some (.frz (fL (rgL n c))), some (.frz (.tup [E0, E1])), some (.lst (((lotL n fun t => decide (c t = c s)).map iD).map .frz)), none]) ?_ (lf_frz [some (.frz X), some (.frz Y), some (.frz (fL (rgL n b))), some (.frz Lt), some (.frz (iD s)), some (.frz (fL (rgL n c))), some (.frz (.tup [E0, E1]))] [none] _) ?_
      · simp [pSs, pS, pO, pOs, pE, pEs, pAnd1, pAnd2, pOr1, pOr2, pV, pVs, pA, pAs, pLs, pI, pF, pOpt, pIfs, En.at, En.put, get_v, get_r, list_v, list_iL, list_pL, list_fL, list_r, sub_v, sub_r, getAll, ownFree, tgIn, tgsIn, bindT_n, bindT_t, bindTs_nil, bindTs_cons, putAll, PR.bind, PR.val, O.toD, startE, frzL, rgL_len, rngA_nat (show n < 4000000 by omega), iD_def, sub_rg c hs]
        rw [mfM_enc (enc := iD) (p := fun t => decide (c t = c s)) (g := iD)]
        · simp [lotL]
        · intro t ht
          rw [List.mem_range] at ht
          by_cases z : c t = c s
          · simp [pSs, pS, pO, pOs, pE, pEs, pAnd1, pAnd2, pOr1, pOr2, pV, pVs, pA, pAs, pLs, pI, pF, pOpt, pIfs, En.at, En.put, get_v, get_r, list_v, list_iL, list_pL, list_fL, list_r, sub_v, sub_r, getAll, ownFree, tgIn, tgsIn, bindT_n, bindT_t, bindTs_nil, bindTs_cons, putAll, PR.bind, PR.val, O.toD, startE, frzL, iD_def, sub_rg c ht, z]
          · simp [pSs, pS, pO, pOs, pE, pEs, pAnd1, pAnd2, pOr1, pOr2, pV, pVs, pA, pAs, pLs, pI, pF, pOpt, pIfs, En.at, En.put, get_v, get_r, list_v, list_iL, list_pL, list_fL, list_r, sub_v, sub_r, getAll, ownFree, tgIn, tgsIn, bindT_n, bindT_t, bindTs_nil, bindTs_cons, putAll, PR.bind, PR.val, O.toD, startE, frzL, iD_def, sub_rg c ht, z]
      · have hmem : s ∈ lotL n fun t => decide (c t = c s) := lotL_mem.mpr ⟨hs, by simp⟩
        have hk2 := hkn s hs
        have s0 : subD (.tup [E0, E1]) (.int 0) = some E0 := rfl
        have s1 : subD (.tup [E0, E1]) (.int 1) = some E1 := rfl
        rw [lst_iL]
        refine Steps.cons (p1 := [some (.frz X), some (.frz Y), some (.frz (fL (rgL n b))), some (.frz Lt), some (.frz (iD s)), some (.frz (fL (rgL n c))), some (.frz (.tup [E0, E1])), some (.frz (iL (lotL n fun t => decide (c t = c s)))), none]) ?_ (Lf.rfl' _) (Steps.nil (lf_none [some (.frz X), some (.frz Y), some (.frz (fL (rgL n b))), some (.frz Lt), some (.frz (iD s)), some (.frz (fL (rgL n c))), some (.frz (.tup [E0, E1]))] [none] _))
        simp [pSs, pS, pO, pOs, pE, pEs, pAnd1, pAnd2, pOr1, pOr2, pV, pVs, pA, pAs, pLs, pI, pF, pOpt, pIfs, En.at, En.put, get_v, get_r, list_v, list_iL, list_pL, list_fL, list_r, sub_v, sub_r, getAll, ownFree, tgIn, tgsIn, bindT_n, bindT_t, bindTs_nil, bindTs_cons, putAll, PR.bind, PR.val, O.toD, startE, frzL, s0, s1, hk2, iD_def, hmem]
  obtain ⟨o4', hloop⟩ := loop (List.range n) (fun s hs => List.mem_range.mp hs) none
  refine Runs.forT (ds := (List.range n).map iD) ?_ hloop ?_
  · simp [pSs, pS, pO, pOs, pE, pEs, pAnd1, pAnd2, pOr1, pOr2, pV, pVs, pA, pAs, pLs, pI, pF, pOpt, pIfs, En.at, En.put, get_v, get_r, list_v, list_iL, list_pL, list_fL, list_r, sub_v, sub_r, getAll, ownFree, tgIn, tgsIn, bindT_n, bindT_t, bindTs_nil, bindTs_cons, putAll, PR.bind, PR.val, O.toD, startE, frzL, rgL_len, rngA_nat (show n < 4000000 by omega)]
  refine Runs.last (o := .frz (.bl true)) (p1 := [some (.frz X), some (.frz Y), some (.frz (fL (rgL n b))), some (.frz Lt), o4', some (.frz (fL (rgL n c))), some (.frz (.tup [E0, E1])), none, none]) ?_ rfl
  simp [pSs, pS, pO, pOs, pE, pEs, pAnd1, pAnd2, pOr1, pOr2, pV, pVs, pA, pAs, pLs, pI, pF, pOpt, pIfs, En.at, En.put, get_v, get_r, list_v, list_iL, list_pL, list_fL, list_r, sub_v, sub_r, getAll, ownFree, tgIn, tgsIn, bindT_n, bindT_t, bindTs_nil, bindTs_cons, putAll, PR.bind, PR.val, O.toD, startE, frzL]
end TL

set_option maxRecDepth 100000
namespace TL
open PySem
variable {k : Nat}
/-! what the ends are worth -/
theorem call_CT (k f : Nat) (os : List O) : (CC k).call f os = CT k f os := rfl
theorem ev_call {C : Cfg} {f : Nat} {as : List TA} {perm : List Nat} {e e1 e2 : En} {vs : List AV} {o : O} (h1 : evalAs C as e = .ok vs e1) (h2 : doCall C f vs e1 = .ok o e2) : evalE C (.call f as perm) e = .ok o.toD e2 := by
  simp [evalE, h1, h2, Res.bind]
theorem eo_call {C : Cfg} {f : Nat} {as : List TA} {perm : List Nat} {e e1 e2 : En} {vs : List AV} {o : O} (h1 : evalAs C as e = .ok vs e1) (h2 : doCall C f vs e1 = .ok o e2) : evalO C (.call f as perm) e = .ok o e2 := by
  simp [evalO, h1, h2, Res.bind]
theorem as_b {C : Cfg} {j : Nat} {r : List TA} {e e1 : En} {o : O} {vs : List AV} (h : e.at j = some o) (h2 : evalAs C r e = .ok vs e1) : evalAs C (.b j :: r) e = .ok (.b j :: vs) e1 := by
  simp [evalAs, evalA, h, h2, Res.bind]
theorem as_d {C : Cfg} {a : TE} {r : List TA} {e e1 e2 : En} {x : D} {vs : List AV} (h : evalE C a e = .ok x e1) (h2 : evalAs C r e1 = .ok vs e2) : evalAs C (.d a :: r) e = .ok (.v x :: vs) e2 := by
  simp [evalAs, evalA, h, h2, Res.bind]
theorem as_nil {C : Cfg} {e : En} : evalAs C [] e = .ok [] e := by rw [evalAs]
/-- a call with the generator lent -/
theorem doCall_b {C : Cfg} {f j : Nat} {ds : List D} {e : En} {o o' x : O} {outs : List (Option O)} (hg : e.at j = some o) (h : C.call f (o :: ds.map O.frz) = .ok x (some o' :: outs)) (hl : outs.length = ds.length) : doCall C f (.b j :: ds.map AV.v) e = .ok x (e.put j o') := by
  unfold doCall
  have h1 : lent (.b j :: ds.map AV.v) = [j] := by
    show j :: lent (ds.map AV.v) = _
    rw [lent_v]
  have h2 : getAll (fun v => AV.get v e) (.b j :: ds.map AV.v) = some (o :: ds.map O.frz) := by
    show (e.at j).bind (fun b => (getAll (fun v => AV.get v e) (ds.map AV.v)).map (b :: ·)) = _
    rw [hg, getAll_v]; rfl
  have h3 : putOuts (.b j :: ds.map AV.v) (some o' :: outs) e = some (e.put j o') := putOuts_v _ ds outs hl
  rw [h1, if_pos (by simp), h2]
  dsimp only
  rw [h]
  dsimp only
  rw [h3]
  rfl
def wbody : List TS := [.asg 12 (.e (.call 50 [.d (.call 32 [.d (.var 11)] []), .d (.var 3), .d (.var 8)] [])), .if_ (.or_ [.call 56 [.d (.var 12), .d (.call 50 [.d (.call 32 [.d (.var 10)] []), .d (.var 3), .d (.var 8)] [])] [], .call 56 [.d (.var 9), .d (.var 12)] []]) [.ret (.e (.bl false))] []]
def wrest : List TS := [.asg 9 (.e (.call 50 [.d (.call 32 [.d (.var 7)] []), .d (.var 3), .d (.var 8)] [])), .for_ (.t [.n 10, .n 11]) (.zip (.f (.lst [.e (.var 1), .e (.var 2)])) (.var 6) false) wbody]
theorem w_item (hk : 9 ≤ k) {A n : Nat} {r p w : Nat → Nat → Bool} (hr : Eqv r) (hp : Eqv p) (hw : Eqv w) (hrp : ∀ s t, p s t = true → r s t = true) (hpw : ∀ s t, w s t = true → p s t = true) {b : Nat → Rat} (hb : FulOk A n b) {pays : List (Nat → Rat)} (hE : ∀ q ∈ pays, ∀ s, s < n → Sz 5 (q s)) (hn : pays ≠ []) (hn2 : pays.length ≤ 8) (o X Y Lt T Eo Bo : Option O) (o12 : Option O) : pSs (CC k) wbody [o, X, Y, some (.frz (fL (rgL n b))), Lt, T, Eo, Bo, some (.frz (gmD (pays.map (rgL n)))), some (.frz (fr (wth n (grp n w) b pays))), some (.frz (pL (grp n r))), some (.frz (pL (grp n p))), o12] = some (.next [o, X, Y, some (.frz (fL (rgL n b))), Lt, T, Eo, Bo, some (.frz (gmD (pays.map (rgL n)))), some (.frz (fr (wth n (grp n w) b pays))), some (.frz (pL (grp n r))), some (.frz (pL (grp n p))), some (.frz (fr (wth n (grp n p) b pays)))]) := by
  have w1 := p_worth (k := k) hk hr hb hE (by omega) hn hn2
  have w2 := p_worth (k := k) hk hp hb hE (by omega) hn hn2
  have s1 := p_sure_look (k := k) (by omega) hr hb.n1 hb.n2
  have s2 := p_sure_look (k := k) (by omega) hp hb.n1 hb.n2
  have z1 := sz_wth (r := r) hb (show 5 < 60 by omega) hE hn
  have z2 := sz_wth (r := p) hb (show 5 < 60 by omega) hE hn
  have z3 := sz_wth (r := w) hb (show 5 < 60 by omega) hE hn
  have m1 := wth_mono (n := n) hp hr hrp b hn
  have m2 := wth_mono (n := n) hw hp hpw b hn
  have b1 := p_below (k := k) (by omega) z2 z1 (by omega)
  have b2 := p_below (k := k) (by omega) z3 z2 (by omega)
  rw [decide_eq_false (Rat.not_lt.mpr m1)] at b1
  rw [decide_eq_false (Rat.not_lt.mpr m2)] at b2
  generalize pL (grp n r) = R at s1 ⊢
  generalize pL (grp n p) = P at s2 ⊢
  generalize lkD (sureRows n (grp n r)) = LR at s1 w1
  generalize lkD (sureRows n (grp n p)) = LP at s2 w2
  generalize gmD (pays.map (rgL n)) = G at w1 w2 ⊢
  generalize fL (rgL n b) = B at w1 w2 ⊢
  generalize fr (wth n (grp n r) b pays) = v1 at w1 b1
  generalize fr (wth n (grp n p) b pays) = v2 at w2 b1 b2 ⊢
  generalize fr (wth n (grp n w) b pays) = v3 at b2 ⊢
  simp [pSs, pS, pO, pOs, pE, pEs, pAnd1, pAnd2, pOr1, pOr2, pV, pVs, pA, pAs, pLs, pI, pF, pOpt, pIfs, En.at, En.put, get_v, get_r, list_v, list_iL, list_pL, list_fL, list_r, sub_v, sub_r, getAll, ownFree, tgIn, tgsIn, bindT_n, bindT_t, bindTs_nil, bindTs_cons, putAll, PR.bind, PR.val, O.toD, startE, frzL, wbody, s1, s2, w1, w2, b1, b2]
theorem w_rest (hk : 9 ≤ k) {A n : Nat} {r0 r1 p0 p1 : Nat → Nat → Bool} (h0 : Eqv r0) (h1 : Eqv r1) {b : Nat → Rat} {S : Nat → Bool} (E : Ends n b S r0 r1 p0 p1) (hb : FulOk A n b) {pays : List (Nat → Rat)} (hE : ∀ q ∈ pays, ∀ s, s < n → Sz 5 (q s)) (hn : pays ≠ []) (hn2 : pays.length ≤ 8) (o Lt T o9 o10 o11 o12 : Option O) : ∃ p9 p10 p11 p12, pSs (CC k) wrest [o, some (.frz (pL (grp n r0))), some (.frz (pL (grp n r1))), some (.frz (fL (rgL n b))), Lt, T, some (.frz (.tup [pL (grp n p0), pL (grp n p1)])), some (.frz (pL (grp n (rAnd r0 r1)))), some (.frz (gmD (pays.map (rgL n)))), o9, o10, o11, o12] = some (.next [o, some (.frz (pL (grp n r0))), some (.frz (pL (grp n r1))), some (.frz (fL (rgL n b))), Lt, T, some (.frz (.tup [pL (grp n p0), pL (grp n p1)])), some (.frz (pL (grp n (rAnd r0 r1)))), some (.frz (gmD (pays.map (rgL n)))), p9, p10, p11, p12]) := by
  have hw := rAnd_eqv h0 h1
  have w3 := p_worth (k := k) hk hw hb hE (by omega) hn hn2
  have s3 := p_sure_look (k := k) (by omega) hw hb.n1 hb.n2
  have i0 := fun o X Y Lt T Eo Bo o12 => w_item (k := k) hk h0 E.g0 hw E.s0 (fun s t h => (E.j s t (by simp only [rAnd, Bool.and_eq_true] at h; exact h.1) (by simp only [rAnd, Bool.and_eq_true] at h; exact h.2)).1) hb hE hn hn2 o X Y Lt T Eo Bo o12
  have i1 := fun o X Y Lt T Eo Bo o12 => w_item (k := k) hk h1 E.g1 hw E.s1 (fun s t h => (E.j s t (by simp only [rAnd, Bool.and_eq_true] at h; exact h.1) (by simp only [rAnd, Bool.and_eq_true] at h; exact h.2)).2) hb hE hn hn2 o X Y Lt T Eo Bo o12
  generalize pL (grp n (rAnd r0 r1)) = W at s3 ⊢
  generalize lkD (sureRows n (grp n (rAnd r0 r1))) = LW at s3 w3
  generalize gmD (pays.map (rgL n)) = G at w3 i0 i1 ⊢
  generalize fL (rgL n b) = B at w3 i0 i1 ⊢
  generalize pL (grp n r0) = R0 at i0 ⊢
  generalize pL (grp n r1) = R1 at i1 ⊢
  generalize pL (grp n p0) = P0 at i0 ⊢
  generalize pL (grp n p1) = P1 at i1 ⊢
  generalize fr (wth n (grp n (rAnd r0 r1)) b pays) = v3 at w3 i0 i1
  generalize fr (wth n (grp n p0) b pays) = v0 at i0
  generalize fr (wth n (grp n p1) b pays) = v1 at i1
  refine ⟨some (.frz v3), some (.frz R1), some (.frz P1), some (.frz v1), ?_⟩
  unfold wrest
  refine (pSs_step (e' := [o, some (.frz R0), some (.frz R1), some (.frz B), Lt, T, some (.frz (.tup [P0, P1])), some (.frz W), some (.frz G), some (.frz v3), o10, o11, o12]) ?_).trans ?_
  · simp [pSs, pS, pO, pOs, pE, pEs, pAnd1, pAnd2, pOr1, pOr2, pV, pVs, pA, pAs, pLs, pI, pF, pOpt, pIfs, En.at, En.put, get_v, get_r, list_v, list_iL, list_pL, list_fL, list_r, sub_v, sub_r, getAll, ownFree, tgIn, tgsIn, bindT_n, bindT_t, bindTs_nil, bindTs_cons, putAll, PR.bind, PR.val, O.toD, startE, frzL, s3, w3]
  have hI : pI (CC k) (.zip (.f (.lst [.e (.var 1), .e (.var 2)])) (.var 6) false) [o, some (.frz R0), some (.frz R1), some (.frz B), Lt, T, some (.frz (.tup [P0, P1])), some (.frz W), some (.frz G), some (.frz v3), o10, o11, o12] = some [.tup [R0, P0], .tup [R1, P1]] := by
    simp [pSs, pS, pO, pOs, pE, pEs, pAnd1, pAnd2, pOr1, pOr2, pV, pVs, pA, pAs, pLs, pI, pF, pOpt, pIfs, En.at, En.put, get_v, get_r, list_v, list_iL, list_pL, list_fL, list_r, sub_v, sub_r, getAll, ownFree, tgIn, tgsIn, bindT_n, bindT_t, bindTs_nil, bindTs_cons, putAll, PR.bind, PR.val, O.toD, startE, frzL, seqD, zipD]
  generalize wbody = wb at i0 i1 ⊢
  rw [pSs, pS, hI]
  simp only [Option.bind_some, loopP, bindT_t, bindTs_cons, bindTs_nil, bindT_n, En.put, List.set_cons_succ, List.set_cons_zero]
  rw [i0]
  simp only [Option.bind_some, PR.bind, loopP, bindT_t, bindTs_cons, bindTs_nil, bindT_n, En.put, List.set_cons_succ, List.set_cons_zero]
  rw [i1]
  simp only [Option.bind_some, PR.bind, loopP, pSs]
theorem c_worths (hk : 10 ≤ k) {A n C : Nat} {o : O} {r0 r1 : Nat → Nat → Bool} (h0 : Eqv r0) (h1 : Eqv r1) {b : Nat → Rat} (hb : FulOk A n b) (S : Nat → Bool) (hG : Gen C o) (hC : C < 500000) : ∃ o', CT (k + 1) 62 [o, .frz (pL (grp n r0)), .frz (pL (grp n r1)), .frz (fL (rgL n b)), .frz (iL (lotL n S))] = .ok (.frz (.bl true)) [some o', none, none, none, none] ∧ Gen (C + 1000) o' := by
  obtain ⟨k, rfl⟩ : ∃ j, k = j + 1 := ⟨k - 1, by omega⟩
  obtain ⟨fs, p0, p1, E, ht⟩ := p_tellings (k := k) (by omega) h0 h1 hb S
  have hby := agreed_by_of (k := k) (by omega) h0 h1 hb S ht
  have hbo := p_both_parts (k := k + 1) (by omega) h0 h1 hb.n1 hb.n2
  have loop : ∀ (l : List D) (C : Nat) (o : O) (o5 o8 o9 o10 o11 o12 : Option O), C + 200 * l.length < 600000 → Gen C o → ∃ o' q5 q8 q9 q10 q11 q12, loopF (fun d e => match bindT (.n 5) d e with
    | some e => execs (CC (k + 1)) (.asg 8 (.e (.call 58 [.b 0, .d (.blt .len [.e (.var 3)]), .d (.bin .add (.e (.int 1)) (.e (.call 52 [.b 0, .d (.int 3)] [])))] [])) :: wrest) e
    | none => .stuck) l [some o, some (.frz (pL (grp n r0))), some (.frz (pL (grp n r1))), some (.frz (fL (rgL n b))), some (.frz (iL (lotL n S))), o5, some (.frz (.tup [pL (grp n p0), pL (grp n p1)])), some (.frz (pL (grp n (rAnd r0 r1)))), o8, o9, o10, o11, o12] = .next [some o', some (.frz (pL (grp n r0))), some (.frz (pL (grp n r1))), some (.frz (fL (rgL n b))), some (.frz (iL (lotL n S))), q5, some (.frz (.tup [pL (grp n p0), pL (grp n p1)])), some (.frz (pL (grp n (rAnd r0 r1)))), q8, q9, q10, q11, q12] ∧ Gen (C + 200 * l.length) o' := by
    intro l
    induction l with
    | nil => intro C o o5 o8 o9 o10 o11 o12 _ hG; exact ⟨o, o5, o8, o9, o10, o11, o12, rfl, hG⟩
    | cons d l ih =>
      intro C o o5 o8 o9 o10 o11 o12 hC hG
      rw [List.length_cons, Nat.mul_succ] at hC
      obtain ⟨x, o1, hx, hx2, hG1⟩ := ev_rand (k := k + 1) (by omega) (e := [some o, some (.frz (pL (grp n r0))), some (.frz (pL (grp n r1))), some (.frz (fL (rgL n b))), some (.frz (iL (lotL n S))), some (.frz d), some (.frz (.tup [pL (grp n p0), pL (grp n p1)])), some (.frz (pL (grp n (rAnd r0 r1)))), o8, o9, o10, o11, o12]) (j := 0) (b := 3) (t := .int 3) rfl hG (by omega) (by omega) (by omega) rfl
      obtain ⟨ps, o2, hg, hp1, hp2, hG2⟩ := c_game (k := k + 1) (by omega) (n := n) (m := 1 + x) hb.n2 (by omega) hG1 (by omega)
      have hpn : ps ≠ [] := by
        intro z
        rw [z] at hp1
        simp at hp1
        omega
      obtain ⟨u9, u10, u11, u12, hw⟩ := w_rest (k := k + 1) (by omega) h0 h1 E hb hp2 hpn (by omega) (some o2) (some (.frz (iL (lotL n S)))) (some (.frz d)) o9 o10 o11 o12
      obtain ⟨o3, q5, q8, q9, q10, q11, q12, hl, hG3⟩ := ih (C + 1 + 100) o2 (some (.frz d)) (some (.frz (gmD (ps.map (rgL n))))) u9 u10 u11 u12 (by omega) hG2
      refine ⟨o3, q5, q8, q9, q10, q11, q12, ?_, hG3.mono (by rw [List.length_cons, Nat.mul_succ]; omega)⟩
      have hlen : evalE (CC (k + 1)) (.blt .len [.e (.var 3)]) [some o, some (.frz (pL (grp n r0))), some (.frz (pL (grp n r1))), some (.frz (fL (rgL n b))), some (.frz (iL (lotL n S))), some (.frz d), some (.frz (.tup [pL (grp n p0), pL (grp n p1)])), some (.frz (pL (grp n (rAnd r0 r1)))), o8, o9, o10, o11, o12] = .ok (.int n) [some o, some (.frz (pL (grp n r0))), some (.frz (pL (grp n r1))), some (.frz (fL (rgL n b))), some (.frz (iL (lotL n S))), some (.frz d), some (.frz (.tup [pL (grp n p0), pL (grp n p1)])), some (.frz (pL (grp n (rAnd r0 r1)))), o8, o9, o10, o11, o12] := by
        refine pE_ok ?_
        simp [pSs, pS, pO, pOs, pE, pEs, pAnd1, pAnd2, pOr1, pOr2, pV, pVs, pA, pAs, pLs, pI, pF, pOpt, pIfs, En.at, En.put, get_v, get_r, list_v, list_iL, list_pL, list_fL, list_r, sub_v, sub_r, getAll, ownFree, tgIn, tgsIn, bindT_n, bindT_t, bindTs_nil, bindTs_cons, putAll, PR.bind, PR.val, O.toD, startE, frzL, rgL_len]
      have hadd : opB .add (.int 1) (.int (x : Int)) = some (.int ((1 + x : Nat) : Int)) := by
        show some (D.int (1 + (x : Int))) = _
        rw [Int.natCast_add]; rfl
      have hg' : (CC (k + 1)).call 58 (o1 :: [D.int (n : Int), D.int ((1 + x : Nat) : Int)].map O.frz) = .ok (.frz (gmD (ps.map (rgL n)))) (some o2 :: [none, none]) := by
        rw [call_CT, List.map_cons, List.map_cons, List.map_nil]
        exact hg
      have hgd := doCall_b (C := CC (k + 1)) (f := 58) (j := 0) (ds := [.int (n : Int), .int ((1 + x : Nat) : Int)]) (e := [some o1, some (.frz (pL (grp n r0))), some (.frz (pL (grp n r1))), some (.frz (fL (rgL n b))), some (.frz (iL (lotL n S))), some (.frz d), some (.frz (.tup [pL (grp n p0), pL (grp n p1)])), some (.frz (pL (grp n (rAnd r0 r1)))), o8, o9, o10, o11, o12]) (o := o1) (o' := o2) (outs := [none, none]) (x := .frz (gmD (ps.map (rgL n)))) (by rfl) hg' (by rfl)
      have has : evalAs (CC (k + 1)) [.b 0, .d (.blt .len [.e (.var 3)]), .d (.bin .add (.e (.int 1)) (.e (.call 52 [.b 0, .d (.int 3)] [])))] [some o, some (.frz (pL (grp n r0))), some (.frz (pL (grp n r1))), some (.frz (fL (rgL n b))), some (.frz (iL (lotL n S))), some (.frz d), some (.frz (.tup [pL (grp n p0), pL (grp n p1)])), some (.frz (pL (grp n (rAnd r0 r1)))), o8, o9, o10, o11, o12] = .ok (.b 0 :: [D.int (n : Int), D.int ((1 + x : Nat) : Int)].map AV.v) [some o1, some (.frz (pL (grp n r0))), some (.frz (pL (grp n r1))), some (.frz (fL (rgL n b))), some (.frz (iL (lotL n S))), some (.frz d), some (.frz (.tup [pL (grp n p0), pL (grp n p1)])), some (.frz (pL (grp n (rAnd r0 r1)))), o8, o9, o10, o11, o12] := as_b (j := 0) (o := o) (by rfl) (as_d hlen (as_d (ev_bin (show evalE (CC (k + 1)) (.int 1) _ = .ok (.int 1) _ from by rw [evalE]) hx hadd) as_nil))
      have hgc := ev_call (perm := []) has hgd
      rw [loopF, ← hl]
      generalize wrest = wr at hw ⊢
      show (execs (CC (k + 1)) (.asg 8 (.e _) :: wr) [some o, some (.frz (pL (grp n r0))), some (.frz (pL (grp n r1))), some (.frz (fL (rgL n b))), some (.frz (iL (lotL n S))), some (.frz d), some (.frz (.tup [pL (grp n p0), pL (grp n p1)])), some (.frz (pL (grp n (rAnd r0 r1)))), o8, o9, o10, o11, o12]).bind _ = _
      rw [ex_asg (ev_oe hgc)]
      have hw' := pSs_ok hw
      refine Eq.trans (congrArg (fun z => FRes.bind z _) hw') ?_
      rfl
  obtain ⟨o', q5, q8, q9, q10, q11, q12, hl, hG'⟩ := loop ((List.range 3).map iD) C o none none none none none none (by simp; omega) hG
  refine ⟨o', ?_, hG'.mono (by simp)⟩
  rw [ct_eq (k + 1) 62 _ (d := t__law_worths_right) rfl]
  refine run_ret (e := [some o', some (.frz (pL (grp n r0))), some (.frz (pL (grp n r1))), some (.frz (fL (rgL n b))), some (.frz (iL (lotL n S))), q5, some (.frz (.tup [pL (grp n p0), pL (grp n p1)])), some (.frz (pL (grp n (rAnd r0 r1)))), q8, q9, q10, q11, q12]) ?_ rfl ⟨rfl, rfl⟩ rfl
  have hI : evalI (CC (k + 1)) (.rng1 (.int 3)) [some o, some (.frz (pL (grp n r0))), some (.frz (pL (grp n r1))), some (.frz (fL (rgL n b))), some (.frz (iL (lotL n S))), none, some (.frz (.tup [pL (grp n p0), pL (grp n p1)])), some (.frz (pL (grp n (rAnd r0 r1)))), none, none, none, none, none] = .ok ((List.range 3).map iD) [some o, some (.frz (pL (grp n r0))), some (.frz (pL (grp n r1))), some (.frz (fL (rgL n b))), some (.frz (iL (lotL n S))), none, some (.frz (.tup [pL (grp n p0), pL (grp n p1)])), some (.frz (pL (grp n (rAnd r0 r1)))), none, none, none, none, none] := by
    refine pI_ok ?_
    have := rngA_nat (n := 3) (by omega)
    rw [pI, pE, Option.bind_some]
    exact this
  have hpar : pS (CC (k + 1)) (.par [6, 7] [.e (.call 44 [.d (.var 1), .d (.var 2), .d (.var 3), .d (.var 4)] []), .e (.call 35 [.d (.var 1), .d (.var 2)] [])]) [some o, some (.frz (pL (grp n r0))), some (.frz (pL (grp n r1))), some (.frz (fL (rgL n b))), some (.frz (iL (lotL n S))), none, none, none, none, none, none, none, none] = some (.next [some o, some (.frz (pL (grp n r0))), some (.frz (pL (grp n r1))), some (.frz (fL (rgL n b))), some (.frz (iL (lotL n S))), none, some (.frz (.tup [pL (grp n p0), pL (grp n p1)])), some (.frz (pL (grp n (rAnd r0 r1)))), none, none, none, none, none]) := by
    generalize pL (grp n r0) = R0 at hby hbo ⊢
    generalize pL (grp n r1) = R1 at hby hbo ⊢
    generalize fL (rgL n b) = B at hby ⊢
    generalize iL (lotL n S) = Lt at hby ⊢
    simp [pSs, pS, pO, pOs, pE, pEs, pAnd1, pAnd2, pOr1, pOr2, pV, pVs, pA, pAs, pLs, pI, pF, pOpt, pIfs, En.at, En.put, get_v, get_r, list_v, list_iL, list_pL, list_fL, list_r, sub_v, sub_r, getAll, ownFree, tgIn, tgsIn, bindT_n, bindT_t, bindTs_nil, bindTs_cons, putAll, PR.bind, PR.val, O.toD, startE, frzL, hby, hbo]
  show execs (CC (k + 1)) (.par [6, 7] [.e (.call 44 _ _), .e (.call 35 _ _)] :: .for_ (.n 5) (.rng1 (.int 3)) (.asg 8 (.e (.call 58 _ _)) :: wrest) :: .ret (.e (.bl true)) :: []) [some o, some (.frz (pL (grp n r0))), some (.frz (pL (grp n r1))), some (.frz (fL (rgL n b))), some (.frz (iL (lotL n S))), none, none, none, none, none, none, none, none] = _
  generalize wrest = wr at hl ⊢
  rw [execs, pS_ok hpar]
  simp only [PR.f, bind_next]
  rw [execs, exec, hI]
  have hl' := congrArg (fun z => FRes.bind z (execs (CC (k + 1)) [.ret (.e (.bl true))])) hl
  exact hl'
end TL

set_option maxRecDepth 100000
namespace TL
open PySem
variable {k : Nat}
/-! the law -/
theorem ex_par2 {C : Cfg} {i j : Nat} {a b : TO} {ss : List TS} {e e1 e2 : En} {x y : O} (h1 : evalO C a e = .ok x e1) (h2 : evalO C b e1 = .ok y e2) : execs C (.par [i, j] [a, b] :: ss) e = execs C ss ((e2.put i x).put j y) := by
  simp [execs, exec, evalOs, h1, h2, Res.bind, Res.st, FRes.bind, putAll, optF]
theorem ex_if {C : Cfg} {c : TE} {a ss : List TS} {e e1 : En} (h : evalE C c e = .ok (.bl false) e1) : execs C (.if_ c a [] :: ss) e = execs C ss e1 := by
  simp [execs, exec, h, Res.st, FRes.bind]
theorem ev_not {C : Cfg} {a : TE} {e e1 : En} {b : Bool} (h : evalE C a e = .ok (.bl b) e1) : evalE C (.not_ a) e = .ok (.bl (!b)) e1 := by
  simp [evalE, h, Res.bind]
theorem ev_or3 {C : Cfg} {a b c : TE} {e e1 e2 e3 : En} (h1 : evalE C a e = .ok (.bl false) e1) (h2 : evalE C b e1 = .ok (.bl false) e2) (h3 : evalE C c e2 = .ok (.bl false) e3) : evalE C (.or_ [a, b, c]) e = .ok (.bl false) e3 := by
  simp [evalE, evalOr, h1, h2, h3, Res.bind]
theorem ev_cmp {C : Cfg} {op : COp} {a b : TE} {e e1 e2 : En} {x y : D} {z : Bool} (h1 : evalE C a e = .ok x e1) (h2 : evalE C b e1 = .ok y e2) (h : opC op x y = some z) : evalE C (.cmp op (.e a) (.e b)) e = .ok (.bl z) e2 := by
  simp [evalE, evalP, h1, h2, Res.bind, PV.get, h, ofOpt]
theorem loopC_sel {f : D → En → Res (Option D)} {I : Nat → En → Prop} {m M : Nat} (h : ∀ c d e, c < M → I c e → ∃ (z : Bool) (e' : En), f d e = .ok (if z then some d else none) e' ∧ I (c + m) e') : ∀ (l : List Nat) (c : Nat) (e : En), c + m * l.length < M → I c e → ∃ (l' : List Nat) (e' : En), loopC f (l.map iD) e = .ok (l'.map iD) e' ∧ l'.Sublist l ∧ I (c + m * l.length) e'
  | [], c, e, hM, hI => ⟨[], e, rfl, .slnil, (by simpa using hI)⟩
  | d :: ds, c, e, hM, hI => by
    rw [List.length_cons, Nat.mul_succ] at hM
    obtain ⟨z, e1, h1, h2⟩ := h c (iD d) e (by omega) hI
    obtain ⟨l', e2, g1, g2, g4⟩ := loopC_sel h ds (c + m) e1 (by omega) h2
    have e4 : c + m * (d :: ds).length = c + m + m * ds.length := by rw [List.length_cons, Nat.mul_succ]; omega
    rw [e4]
    cases z with
    | true =>
      refine ⟨d :: l', e2, ?_, .cons_cons d g2, g4⟩
      rw [List.map_cons, loopC, h1]
      simp only [Res.bind, if_true]
      rw [g1]
      rfl
    | false =>
      refine ⟨l', e2, ?_, .cons d g2, g4⟩
      rw [List.map_cons, loopC, h1]
      simp only [Res.bind, Bool.false_eq_true, if_false]
      rw [g1]
theorem sub_filter {l' l : List Nat} (h : l'.Sublist l) (hn : l.Nodup) : l.filter (fun s => l'.contains s) = l' := by
  induction h with
  | slnil => rfl
  | @cons l1 l2 a hs ih =>
    have ha := List.nodup_cons.mp hn
    have : ¬ a ∈ l1 := fun z => ha.1 (hs.subset z)
    rw [List.filter_cons]
    simp only [List.contains_eq_mem, this, decide_false, Bool.false_eq_true, if_false]
    have := ih ha.2
    simpa using this
  | @cons_cons l1 l2 a hs ih =>
    have ha := List.nodup_cons.mp hn
    rw [List.filter_cons]
    simp only [List.contains_cons, BEq.rfl, Bool.true_or, if_true]
    congr 1
    rw [← ih ha.2]
    apply List.filter_congr
    intro s hs'
    have : ¬ s = a := fun z => ha.1 (z ▸ hs')
    rw [ih ha.2]
    simp [this]
/-- plain data -/
theorem plain_iL {l : List Nat} (h : l.length ≤ 6) : plain 1 (iL l) = true := by
  unfold iL
  rw [plain]
  have : ∀ l : List Nat, plains 0 (l.map iD) = true := by
    intro l
    induction l with
    | nil => rfl
    | cons a l ih => rw [List.map_cons, plains, ih]; rfl
  rw [this]
  simp
  omega
theorem plain_pL {n : Nat} {P : List (List Nat)} (h : POk n P) (hP : P.length ≤ 6) : plain 2 (pL P) = true := by
  unfold pL
  rw [plain]
  have : ∀ L : List (List Nat), (∀ l ∈ L, l ∈ P) → plains 1 (L.map iL) = true := by
    intro L
    induction L with
    | nil => intro _; rfl
    | cons a L ih =>
      intro hL
      rw [List.map_cons, plains, ih fun l hl => hL l (List.mem_cons_of_mem _ hl), plain_iL (h.len (hL a List.mem_cons_self))]
      rfl
  rw [this P fun l hl => hl]
  simp
  omega
theorem plain_grp {n : Nat} {r : Nat → Nat → Bool} (h : Eqv r) (h1 : 1 ≤ n) (h2 : n ≤ 6) : plain 2 (pL (grp n r)) = true := plain_pL (grp_ok h h1 h2) (Nat.le_trans grp_len_le h2)
theorem plain_rg {n : Nat} (c : Nat → Rat) (h : n ≤ 6) : plain 2 (fL (rgL n c)) = true := by
  unfold fL
  rw [plain]
  have : ∀ L : List Rat, plains 1 (L.map fr) = true := by
    intro L
    induction L with
    | nil => rfl
    | cons a L ih => rw [List.map_cons, plains, ih]; rfl
  rw [this]
  simp [rgL_len]
  omega
/-- a lot that says nothing -/
theorem ch_all {n A : Nat} {r : Nat → Nat → Bool} (hr : Eqv r) {b : Nat → Rat} (hb : FulOk A n b) {s : Nat} (hs : s < n) : ch n r b (fun _ => true) s = 1 := by
  unfold ch
  have e : so n r b (fun _ => true) s = wh n r b s := by
    unfold so wh
    simp
  rw [e, Rat.div_def]
  have := wh_pos hr hb hs
  exact Rat.mul_inv_cancel _ (fun z => by rw [z] at this; exact absurd this (by decide))
theorem ch_none {n : Nat} {r : Nat → Nat → Bool} (b : Nat → Rat) (s : Nat) : ch n r b (fun _ => false) s = 0 := by
  unfold ch
  have e : so n r b (fun _ => false) s = 0 := by
    unfold so
    simp
    exact sumN_zero n
  rw [e, Rat.div_def, Rat.zero_mul]
theorem still_const {n : Nat} {b : Nat → Rat} {S : Nat → Bool} {r q : Nat → Nat → Bool} {x : Rat} (h : ∀ s, s < n → ch n r b S s = x) : Still n b S r q := by
  refine grp_congr fun s t hs ht => ?_
  simp [nx, rAnd, kr, h s hs, h t ht]
theorem rg_const {n : Nat} {c : Nat → Rat} {x : Rat} (h : ∀ s, s < n → c s = x) : rgL n c = rgL n fun _ => x := by
  unfold rgL
  apply List.map_congr_left
  intro s hs
  exact h s (List.mem_range.mp hs)
theorem lot_all (n : Nat) : lotL n (fun _ => true) = List.range n := by unfold lotL; simp [List.filter_eq_self]
theorem lot_none (n : Nat) : lotL n (fun _ => false) = [] := by unfold lotL; simp [List.filter_eq_nil_iff]
def lawRest : List TS := [.asg 4 (.e (.call 44 [.d (.var 6), .d (.var 7), .d (.var 8), .d (.var 9)] [])), .asg 5 (.e (.call 43 [.d (.sub (.e (.var 4)) (.int 0)), .d (.sub (.e (.var 4)) (.int 1)), .d (.var 8), .d (.var 9)] [])), .if_ (.not_ (.call 57 [.d (.f (.lst [.e (.int 2), .e (.f (.lst [.e (.sub (.e (.var 4)) (.int 1)), .e (.sub (.e (.var 4)) (.int 0))])), .e (.var 4)])), .d (.f (.lst [.e (.blt .len [.e (.var 5)]), .e (.f (.comp (.sub (.e (.var 13)) (.int 2)) (.n 13) (.seq (.var 5)) [] [13])), .e (.call 44 [.d (.sub (.e (.var 4)) (.int 0)), .d (.sub (.e (.var 4)) (.int 1)), .d (.var 8), .d (.var 9)] [])]))] [])) [.ret (.e (.bl false))] [], .par [10, 11] [.e (.f (.list_ (.rng1 (.var 3)))), .e (.f (.lst []))], .if_ (.not_ (.call 57 [.d (.f (.lst [.e (.f (.rep (.e (.f (.lst [.e (.tup [.e (.int 1), .e (.int 1)])]))) (.var 3))), .e (.f (.rep (.e (.f (.lst [.e (.tup [.e (.int 0), .e (.int 1)])]))) (.var 3)))])), .d (.f (.lst [.e (.call 45 [.d (.var 6), .d (.var 7), .d (.var 8), .d (.var 10)] []), .e (.call 45 [.d (.var 6), .d (.var 7), .d (.var 8), .d (.var 11)] [])]))] [])) [.ret (.e (.bl false))] [], .if_ (.not_ (.call 57 [.d (.f (.rep (.e (.f (.lst [.e (.tup [.e (.var 6), .e (.var 7)])]))) (.int 2))), .d (.f (.lst [.e (.call 44 [.d (.var 6), .d (.var 7), .d (.var 8), .d (.var 10)] []), .e (.call 44 [.d (.var 6), .d (.var 7), .d (.var 8), .d (.var 11)] [])]))] [])) [.ret (.e (.bl false))] []]
theorem repC_two (d : D) : repC [d] 2 = some [d, d] := by
  rw [repC_eq]; unfold rep0
  have : smallI 2 = true := by decide
  rw [this]
  simp [listLine, List.replicate]
theorem law_rest (hk : 12 ≤ k) {A n : Nat} {r0 r1 : Nat → Nat → Bool} (h0 : Eqv r0) (h1 : Eqv r1) {b : Nat → Rat} (hb : FulOk A n b) (S : Nat → Bool) (a0 a1 a2 a4 a5 a10 a11 : Option O) : ∃ b4 b5 b10 b11, pSs (CC k) lawRest [a0, a1, a2, some (.frz (.int n)), a4, a5, some (.frz (pL (grp n r0))), some (.frz (pL (grp n r1))), some (.frz (fL (rgL n b))), some (.frz (iL (lotL n S))), a10, a11, none, none] = some (.next [a0, a1, a2, some (.frz (.int n)), b4, b5, some (.frz (pL (grp n r0))), some (.frz (pL (grp n r1))), some (.frz (fL (rgL n b))), some (.frz (iL (lotL n S))), b10, b11, none, none]) := by
  obtain ⟨k, rfl⟩ : ∃ j, k = j + 1 := ⟨k - 1, by omega⟩
  obtain ⟨fs, p0, p1, E, ht⟩ := p_tellings (k := k) (by omega) h0 h1 hb S
  have hn := hb.n2
  have hby := agreed_by_of (k := k) (by omega) h0 h1 hb S ht
  have htd := p_told (k := k + 1) (by omega) E.g0 E.g1 hb S E.t0 E.t1
  have hby2 := agreed_by_of (k := k) (by omega) E.g0 E.g1 hb S (p_tellings_still (k := k) (by omega) E.g0 E.g1 hb S E.t0 E.t1)
  have s2 : ∀ x y z : D, subD (.tup [x, y, z]) (.int 2) = some z := fun _ _ _ => rfl
  have sA : ∀ x y : D, subD (.tup [x, y]) (.int 0) = some x := fun _ _ => rfl
  have sB : ∀ x y : D, subD (.tup [x, y]) (.int 1) = some y := fun _ _ => rfl
  have row0 : subD (row n b S 0 p0 p1) (.int 2) = some (pL (grp n p1)) := by
    unfold row
    rw [s2, show grp n (nx n b S p0 p1) = grp n p1 from E.t1]
  have row1 : subD (row n b S 1 p1 p0) (.int 2) = some (pL (grp n p0)) := by
    unfold row
    rw [s2, show grp n (nx n b S p1 p0) = grp n p0 from E.t0]
  have pl0 := plain_grp E.g0 hb.n1 hn
  have pl1 := plain_grp E.g1 hb.n1 hn
  have qr0 := plain_grp h0 hb.n1 hn
  have qr1 := plain_grp h1 hb.n1 hn
  have x1 := p_exact 4 (.lst [.int 2, .lst [pL (grp n p1), pL (grp n p0)], .tup [pL (grp n p0), pL (grp n p1)]]) (by simp [plain, plains, pl0, pl1]) (k + 1) (by omega)
  have x3 := p_exact 4 (.lst [.tup [pL (grp n r0), pL (grp n r1)], .tup [pL (grp n r0), pL (grp n r1)]]) (by simp [plain, plains, qr0, qr1]) (k + 1) (by omega)
  have x2 := p_exact 3 (.lst [fL (rgL n fun _ => 1), fL (rgL n fun _ => 0)]) (by simp [plain, plains, plain_rg _ hn]) (k + 1) (by omega)
  -- all, none
  have t0 := still_const (n := n) (q := r1) (fun s hs => ch_all h0 hb hs)
  have t1 := still_const (n := n) (q := r0) (fun s hs => ch_all h1 hb hs)
  have u0 := still_const (n := n) (r := r0) (q := r1) (b := b) (fun s hs => ch_none b s)
  have u1 := still_const (n := n) (r := r1) (q := r0) (b := b) (fun s hs => ch_none b s)
  have ta := p_tellings_still (k := k) (by omega) h0 h1 hb (fun _ => true) t1 t0
  have tn := p_tellings_still (k := k) (by omega) h0 h1 hb (fun _ => false) u1 u0
  have ga := agreed_of (k := k) (by omega) h0 h1 h0 hb (fun _ => true) ta
  have gn := agreed_of (k := k) (by omega) h0 h1 h0 hb (fun _ => false) tn
  have ba := agreed_by_of (k := k) (by omega) h0 h1 hb (fun _ => true) ta
  have bn := agreed_by_of (k := k) (by omega) h0 h1 hb (fun _ => false) tn
  rw [rg_const fun s hs => ch_all h0 hb hs, lot_all] at ga
  rw [rg_const (x := 0) fun s hs => ch_none b s, lot_none] at gn
  rw [lot_all] at ba
  rw [lot_none] at bn
  have rep1 : repC [fr 1] (n : Int) = some ((List.range n).map fun _ => fr 1) := repC_one _ hn
  have rep0 : repC [fr 0] (n : Int) = some ((List.range n).map fun _ => fr 0) := repC_one _ hn
  have l1 : D.lst ((List.range n).map fun _ => fr 1) = fL (rgL n fun _ => 1) := by unfold fL rgL; rw [List.map_map]; rfl
  have l0 : D.lst ((List.range n).map fun _ => fr 0) = fL (rgL n fun _ => 0) := by unfold fL rgL; rw [List.map_map]; rfl
  have hr2 := repC_two (.tup [pL (grp n r0), pL (grp n r1)])
  have hrow : ∀ z w : D, opX .len [.lst [z, w]] = some (.int 2) := fun _ _ => rfl
  generalize pL (grp n p0) = P0 at *
  generalize pL (grp n p1) = P1 at *
  generalize pL (grp n r0) = R0 at *
  generalize pL (grp n r1) = R1 at *
  generalize hB : fL (rgL n b) = B at *
  generalize row n b S 0 p0 p1 = w0 at *
  generalize row n b S 1 p1 p0 = w1 at *
  generalize hF1 : fL (rgL n fun _ => 1) = F1 at *
  generalize hF0 : fL (rgL n fun _ => 0) = F0 at *
  generalize hLt : iL (lotL n S) = Lt at *
  generalize hZ : iL [] = Z at *
  generalize hW : iL (List.range n) = W at *
  refine ⟨some (.frz (.tup [P0, P1])), some (.frz (.lst [w0, w1])), some (.frz W), some (.frz Z), ?_⟩
  unfold lawRest
  refine (pSs_step (e' := [a0, a1, a2, some (.frz (.int n)), some (.frz (.tup [P0, P1])), a5, some (.frz R0), some (.frz R1), some (.frz B), some (.frz Lt), a10, a11, none, none]) ?_).trans ?_
  · simp [pSs, pS, pO, pOs, pE, pEs, pAnd1, pAnd2, pOr1, pOr2, pV, pVs, pA, pAs, pLs, pI, pF, pOpt, pIfs, En.at, En.put, get_v, get_r, list_v, list_iL, list_pL, list_fL, list_r, sub_v, sub_r, getAll, ownFree, tgIn, tgsIn, bindT_n, bindT_t, bindTs_nil, bindTs_cons, putAll, PR.bind, PR.val, O.toD, startE, frzL, hby]
  refine (pSs_step (e' := [a0, a1, a2, some (.frz (.int n)), some (.frz (.tup [P0, P1])), some (.frz (.lst [w0, w1])), some (.frz R0), some (.frz R1), some (.frz B), some (.frz Lt), a10, a11, none, none]) ?_).trans ?_
  · simp [pSs, pS, pO, pOs, pE, pEs, pAnd1, pAnd2, pOr1, pOr2, pV, pVs, pA, pAs, pLs, pI, pF, pOpt, pIfs, En.at, En.put, get_v, get_r, list_v, list_iL, list_pL, list_fL, list_r, sub_v, sub_r, getAll, ownFree, tgIn, tgsIn, bindT_n, bindT_t, bindTs_nil, bindTs_cons, putAll, PR.bind, PR.val, O.toD, startE, frzL, sA, sB, htd]
  refine (pSs_step (e' := [a0, a1, a2, some (.frz (.int n)), some (.frz (.tup [P0, P1])), some (.frz (.lst [w0, w1])), some (.frz R0), some (.frz R1), some (.frz B), some (.frz Lt), a10, a11, none, none]) ?_).trans ?_
  · simp [pSs, pS, pO, pOs, pE, pEs, pAnd1, pAnd2, pOr1, pOr2, pV, pVs, pA, pAs, pLs, pI, pF, pOpt, pIfs, En.at, En.put, get_v, get_r, list_v, list_iL, list_pL, list_fL, list_r, sub_v, sub_r, getAll, ownFree, tgIn, tgsIn, bindT_n, bindT_t, bindTs_nil, bindTs_cons, putAll, PR.bind, PR.val, O.toD, startE, frzL, sA, sB, hby2, mfM, row0, row1, hrow, x1]
  refine (pSs_step (e' := [a0, a1, a2, some (.frz (.int n)), some (.frz (.tup [P0, P1])), some (.frz (.lst [w0, w1])), some (.frz R0), some (.frz R1), some (.frz B), some (.frz Lt), some (.frz W), some (.frz Z), none, none]) ?_).trans ?_
  · simp [pSs, pS, pO, pOs, pE, pEs, pAnd1, pAnd2, pOr1, pOr2, pV, pVs, pA, pAs, pLs, pI, pF, pOpt, pIfs, En.at, En.put, get_v, get_r, list_v, list_iL, list_pL, list_fL, list_r, sub_v, sub_r, getAll, ownFree, tgIn, tgsIn, bindT_n, bindT_t, bindTs_nil, bindTs_cons, putAll, PR.bind, PR.val, O.toD, startE, frzL, rngA_nat (show n < 4000000 by omega), lst_iL, hW, nil_iL, hZ]
  refine (pSs_step (e' := [a0, a1, a2, some (.frz (.int n)), some (.frz (.tup [P0, P1])), some (.frz (.lst [w0, w1])), some (.frz R0), some (.frz R1), some (.frz B), some (.frz Lt), some (.frz W), some (.frz Z), none, none]) ?_).trans ?_
  · simp [pSs, pS, pO, pOs, pE, pEs, pAnd1, pAnd2, pOr1, pOr2, pV, pVs, pA, pAs, pLs, pI, pF, pOpt, pIfs, En.at, En.put, get_v, get_r, list_v, list_iL, list_pL, list_fL, list_r, sub_v, sub_r, getAll, ownFree, tgIn, tgsIn, bindT_n, bindT_t, bindTs_nil, bindTs_cons, putAll, PR.bind, PR.val, O.toD, startE, frzL, fr1, fr0, intD, rep1, rep0, l1, l0, hF1, hF0, ga, gn, x2]
  refine (pSs_step (e' := [a0, a1, a2, some (.frz (.int n)), some (.frz (.tup [P0, P1])), some (.frz (.lst [w0, w1])), some (.frz R0), some (.frz R1), some (.frz B), some (.frz Lt), some (.frz W), some (.frz Z), none, none]) ?_).trans ?_
  · simp [pSs, pS, pO, pOs, pE, pEs, pAnd1, pAnd2, pOr1, pOr2, pV, pVs, pA, pAs, pLs, pI, pF, pOpt, pIfs, En.at, En.put, get_v, get_r, list_v, list_iL, list_pL, list_fL, list_r, sub_v, sub_r, getAll, ownFree, tgIn, tgsIn, bindT_n, bindT_t, bindTs_nil, bindTs_cons, putAll, PR.bind, PR.val, O.toD, startE, frzL, intD, hr2, ba, bn, x3]
  · rw [pSs]
end TL

set_option maxRecDepth 100000
namespace TL
open PySem
variable {k : Nat}
theorem lot_drawn (hk : 2 ≤ k) {n C : Nat} {o : O} (hn : n ≤ 6) (hG : Gen C o) (hC : C < 600000) (a0 a1 a4 a5 a6 a7 a8 a9 a10 a11 : Option O) : ∃ (S : Nat → Bool) (o' : O), evalF (CC k) (.comp (.var 12) (.n 12) (.rng1 (.var 3)) [.cmp .eq (.e (.call 52 [.b 2, .d (.int 2)] [])) (.e (.int 0))] [12]) [a0, a1, some o, some (.frz (.int n)), a4, a5, a6, a7, a8, a9, a10, a11, none, none] = .ok ((lotL n S).map iD) [a0, a1, some o', some (.frz (.int n)), a4, a5, a6, a7, a8, a9, a10, a11, none, none] ∧ Gen (C + 10) o' := by
  have hI : evalI (CC k) (.rng1 (.var 3)) [a0, a1, some o, some (.frz (.int n)), a4, a5, a6, a7, a8, a9, a10, a11, none, none] = .ok ((List.range n).map iD) [a0, a1, some o, some (.frz (.int n)), a4, a5, a6, a7, a8, a9, a10, a11, none, none] := by
    refine pI_ok ?_
    simp [pSs, pS, pO, pOs, pE, pEs, pAnd1, pAnd2, pOr1, pOr2, pV, pVs, pA, pAs, pLs, pI, pF, pOpt, pIfs, En.at, En.put, get_v, get_r, list_v, list_iL, list_pL, list_fL, list_r, sub_v, sub_r, getAll, ownFree, tgIn, tgsIn, bindT_n, bindT_t, bindTs_nil, bindTs_cons, putAll, PR.bind, PR.val, O.toD, startE, frzL, rngA_nat (show n < 4000000 by omega)]
  obtain ⟨l', e', h1, h2, h3⟩ := loopC_sel (M := 700000) (m := 1) (f := fun d e => match bindT (.n 12) d e with
      | none => .stuck
      | some e => (evalIfs (CC k) [.cmp .eq (.e (.call 52 [.b 2, .d (.int 2)] [])) (.e (.int 0))] e).bind fun b e => if b then (evalE (CC k) (.var 12) e).bind fun x e => .ok (some x) (wipeE e [12]) else .ok none (wipeE e [12]))
    (I := fun c e => ∃ o, e = [a0, a1, some o, some (.frz (.int n)), a4, a5, a6, a7, a8, a9, a10, a11, none, none] ∧ Gen c o) (fun c d e hc hI => by
      obtain ⟨o1, rfl, hG1⟩ := hI
      obtain ⟨x, o2, hx, hx2, hG2⟩ := ev_rand (k := k) hk (e := [a0, a1, some o1, some (.frz (.int n)), a4, a5, a6, a7, a8, a9, a10, a11, some (.frz d), none]) (j := 2) (b := 2) (t := .int 2) rfl hG1 (by omega) (by omega) (by omega) rfl
      have hc := ev_cmp (op := .eq) hx (show evalE (CC k) (.int 0) _ = .ok (.int 0) _ from by rw [evalE]) (z := decide ((x : Int) = 0)) (eq_int _ _)
      refine ⟨decide ((x : Int) = 0), [a0, a1, some o2, some (.frz (.int n)), a4, a5, a6, a7, a8, a9, a10, a11, none, none], ?_, o2, rfl, hG2⟩
      have hb : bindT (.n 12) d [a0, a1, some o1, some (.frz (.int n)), a4, a5, a6, a7, a8, a9, a10, a11, none, none] = some [a0, a1, some o1, some (.frz (.int n)), a4, a5, a6, a7, a8, a9, a10, a11, some (.frz d), none] := by rw [bindT]; rfl
      generalize TE.cmp .eq (.e (.call 52 [.b 2, .d (.int 2)] [])) (.e (.int 0)) = cc at hc ⊢
      have hc : evalE (CC k) cc [a0, a1, some o1, some (.frz (.int n)), a4, a5, a6, a7, a8, a9, a10, a11, some (.frz d), none] = .ok (.bl (decide ((x : Int) = 0))) [a0, a1, some o2, some (.frz (.int n)), a4, a5, a6, a7, a8, a9, a10, a11, some (.frz d), none] := hc
      simp only [hb, evalIfs, hc, Res.bind]
      cases decide ((x : Int) = 0) with
      | true =>
        simp only [if_true]
        rw [evalE]
        rfl
      | false => rfl) (List.range n) C [a0, a1, some o, some (.frz (.int n)), a4, a5, a6, a7, a8, a9, a10, a11, none, none] (by simp; omega) ⟨o, rfl, hG⟩
  obtain ⟨o', rfl, hG'⟩ := h3
  refine ⟨fun s => l'.contains s, o', ?_, hG'.mono (by simp; omega)⟩
  have e : lotL n (fun s => l'.contains s) = l' := sub_filter h2 List.nodup_range
  rw [e, evalF, hI]
  have := congrArg noExc h1
  exact this
def lawTurn : List TS := .asg 2 (.call 54 [.d (.var 0), .d (.var 1)] []) :: .asg 3 (.e (.bin .add (.e (.int 2)) (.e (.call 52 [.b 2, .d (.int 5)] [])))) :: .par [6, 7] [.e (.call 59 [.b 2, .d (.var 3)] []), .e (.call 59 [.b 2, .d (.var 3)] [])] :: .par [8, 9] [.e (.call 60 [.b 2, .d (.var 3)] []), .e (.f (.comp (.var 12) (.n 12) (.rng1 (.var 3)) [.cmp .eq (.e (.call 52 [.b 2, .d (.int 2)] [])) (.e (.int 0))] [12]))] :: .if_ (.or_ [.not_ (.call 61 [.d (.var 6), .d (.var 7), .d (.var 8), .d (.var 9)] []), .not_ (.call 61 [.d (.var 7), .d (.var 6), .d (.var 8), .d (.var 9)] []), .not_ (.call 62 [.b 2, .d (.var 6), .d (.var 7), .d (.var 8), .d (.var 9)] [])]) [.ret (.e (.bl false))] [] :: lawRest
theorem var_ok {C : Cfg} {j : Nat} {d : D} {e : En} (h : e.at j = some (.frz d)) : evalE C (.var j) e = .ok d e := by
  refine pE_ok ?_
  rw [pE, h]
theorem law_turn (hk : 20 ≤ k) {ns : List Int} {i : Nat} (hi : i < 4) (a2 a3 a4 a5 a6 a7 a8 a9 a10 a11 : Option O) : ∃ b2 b3 b4 b5 b6 b7 b8 b9 b10 b11, execs (CC k) lawTurn [some (.frz (.scr ns)), some (.frz (iD i)), a2, a3, a4, a5, a6, a7, a8, a9, a10, a11, none, none] = .next [some (.frz (.scr ns)), some (.frz (iD i)), b2, b3, b4, b5, b6, b7, b8, b9, b10, b11, none, none] := by
  obtain ⟨k, rfl⟩ : ∃ j, k = j + 1 := ⟨k - 1, by omega⟩
  obtain ⟨o, ho, hG⟩ := p_generator (k := k + 1) (by omega) ns i hi
  have hgen : evalO (CC (k + 1)) (.call 54 [.d (.var 0), .d (.var 1)] []) [some (.frz (.scr ns)), some (.frz (iD i)), a2, a3, a4, a5, a6, a7, a8, a9, a10, a11, none, none] = .ok o [some (.frz (.scr ns)), some (.frz (iD i)), a2, a3, a4, a5, a6, a7, a8, a9, a10, a11, none, none] := by
    refine pO_ok ?_
    simp [pSs, pS, pO, pOs, pE, pEs, pAnd1, pAnd2, pOr1, pOr2, pV, pVs, pA, pAs, pLs, pI, pF, pOpt, pIfs, En.at, En.put, get_v, get_r, list_v, list_iL, list_pL, list_fL, list_r, sub_v, sub_r, getAll, ownFree, tgIn, tgsIn, bindT_n, bindT_t, bindTs_nil, bindTs_cons, putAll, PR.bind, PR.val, O.toD, startE, frzL, iD_def, ho]
  obtain ⟨x, o1, hx, hx2, hG1⟩ := ev_rand (k := k + 1) (by omega) (e := [some (.frz (.scr ns)), some (.frz (iD i)), some o, a3, a4, a5, a6, a7, a8, a9, a10, a11, none, none]) (j := 2) (b := 5) (t := .int 5) rfl hG (by omega) (by omega) (by omega) rfl
  have hx : evalE (CC (k + 1)) (.call 52 [.b 2, .d (.int 5)] []) [some (.frz (.scr ns)), some (.frz (iD i)), some o, a3, a4, a5, a6, a7, a8, a9, a10, a11, none, none] = .ok (.int x) [some (.frz (.scr ns)), some (.frz (iD i)), some o1, a3, a4, a5, a6, a7, a8, a9, a10, a11, none, none] := hx
  have hadd : opB .add (.int 2) (.int (x : Int)) = some (.int ((2 + x : Nat) : Int)) := by
    show some (D.int (2 + (x : Int))) = _
    rw [Int.natCast_add]; rfl
  have hmany := ev_bin (show evalE (CC (k + 1)) (.int 2) _ = .ok (.int 2) _ from by rw [evalE]) hx hadd
  have hn1 : 1 ≤ 2 + x := by omega
  have hn2 : 2 + x ≤ 6 := by omega
  generalize hnn : 2 + x = n at hmany hn1 hn2
  obtain ⟨r0, o2, hp0, hr0, hG2⟩ := c_parts (k := k) (by omega) hn2 hG1 (by omega)
  obtain ⟨r1, o3, hp1, hr1, hG3⟩ := c_parts (k := k) (by omega) hn2 hG2 (by omega)
  obtain ⟨b, xb, o4, hb, hxb, hbok, hG4⟩ := c_full (k := k) (by omega) hn1 hn2 hG3 (by omega)
  obtain ⟨S, o5, hlot, hG5⟩ := lot_drawn (k := k + 1) (by omega) (n := n) hn2 hG4 (by omega) (some (.frz (.scr ns))) (some (.frz (iD i))) a4 a5 (some (.frz (pL (grp n r0)))) (some (.frz (pL (grp n r1)))) a8 a9 a10 a11
  have hk1 := p_known_right (k := k + 1) (by omega) hr0 hr1 hbok S
  have hk2 := p_known_right (k := k + 1) (by omega) hr1 hr0 hbok S
  obtain ⟨o6, hw, hG6⟩ := c_worths (k := k) (by omega) hr0 hr1 hbok S hG5 (by omega)
  obtain ⟨b4, b5, b10, b11, hrest⟩ := law_rest (k := k + 1) (by omega) hr0 hr1 hbok S (some (.frz (.scr ns))) (some (.frz (iD i))) (some o6) a4 a5 a10 a11
  refine ⟨some o6, some (.frz (.int n)), b4, b5, some (.frz (pL (grp n r0))), some (.frz (pL (grp n r1))), some (.frz (fL (rgL n b))), some (.frz (iL (lotL n S))), b10, b11, ?_⟩
  unfold lawTurn
  rw [ex_asg hgen]
  show execs (CC (k + 1)) (.asg 3 _ :: _) [some (.frz (.scr ns)), some (.frz (iD i)), some o, a3, a4, a5, a6, a7, a8, a9, a10, a11, none, none] = _
  rw [ex_asg (ev_oe hmany)]
  show execs (CC (k + 1)) (.par _ _ :: _) [some (.frz (.scr ns)), some (.frz (iD i)), some o1, some (.frz (.int n)), a4, a5, a6, a7, a8, a9, a10, a11, none, none] = _
  -- parts
  have call1 : ∀ (f : Nat) (oa ob xx : O) (b6 b7 b8 b9 : Option O), CT (k + 1) f [oa, .frz (.int n)] = .ok xx [some ob, none] → evalO (CC (k + 1)) (.e (.call f [.b 2, .d (.var 3)] [])) [some (.frz (.scr ns)), some (.frz (iD i)), some oa, some (.frz (.int n)), a4, a5, b6, b7, b8, b9, a10, a11, none, none] = .ok (.frz xx.toD) [some (.frz (.scr ns)), some (.frz (iD i)), some ob, some (.frz (.int n)), a4, a5, b6, b7, b8, b9, a10, a11, none, none] := by
    intro f oa ob xx b6 b7 b8 b9 h
    have h' : (CC (k + 1)).call f (oa :: [D.int (n : Int)].map O.frz) = .ok xx (some ob :: [none]) := by
      rw [call_CT, List.map_cons, List.map_nil]
      exact h
    have hd := doCall_b (C := CC (k + 1)) (f := f) (j := 2) (ds := [.int (n : Int)]) (e := [some (.frz (.scr ns)), some (.frz (iD i)), some oa, some (.frz (.int n)), a4, a5, b6, b7, b8, b9, a10, a11, none, none]) (o := oa) (o' := ob) (x := xx) (outs := [none]) (by rfl) h' (by rfl)
    exact ev_oe (ev_call (perm := []) (as_b (j := 2) (o := oa) (by rfl) (as_d (var_ok (j := 3) (d := .int n) (by rfl)) as_nil)) hd)
  rw [ex_par2 (call1 _ o1 o2 _ a6 a7 a8 a9 hp0) (call1 _ o2 o3 _ a6 a7 a8 a9 hp1)]
  show execs (CC (k + 1)) (.par _ _ :: _) [some (.frz (.scr ns)), some (.frz (iD i)), some o3, some (.frz (.int n)), a4, a5, some (.frz (pL (grp n r0))), some (.frz (pL (grp n r1))), a8, a9, a10, a11, none, none] = _
  rw [ex_par2 (call1 _ o3 o4 _ _ _ a8 a9 hb) (ev_oe (ev_f hlot)), hxb]
  show execs (CC (k + 1)) (.if_ _ _ _ :: _) [some (.frz (.scr ns)), some (.frz (iD i)), some o5, some (.frz (.int n)), a4, a5, some (.frz (pL (grp n r0))), some (.frz (pL (grp n r1))), some (.frz (fL (rgL n b))), some (.frz (iL (lotL n S))), a10, a11, none, none] = _
  have e1 : evalE (CC (k + 1)) (.call 61 [.d (.var 6), .d (.var 7), .d (.var 8), .d (.var 9)] []) [some (.frz (.scr ns)), some (.frz (iD i)), some o5, some (.frz (.int n)), a4, a5, some (.frz (pL (grp n r0))), some (.frz (pL (grp n r1))), some (.frz (fL (rgL n b))), some (.frz (iL (lotL n S))), a10, a11, none, none] = .ok (.bl true) [some (.frz (.scr ns)), some (.frz (iD i)), some o5, some (.frz (.int n)), a4, a5, some (.frz (pL (grp n r0))), some (.frz (pL (grp n r1))), some (.frz (fL (rgL n b))), some (.frz (iL (lotL n S))), a10, a11, none, none] := by
    refine pE_ok ?_
    simp [pSs, pS, pO, pOs, pE, pEs, pAnd1, pAnd2, pOr1, pOr2, pV, pVs, pA, pAs, pLs, pI, pF, pOpt, pIfs, En.at, En.put, get_v, get_r, list_v, list_iL, list_pL, list_fL, list_r, sub_v, sub_r, getAll, ownFree, tgIn, tgsIn, bindT_n, bindT_t, bindTs_nil, bindTs_cons, putAll, PR.bind, PR.val, O.toD, startE, frzL, hk1]
  have e2 : evalE (CC (k + 1)) (.call 61 [.d (.var 7), .d (.var 6), .d (.var 8), .d (.var 9)] []) [some (.frz (.scr ns)), some (.frz (iD i)), some o5, some (.frz (.int n)), a4, a5, some (.frz (pL (grp n r0))), some (.frz (pL (grp n r1))), some (.frz (fL (rgL n b))), some (.frz (iL (lotL n S))), a10, a11, none, none] = .ok (.bl true) [some (.frz (.scr ns)), some (.frz (iD i)), some o5, some (.frz (.int n)), a4, a5, some (.frz (pL (grp n r0))), some (.frz (pL (grp n r1))), some (.frz (fL (rgL n b))), some (.frz (iL (lotL n S))), a10, a11, none, none] := by
    refine pE_ok ?_
    simp [pSs, pS, pO, pOs, pE, pEs, pAnd1, pAnd2, pOr1, pOr2, pV, pVs, pA, pAs, pLs, pI, pF, pOpt, pIfs, En.at, En.put, get_v, get_r, list_v, list_iL, list_pL, list_fL, list_r, sub_v, sub_r, getAll, ownFree, tgIn, tgsIn, bindT_n, bindT_t, bindTs_nil, bindTs_cons, putAll, PR.bind, PR.val, O.toD, startE, frzL, hk2]
  have hw' : (CC (k + 1)).call 62 (o5 :: [pL (grp n r0), pL (grp n r1), fL (rgL n b), iL (lotL n S)].map O.frz) = .ok (.frz (.bl true)) (some o6 :: [none, none, none, none]) := by
    rw [call_CT, List.map_cons, List.map_cons, List.map_cons, List.map_cons, List.map_nil]
    exact hw
  have hd3 := doCall_b (C := CC (k + 1)) (f := 62) (j := 2) (ds := [pL (grp n r0), pL (grp n r1), fL (rgL n b), iL (lotL n S)]) (e := [some (.frz (.scr ns)), some (.frz (iD i)), some o5, some (.frz (.int n)), a4, a5, some (.frz (pL (grp n r0))), some (.frz (pL (grp n r1))), some (.frz (fL (rgL n b))), some (.frz (iL (lotL n S))), a10, a11, none, none]) (o := o5) (o' := o6) (x := .frz (.bl true)) (outs := [none, none, none, none]) (by rfl) hw' (by rfl)
  have e3 := ev_call (perm := []) (as_b (C := CC (k + 1)) (j := 2) (o := o5) (by rfl) (as_d (var_ok (j := 6) (d := pL (grp n r0)) (by rfl)) (as_d (var_ok (j := 7) (d := pL (grp n r1)) (by rfl)) (as_d (var_ok (j := 8) (d := fL (rgL n b)) (by rfl)) (as_d (var_ok (j := 9) (d := iL (lotL n S)) (by rfl)) as_nil))))) hd3
  rw [ex_if (ev_or3 (ev_not e1) (ev_not e2) (ev_not e3))]
  exact pSs_ok hrest
theorem law_loop (hk : 20 ≤ k) (ns : List Int) : ∀ (l : List Nat), (∀ i ∈ l, i < 4) → ∀ (a1 a2 a3 a4 a5 a6 a7 a8 a9 a10 a11 : Option O), ∃ e', loopF (fun d e => match bindT (.n 1) d e with
    | some e => execs (CC k) lawTurn e
    | none => .stuck) (l.map iD) [some (.frz (.scr ns)), a1, a2, a3, a4, a5, a6, a7, a8, a9, a10, a11, none, none] = .next e' := by
  intro l
  induction l with
  | nil => intro _ a1 a2 a3 a4 a5 a6 a7 a8 a9 a10 a11; exact ⟨_, rfl⟩
  | cons i l ih =>
    intro hl a1 a2 a3 a4 a5 a6 a7 a8 a9 a10 a11
    obtain ⟨b2, b3, b4, b5, b6, b7, b8, b9, b10, b11, h⟩ := law_turn (k := k) hk (ns := ns) (hl i List.mem_cons_self) a2 a3 a4 a5 a6 a7 a8 a9 a10 a11
    obtain ⟨e', h'⟩ := ih (fun j hj => hl j (List.mem_cons_of_mem _ hj)) (some (.frz (iD i))) b2 b3 b4 b5 b6 b7 b8 b9 b10 b11
    refine ⟨e', ?_⟩
    rw [List.map_cons, loopF, ← h']
    generalize lawTurn = lt at h ⊢
    refine Eq.trans (congrArg (fun z => FRes.bind z _) h) ?_
    rfl
theorem plain_law (ns : List Int) : ∃ outs, CT 40 63 [.frz (.scr ns)] = .ok (.frz (.bl true)) outs := by
  obtain ⟨e', h⟩ := law_loop (k := 39) (by omega) ns (List.range 4) (fun i hi => List.mem_range.mp hi) none none none none none none none none none none none
  refine ⟨outsOf [false] e', ?_⟩
  rw [ct_eq 39 63 _ (d := t_law) rfl]
  refine run_ret (e := e') ?_ rfl ⟨rfl, rfl⟩ rfl
  have hI : evalI (CC 39) (.rng1 (.int 4)) [some (.frz (.scr ns)), none, none, none, none, none, none, none, none, none, none, none, none, none] = .ok ((List.range 4).map iD) [some (.frz (.scr ns)), none, none, none, none, none, none, none, none, none, none, none, none, none] := by
    refine pI_ok ?_
    have := rngA_nat (n := 4) (by omega)
    rw [pI, pE, Option.bind_some]
    exact this
  show execs (CC 39) (.for_ (.n 1) (.rng1 (.int 4)) lawTurn :: .ret (.e (.bl true)) :: []) [some (.frz (.scr ns)), none, none, none, none, none, none, none, none, none, none, none, none, none] = _
  generalize lawTurn = lt at h ⊢
  rw [execs, exec, hI]
  exact congrArg (fun z => FRes.bind z (execs (CC 39) [.ret (.e (.bl true))])) h
end TL

set_option maxRecDepth 100000
set_option maxHeartbeats 0
namespace TL
open PySem PySem.Spec PyProof.Rows L2
def top (i : Nat) : Stmt := PySem.Challenge.pw_lookstell_k98_whole_what_agreeing_is_wor.main.body.getD i (.Pass ⟨0, 0, 0, 0⟩)
def dOf (x : Str) (i : Nat) : He.DefD := ⟨(x, none), x, x, defArgs (top i), defBody (top i), defScope (top i), [], []⟩
def fnD0 : List He.DefD := [dOf "is_whole" 9, dOf "common_divisor" 10, dOf "lowest" 11, dOf "is_fraction" 12, dOf "is_amount" 13, dOf "plus" 14, dOf "times" 15, dOf "over" 16, dOf "is_less" 17, dOf "summed" 18, dOf "are_chances" 19, dOf "are_fractions" 20, dOf "greatest" 21, dOf "product" 22, dOf "is_look_by" 27, dOf "check_look" 28, dOf "standings_of" 29, dOf "marks_of" 30, dOf "column_of" 31, dOf "is_belief_by" 32, dOf "check_belief" 33, dOf "is_game_by" 34, dOf "check_game" 35, dOf "is_lot_of" 36, dOf "ordered" 40, dOf "are_parts_of" 41, dOf "how_many" 42, dOf "check_parts" 43, dOf "check_both" 44, dOf "check_lot" 45]
def fnD1 : List He.DefD := [dOf "alike_in" 46, dOf "number_of" 47, dOf "sure_look" 48, dOf "lies_in" 49, dOf "both_by" 50, dOf "both_parts" 51, dOf "known_by" 52, dOf "both_know" 53, dOf "known_along" 54, dOf "known_by_all" 55, dOf "check_told" 56, dOf "likely_by" 57, dOf "tellings" 58, dOf "told_in_turn" 59, dOf "agreed_by" 60, dOf "agreed" 61, dOf "check_asked" 63, dOf "weighed" 64, dOf "pays_at" 65, dOf "worth_by" 66, dOf "worth" 67, dOf "_law_hash" 69, dOf "_law_random" 70, dOf "_law_cell" 71, dOf "_law_generator" 72, dOf "_law_frac" 73, dOf "_law_below" 74, dOf "_law_exact" 75, dOf "_law_game" 77, dOf "_law_drawn_parts" 78]
def fnD2 : List He.DefD := [dOf "_law_full" 79, dOf "_law_known_right" 80, dOf "_law_worths_right" 81, dOf "law" 82]
def fnD : List He.DefD := fnD0 ++ fnD1 ++ fnD2
def faF0 : List He.Fa := [.glo "is_whole", .glo "common_divisor", .glo "lowest", .glo "is_fraction", .glo "is_amount", .glo "plus", .glo "times", .glo "over", .glo "is_less", .glo "summed", .glo "are_chances", .glo "are_fractions", .glo "greatest", .glo "product", .glo "is_look_by", .glo "check_look", .glo "standings_of", .glo "marks_of", .glo "column_of", .glo "is_belief_by", .glo "check_belief", .glo "is_game_by", .glo "check_game", .glo "is_lot_of", .glo "ordered", .glo "are_parts_of", .glo "how_many", .glo "check_parts", .glo "check_both", .glo "check_lot"]
def faF1 : List He.Fa := [.glo "alike_in", .glo "number_of", .glo "sure_look", .glo "lies_in", .glo "both_by", .glo "both_parts", .glo "known_by", .glo "both_know", .glo "known_along", .glo "known_by_all", .glo "check_told", .glo "likely_by", .glo "tellings", .glo "told_in_turn", .glo "agreed_by", .glo "agreed", .glo "check_asked", .glo "weighed", .glo "pays_at", .glo "worth_by", .glo "worth", .glo "_law_hash", .glo "_law_random", .glo "_law_cell", .glo "_law_generator", .glo "_law_frac", .glo "_law_below", .glo "_law_exact", .glo "_law_game", .glo "_law_drawn_parts"]
def faF2 : List He.Fa := [.glo "_law_full", .glo "_law_known_right", .glo "_law_worths_right", .glo "law"]
def faF : List He.Fa := faF0 ++ faF1 ++ faF2
def faC0 : List He.Fa := [.int "MOST_MARKS" 8, .int "MOST_STANDINGS" 6, .int "MOST_DEEDS" 8, .glo "ONE", .glo "NONE"]
def faC : List He.Fa := faC0
def fa0 : List He.Fa := faF ++ (faC ++ bltNames.map He.Fa.free)
def exK (K : PySem.W.Frag) : Bool := (He.tupB K "ONE" [.int 1, .int 1]) && (He.tupB K "NONE" [.int 0, .int 1])
def loose0 : List Str := ["LookError", "InvalidLook", "InvalidBelief", "InvalidGame", "InvalidList", "InvalidLot", "Unlike", "is_whole", "common_divisor", "lowest", "is_fraction", "is_amount", "plus", "times", "over", "is_less", "summed", "are_chances", "are_fractions", "greatest", "product", "MOST_STANDINGS", "MOST_MARKS", "MOST_DEEDS", "is_look_by", "check_look", "standings_of", "marks_of", "column_of", "is_belief_by"]
def loose1 : List Str := ["check_belief", "is_game_by", "check_game", "is_lot_of", "NONE", "ONE", "ordered", "are_parts_of", "how_many", "check_parts", "check_both", "check_lot", "alike_in", "number_of", "sure_look", "lies_in", "both_by", "both_parts", "known_by", "both_know", "known_along", "known_by_all", "check_told", "likely_by", "tellings", "told_in_turn", "agreed_by", "agreed", "check_asked", "weighed"]
def loose2 : List Str := ["pays_at", "worth_by", "worth", "_law_hash", "_law_random", "_law_cell", "_law_generator", "_law_frac", "_law_below", "_law_exact", "_law_lists", "_law_game", "_law_drawn_parts", "_law_full", "_law_known_right", "_law_worths_right"]
def loose : List Str := loose0 ++ loose1 ++ loose2
abbrev R : PySem.W.OpenRow := PySem.W.OpenLaw.row PySem.Challenge.rw_lookstell_k98_whole_what_agreeing_is_wor
abbrev hk : PySem.W.Hook := hookQ 4 fa0 fnD exK
def ob (s : PySem.W.SharedT) : He.AlD × Bool := obsQ 4 fa0 fnD exK (HandSHeadRun.getT s)
theorem ob_eq (s : PySem.W.SharedT) : ob s = hk.obs s.abs := obsQ_eq (HandSHeadRun.getT_eq s)
theorem run (w : World) : HandSHeadRun.RunEq R (PySem.W.view R.prog [82]) hk ob 4000 loose w := by
  intro os
  kernel_rfl
def xOf (i : Nat) : Str := (fnsL[i]?).elim Str.empty (·.1)
abbrev faA (K : PySem.W.Frag) (i : Nat) : Addr := He.ga K (xOf i)
abbrev caA (_ : Nat) : Addr := 0
section
variable {K : PySem.W.Frag}
theorem sc_0 : FnScope n_is_whole ["value"] (defScope (top 9)) := ⟨rfl, rfl, rfl, by decide +kernel, rfl, by decide +kernel, by decide +kernel⟩
theorem b_0 {a : Addr} {fd : FuncData} (F : FunD K "is_whole" "is_whole" (defArgs (top 9)) (defBody (top 9)) (defScope (top 9)) [] [] a fd) : Binds K fd ["value"] [] :=
  F.bindsN fun _ _ _ _ _ _ us hl => match us, hl with | [_], _ => rfl
theorem fd_0 (c : He.SaysD fa0 fnD K) : ∃ fd, FunD K "is_whole" "is_whole" (defArgs (top 9)) (defBody (top 9)) (defScope (top 9)) [] [] (faA K 0) fd := He.SaysD.def_ c 0 (d := dOf "is_whole" 9) rfl
def gt_0 : GT := { N := n_is_whole, fns := fnsL, globs := globsL, clss := [], P := lentIx t_is_whole.bor }
theorem chk_0 : chkSs gt_0 (defScope (top 9)) t_is_whole.body (defBody (top 9)) = true := by decide +kernel
theorem df_0 (c : He.SaysD fa0 fnD K) : DF K (faA K) 0 ["value"] t_is_whole gt_0 fnsL globsL := by
  obtain ⟨fd, F⟩ := fd_0 c
  exact ⟨⟨_, _, _, _, _, fd, F, sc_0, b_0 F, chk_0⟩, rfl, rfl, rfl, rfl, by decide, fun i h => lent_mem i h, rfl, rfl⟩
theorem sc_1 : FnScope n_common_divisor ["one", "other"] (defScope (top 10)) := ⟨rfl, rfl, rfl, by decide +kernel, rfl, by decide +kernel, by decide +kernel⟩
theorem b_1 {a : Addr} {fd : FuncData} (F : FunD K "common_divisor" "common_divisor" (defArgs (top 10)) (defBody (top 10)) (defScope (top 10)) [] [] a fd) : Binds K fd ["one", "other"] [] :=
  F.bindsN fun _ _ _ _ _ _ us hl => match us, hl with | [_, _], _ => rfl
theorem fd_1 (c : He.SaysD fa0 fnD K) : ∃ fd, FunD K "common_divisor" "common_divisor" (defArgs (top 10)) (defBody (top 10)) (defScope (top 10)) [] [] (faA K 1) fd := He.SaysD.def_ c 1 (d := dOf "common_divisor" 10) rfl
def gt_1 : GT := { N := n_common_divisor, fns := fnsL, globs := globsL, clss := [], P := lentIx t_common_divisor.bor }
theorem chk_1 : chkSs gt_1 (defScope (top 10)) t_common_divisor.body (defBody (top 10)) = true := by decide +kernel
theorem df_1 (c : He.SaysD fa0 fnD K) : DF K (faA K) 1 ["one", "other"] t_common_divisor gt_1 fnsL globsL := by
  obtain ⟨fd, F⟩ := fd_1 c
  exact ⟨⟨_, _, _, _, _, fd, F, sc_1, b_1 F, chk_1⟩, rfl, rfl, rfl, rfl, by decide, fun i h => lent_mem i h, rfl, rfl⟩
theorem sc_2 : FnScope n_lowest ["top", "under"] (defScope (top 11)) := ⟨rfl, rfl, rfl, by decide +kernel, rfl, by decide +kernel, by decide +kernel⟩
theorem b_2 {a : Addr} {fd : FuncData} (F : FunD K "lowest" "lowest" (defArgs (top 11)) (defBody (top 11)) (defScope (top 11)) [] [] a fd) : Binds K fd ["top", "under"] [] :=
  F.bindsN fun _ _ _ _ _ _ us hl => match us, hl with | [_, _], _ => rfl
theorem fd_2 (c : He.SaysD fa0 fnD K) : ∃ fd, FunD K "lowest" "lowest" (defArgs (top 11)) (defBody (top 11)) (defScope (top 11)) [] [] (faA K 2) fd := He.SaysD.def_ c 2 (d := dOf "lowest" 11) rfl
def gt_2 : GT := { N := n_lowest, fns := fnsL, globs := globsL, clss := [], P := lentIx t_lowest.bor }
theorem chk_2 : chkSs gt_2 (defScope (top 11)) t_lowest.body (defBody (top 11)) = true := by decide +kernel
theorem df_2 (c : He.SaysD fa0 fnD K) : DF K (faA K) 2 ["top", "under"] t_lowest gt_2 fnsL globsL := by
  obtain ⟨fd, F⟩ := fd_2 c
  exact ⟨⟨_, _, _, _, _, fd, F, sc_2, b_2 F, chk_2⟩, rfl, rfl, rfl, rfl, by decide, fun i h => lent_mem i h, rfl, rfl⟩
theorem sc_3 : FnScope n_is_fraction ["value"] (defScope (top 12)) := ⟨rfl, rfl, rfl, by decide +kernel, rfl, by decide +kernel, by decide +kernel⟩
theorem b_3 {a : Addr} {fd : FuncData} (F : FunD K "is_fraction" "is_fraction" (defArgs (top 12)) (defBody (top 12)) (defScope (top 12)) [] [] a fd) : Binds K fd ["value"] [] :=
  F.bindsN fun _ _ _ _ _ _ us hl => match us, hl with | [_], _ => rfl
theorem fd_3 (c : He.SaysD fa0 fnD K) : ∃ fd, FunD K "is_fraction" "is_fraction" (defArgs (top 12)) (defBody (top 12)) (defScope (top 12)) [] [] (faA K 3) fd := He.SaysD.def_ c 3 (d := dOf "is_fraction" 12) rfl
def gt_3 : GT := { N := n_is_fraction, fns := fnsL, globs := globsL, clss := [], P := lentIx t_is_fraction.bor }
theorem chk_3 : chkSs gt_3 (defScope (top 12)) t_is_fraction.body (defBody (top 12)) = true := by decide +kernel
theorem df_3 (c : He.SaysD fa0 fnD K) : DF K (faA K) 3 ["value"] t_is_fraction gt_3 fnsL globsL := by
  obtain ⟨fd, F⟩ := fd_3 c
  exact ⟨⟨_, _, _, _, _, fd, F, sc_3, b_3 F, chk_3⟩, rfl, rfl, rfl, rfl, by decide, fun i h => lent_mem i h, rfl, rfl⟩
theorem sc_4 : FnScope n_is_amount ["value"] (defScope (top 13)) := ⟨rfl, rfl, rfl, by decide +kernel, rfl, by decide +kernel, by decide +kernel⟩
theorem b_4 {a : Addr} {fd : FuncData} (F : FunD K "is_amount" "is_amount" (defArgs (top 13)) (defBody (top 13)) (defScope (top 13)) [] [] a fd) : Binds K fd ["value"] [] :=
  F.bindsN fun _ _ _ _ _ _ us hl => match us, hl with | [_], _ => rfl
theorem fd_4 (c : He.SaysD fa0 fnD K) : ∃ fd, FunD K "is_amount" "is_amount" (defArgs (top 13)) (defBody (top 13)) (defScope (top 13)) [] [] (faA K 4) fd := He.SaysD.def_ c 4 (d := dOf "is_amount" 13) rfl
def gt_4 : GT := { N := n_is_amount, fns := fnsL, globs := globsL, clss := [], P := lentIx t_is_amount.bor }
theorem chk_4 : chkSs gt_4 (defScope (top 13)) t_is_amount.body (defBody (top 13)) = true := by decide +kernel
theorem df_4 (c : He.SaysD fa0 fnD K) : DF K (faA K) 4 ["value"] t_is_amount gt_4 fnsL globsL := by
  obtain ⟨fd, F⟩ := fd_4 c
  exact ⟨⟨_, _, _, _, _, fd, F, sc_4, b_4 F, chk_4⟩, rfl, rfl, rfl, rfl, by decide, fun i h => lent_mem i h, rfl, rfl⟩
theorem sc_5 : FnScope n_plus ["one", "other"] (defScope (top 14)) := ⟨rfl, rfl, rfl, by decide +kernel, rfl, by decide +kernel, by decide +kernel⟩
theorem b_5 {a : Addr} {fd : FuncData} (F : FunD K "plus" "plus" (defArgs (top 14)) (defBody (top 14)) (defScope (top 14)) [] [] a fd) : Binds K fd ["one", "other"] [] :=
  F.bindsN fun _ _ _ _ _ _ us hl => match us, hl with | [_, _], _ => rfl
theorem fd_5 (c : He.SaysD fa0 fnD K) : ∃ fd, FunD K "plus" "plus" (defArgs (top 14)) (defBody (top 14)) (defScope (top 14)) [] [] (faA K 5) fd := He.SaysD.def_ c 5 (d := dOf "plus" 14) rfl
def gt_5 : GT := { N := n_plus, fns := fnsL, globs := globsL, clss := [], P := lentIx t_plus.bor }
theorem chk_5 : chkSs gt_5 (defScope (top 14)) t_plus.body (defBody (top 14)) = true := by decide +kernel
theorem df_5 (c : He.SaysD fa0 fnD K) : DF K (faA K) 5 ["one", "other"] t_plus gt_5 fnsL globsL := by
  obtain ⟨fd, F⟩ := fd_5 c
  exact ⟨⟨_, _, _, _, _, fd, F, sc_5, b_5 F, chk_5⟩, rfl, rfl, rfl, rfl, by decide, fun i h => lent_mem i h, rfl, rfl⟩
theorem sc_6 : FnScope n_times ["one", "other"] (defScope (top 15)) := ⟨rfl, rfl, rfl, by decide +kernel, rfl, by decide +kernel, by decide +kernel⟩
theorem b_6 {a : Addr} {fd : FuncData} (F : FunD K "times" "times" (defArgs (top 15)) (defBody (top 15)) (defScope (top 15)) [] [] a fd) : Binds K fd ["one", "other"] [] :=
  F.bindsN fun _ _ _ _ _ _ us hl => match us, hl with | [_, _], _ => rfl
theorem fd_6 (c : He.SaysD fa0 fnD K) : ∃ fd, FunD K "times" "times" (defArgs (top 15)) (defBody (top 15)) (defScope (top 15)) [] [] (faA K 6) fd := He.SaysD.def_ c 6 (d := dOf "times" 15) rfl
def gt_6 : GT := { N := n_times, fns := fnsL, globs := globsL, clss := [], P := lentIx t_times.bor }
theorem chk_6 : chkSs gt_6 (defScope (top 15)) t_times.body (defBody (top 15)) = true := by decide +kernel
theorem df_6 (c : He.SaysD fa0 fnD K) : DF K (faA K) 6 ["one", "other"] t_times gt_6 fnsL globsL := by
  obtain ⟨fd, F⟩ := fd_6 c
  exact ⟨⟨_, _, _, _, _, fd, F, sc_6, b_6 F, chk_6⟩, rfl, rfl, rfl, rfl, by decide, fun i h => lent_mem i h, rfl, rfl⟩
theorem sc_7 : FnScope n_over ["one", "other"] (defScope (top 16)) := ⟨rfl, rfl, rfl, by decide +kernel, rfl, by decide +kernel, by decide +kernel⟩
theorem b_7 {a : Addr} {fd : FuncData} (F : FunD K "over" "over" (defArgs (top 16)) (defBody (top 16)) (defScope (top 16)) [] [] a fd) : Binds K fd ["one", "other"] [] :=
  F.bindsN fun _ _ _ _ _ _ us hl => match us, hl with | [_, _], _ => rfl
theorem fd_7 (c : He.SaysD fa0 fnD K) : ∃ fd, FunD K "over" "over" (defArgs (top 16)) (defBody (top 16)) (defScope (top 16)) [] [] (faA K 7) fd := He.SaysD.def_ c 7 (d := dOf "over" 16) rfl
def gt_7 : GT := { N := n_over, fns := fnsL, globs := globsL, clss := [], P := lentIx t_over.bor }
theorem chk_7 : chkSs gt_7 (defScope (top 16)) t_over.body (defBody (top 16)) = true := by decide +kernel
theorem df_7 (c : He.SaysD fa0 fnD K) : DF K (faA K) 7 ["one", "other"] t_over gt_7 fnsL globsL := by
  obtain ⟨fd, F⟩ := fd_7 c
  exact ⟨⟨_, _, _, _, _, fd, F, sc_7, b_7 F, chk_7⟩, rfl, rfl, rfl, rfl, by decide, fun i h => lent_mem i h, rfl, rfl⟩
theorem sc_8 : FnScope n_is_less ["one", "other"] (defScope (top 17)) := ⟨rfl, rfl, rfl, by decide +kernel, rfl, by decide +kernel, by decide +kernel⟩
theorem b_8 {a : Addr} {fd : FuncData} (F : FunD K "is_less" "is_less" (defArgs (top 17)) (defBody (top 17)) (defScope (top 17)) [] [] a fd) : Binds K fd ["one", "other"] [] :=
  F.bindsN fun _ _ _ _ _ _ us hl => match us, hl with | [_, _], _ => rfl
theorem fd_8 (c : He.SaysD fa0 fnD K) : ∃ fd, FunD K "is_less" "is_less" (defArgs (top 17)) (defBody (top 17)) (defScope (top 17)) [] [] (faA K 8) fd := He.SaysD.def_ c 8 (d := dOf "is_less" 17) rfl
def gt_8 : GT := { N := n_is_less, fns := fnsL, globs := globsL, clss := [], P := lentIx t_is_less.bor }
theorem chk_8 : chkSs gt_8 (defScope (top 17)) t_is_less.body (defBody (top 17)) = true := by decide +kernel
theorem df_8 (c : He.SaysD fa0 fnD K) : DF K (faA K) 8 ["one", "other"] t_is_less gt_8 fnsL globsL := by
  obtain ⟨fd, F⟩ := fd_8 c
  exact ⟨⟨_, _, _, _, _, fd, F, sc_8, b_8 F, chk_8⟩, rfl, rfl, rfl, rfl, by decide, fun i h => lent_mem i h, rfl, rfl⟩
theorem sc_9 : FnScope n_summed ["some"] (defScope (top 18)) := ⟨rfl, rfl, rfl, by decide +kernel, rfl, by decide +kernel, by decide +kernel⟩
theorem b_9 {a : Addr} {fd : FuncData} (F : FunD K "summed" "summed" (defArgs (top 18)) (defBody (top 18)) (defScope (top 18)) [] [] a fd) : Binds K fd ["some"] [] :=
  F.bindsN fun _ _ _ _ _ _ us hl => match us, hl with | [_], _ => rfl
theorem fd_9 (c : He.SaysD fa0 fnD K) : ∃ fd, FunD K "summed" "summed" (defArgs (top 18)) (defBody (top 18)) (defScope (top 18)) [] [] (faA K 9) fd := He.SaysD.def_ c 9 (d := dOf "summed" 18) rfl
def gt_9 : GT := { N := n_summed, fns := fnsL, globs := globsL, clss := [], P := lentIx t_summed.bor }
theorem chk_9 : chkSs gt_9 (defScope (top 18)) t_summed.body (defBody (top 18)) = true := by decide +kernel
theorem df_9 (c : He.SaysD fa0 fnD K) : DF K (faA K) 9 ["some"] t_summed gt_9 fnsL globsL := by
  obtain ⟨fd, F⟩ := fd_9 c
  exact ⟨⟨_, _, _, _, _, fd, F, sc_9, b_9 F, chk_9⟩, rfl, rfl, rfl, rfl, by decide, fun i h => lent_mem i h, rfl, rfl⟩
theorem sc_10 : FnScope n_are_chances ["value", "many"] (defScope (top 19)) := ⟨rfl, rfl, rfl, by decide +kernel, rfl, by decide +kernel, by decide +kernel⟩
theorem b_10 {a : Addr} {fd : FuncData} (F : FunD K "are_chances" "are_chances" (defArgs (top 19)) (defBody (top 19)) (defScope (top 19)) [] [] a fd) : Binds K fd ["value", "many"] [] :=
  F.bindsN fun _ _ _ _ _ _ us hl => match us, hl with | [_, _], _ => rfl
theorem fd_10 (c : He.SaysD fa0 fnD K) : ∃ fd, FunD K "are_chances" "are_chances" (defArgs (top 19)) (defBody (top 19)) (defScope (top 19)) [] [] (faA K 10) fd := He.SaysD.def_ c 10 (d := dOf "are_chances" 19) rfl
def gt_10 : GT := { N := n_are_chances, fns := fnsL, globs := globsL, clss := [], P := lentIx t_are_chances.bor }
theorem chk_10 : chkSs gt_10 (defScope (top 19)) t_are_chances.body (defBody (top 19)) = true := by decide +kernel
theorem df_10 (c : He.SaysD fa0 fnD K) : DF K (faA K) 10 ["value", "many"] t_are_chances gt_10 fnsL globsL := by
  obtain ⟨fd, F⟩ := fd_10 c
  exact ⟨⟨_, _, _, _, _, fd, F, sc_10, b_10 F, chk_10⟩, rfl, rfl, rfl, rfl, by decide, fun i h => lent_mem i h, rfl, rfl⟩
theorem sc_11 : FnScope n_are_fractions ["value", "many"] (defScope (top 20)) := ⟨rfl, rfl, rfl, by decide +kernel, rfl, by decide +kernel, by decide +kernel⟩
theorem b_11 {a : Addr} {fd : FuncData} (F : FunD K "are_fractions" "are_fractions" (defArgs (top 20)) (defBody (top 20)) (defScope (top 20)) [] [] a fd) : Binds K fd ["value", "many"] [] :=
  F.bindsN fun _ _ _ _ _ _ us hl => match us, hl with | [_, _], _ => rfl
theorem fd_11 (c : He.SaysD fa0 fnD K) : ∃ fd, FunD K "are_fractions" "are_fractions" (defArgs (top 20)) (defBody (top 20)) (defScope (top 20)) [] [] (faA K 11) fd := He.SaysD.def_ c 11 (d := dOf "are_fractions" 20) rfl
def gt_11 : GT := { N := n_are_fractions, fns := fnsL, globs := globsL, clss := [], P := lentIx t_are_fractions.bor }
theorem chk_11 : chkSs gt_11 (defScope (top 20)) t_are_fractions.body (defBody (top 20)) = true := by decide +kernel
theorem df_11 (c : He.SaysD fa0 fnD K) : DF K (faA K) 11 ["value", "many"] t_are_fractions gt_11 fnsL globsL := by
  obtain ⟨fd, F⟩ := fd_11 c
  exact ⟨⟨_, _, _, _, _, fd, F, sc_11, b_11 F, chk_11⟩, rfl, rfl, rfl, rfl, by decide, fun i h => lent_mem i h, rfl, rfl⟩
theorem sc_12 : FnScope n_greatest ["some"] (defScope (top 21)) := ⟨rfl, rfl, rfl, by decide +kernel, rfl, by decide +kernel, by decide +kernel⟩
theorem b_12 {a : Addr} {fd : FuncData} (F : FunD K "greatest" "greatest" (defArgs (top 21)) (defBody (top 21)) (defScope (top 21)) [] [] a fd) : Binds K fd ["some"] [] :=
  F.bindsN fun _ _ _ _ _ _ us hl => match us, hl with | [_], _ => rfl
theorem fd_12 (c : He.SaysD fa0 fnD K) : ∃ fd, FunD K "greatest" "greatest" (defArgs (top 21)) (defBody (top 21)) (defScope (top 21)) [] [] (faA K 12) fd := He.SaysD.def_ c 12 (d := dOf "greatest" 21) rfl
def gt_12 : GT := { N := n_greatest, fns := fnsL, globs := globsL, clss := [], P := lentIx t_greatest.bor }
theorem chk_12 : chkSs gt_12 (defScope (top 21)) t_greatest.body (defBody (top 21)) = true := by decide +kernel
theorem df_12 (c : He.SaysD fa0 fnD K) : DF K (faA K) 12 ["some"] t_greatest gt_12 fnsL globsL := by
  obtain ⟨fd, F⟩ := fd_12 c
  exact ⟨⟨_, _, _, _, _, fd, F, sc_12, b_12 F, chk_12⟩, rfl, rfl, rfl, rfl, by decide, fun i h => lent_mem i h, rfl, rfl⟩
theorem sc_13 : FnScope n_product ["weights", "numbers"] (defScope (top 22)) := ⟨rfl, rfl, rfl, by decide +kernel, rfl, by decide +kernel, by decide +kernel⟩
theorem b_13 {a : Addr} {fd : FuncData} (F : FunD K "product" "product" (defArgs (top 22)) (defBody (top 22)) (defScope (top 22)) [] [] a fd) : Binds K fd ["weights", "numbers"] [] :=
  F.bindsN fun _ _ _ _ _ _ us hl => match us, hl with | [_, _], _ => rfl
theorem fd_13 (c : He.SaysD fa0 fnD K) : ∃ fd, FunD K "product" "product" (defArgs (top 22)) (defBody (top 22)) (defScope (top 22)) [] [] (faA K 13) fd := He.SaysD.def_ c 13 (d := dOf "product" 22) rfl
def gt_13 : GT := { N := n_product, fns := fnsL, globs := globsL, clss := [], P := lentIx t_product.bor }
theorem chk_13 : chkSs gt_13 (defScope (top 22)) t_product.body (defBody (top 22)) = true := by decide +kernel
theorem df_13 (c : He.SaysD fa0 fnD K) : DF K (faA K) 13 ["weights", "numbers"] t_product gt_13 fnsL globsL := by
  obtain ⟨fd, F⟩ := fd_13 c
  exact ⟨⟨_, _, _, _, _, fd, F, sc_13, b_13 F, chk_13⟩, rfl, rfl, rfl, rfl, by decide, fun i h => lent_mem i h, rfl, rfl⟩
theorem sc_14 : FnScope n_is_look_by ["value"] (defScope (top 27)) := ⟨rfl, rfl, rfl, by decide +kernel, rfl, by decide +kernel, by decide +kernel⟩
theorem b_14 {a : Addr} {fd : FuncData} (F : FunD K "is_look_by" "is_look_by" (defArgs (top 27)) (defBody (top 27)) (defScope (top 27)) [] [] a fd) : Binds K fd ["value"] [] :=
  F.bindsN fun _ _ _ _ _ _ us hl => match us, hl with | [_], _ => rfl
theorem fd_14 (c : He.SaysD fa0 fnD K) : ∃ fd, FunD K "is_look_by" "is_look_by" (defArgs (top 27)) (defBody (top 27)) (defScope (top 27)) [] [] (faA K 14) fd := He.SaysD.def_ c 14 (d := dOf "is_look_by" 27) rfl
def gt_14 : GT := { N := n_is_look_by, fns := fnsL, globs := globsL, clss := [], P := lentIx t_is_look_by.bor }
theorem chk_14 : chkSs gt_14 (defScope (top 27)) t_is_look_by.body (defBody (top 27)) = true := by decide +kernel
theorem df_14 (c : He.SaysD fa0 fnD K) : DF K (faA K) 14 ["value"] t_is_look_by gt_14 fnsL globsL := by
  obtain ⟨fd, F⟩ := fd_14 c
  exact ⟨⟨_, _, _, _, _, fd, F, sc_14, b_14 F, chk_14⟩, rfl, rfl, rfl, rfl, by decide, fun i h => lent_mem i h, rfl, rfl⟩
theorem sc_15 : FnScope n_check_look ["look"] (defScope (top 28)) := ⟨rfl, rfl, rfl, by decide +kernel, rfl, by decide +kernel, by decide +kernel⟩
theorem b_15 {a : Addr} {fd : FuncData} (F : FunD K "check_look" "check_look" (defArgs (top 28)) (defBody (top 28)) (defScope (top 28)) [] [] a fd) : Binds K fd ["look"] [] :=
  F.bindsN fun _ _ _ _ _ _ us hl => match us, hl with | [_], _ => rfl
theorem fd_15 (c : He.SaysD fa0 fnD K) : ∃ fd, FunD K "check_look" "check_look" (defArgs (top 28)) (defBody (top 28)) (defScope (top 28)) [] [] (faA K 15) fd := He.SaysD.def_ c 15 (d := dOf "check_look" 28) rfl
def gt_15 : GT := { N := n_check_look, fns := fnsL, globs := globsL, clss := [], P := lentIx t_check_look.bor }
theorem chk_15 : chkSs gt_15 (defScope (top 28)) t_check_look.body (defBody (top 28)) = true := by decide +kernel
theorem df_15 (c : He.SaysD fa0 fnD K) : DF K (faA K) 15 ["look"] t_check_look gt_15 fnsL globsL := by
  obtain ⟨fd, F⟩ := fd_15 c
  exact ⟨⟨_, _, _, _, _, fd, F, sc_15, b_15 F, chk_15⟩, rfl, rfl, rfl, rfl, by decide, fun i h => lent_mem i h, rfl, rfl⟩
theorem sc_16 : FnScope n_standings_of ["look"] (defScope (top 29)) := ⟨rfl, rfl, rfl, by decide +kernel, rfl, by decide +kernel, by decide +kernel⟩
theorem b_16 {a : Addr} {fd : FuncData} (F : FunD K "standings_of" "standings_of" (defArgs (top 29)) (defBody (top 29)) (defScope (top 29)) [] [] a fd) : Binds K fd ["look"] [] :=
  F.bindsN fun _ _ _ _ _ _ us hl => match us, hl with | [_], _ => rfl
theorem fd_16 (c : He.SaysD fa0 fnD K) : ∃ fd, FunD K "standings_of" "standings_of" (defArgs (top 29)) (defBody (top 29)) (defScope (top 29)) [] [] (faA K 16) fd := He.SaysD.def_ c 16 (d := dOf "standings_of" 29) rfl
def gt_16 : GT := { N := n_standings_of, fns := fnsL, globs := globsL, clss := [], P := lentIx t_standings_of.bor }
theorem chk_16 : chkSs gt_16 (defScope (top 29)) t_standings_of.body (defBody (top 29)) = true := by decide +kernel
theorem df_16 (c : He.SaysD fa0 fnD K) : DF K (faA K) 16 ["look"] t_standings_of gt_16 fnsL globsL := by
  obtain ⟨fd, F⟩ := fd_16 c
  exact ⟨⟨_, _, _, _, _, fd, F, sc_16, b_16 F, chk_16⟩, rfl, rfl, rfl, rfl, by decide, fun i h => lent_mem i h, rfl, rfl⟩
theorem sc_17 : FnScope n_marks_of ["look"] (defScope (top 30)) := ⟨rfl, rfl, rfl, by decide +kernel, rfl, by decide +kernel, by decide +kernel⟩
theorem b_17 {a : Addr} {fd : FuncData} (F : FunD K "marks_of" "marks_of" (defArgs (top 30)) (defBody (top 30)) (defScope (top 30)) [] [] a fd) : Binds K fd ["look"] [] :=
  F.bindsN fun _ _ _ _ _ _ us hl => match us, hl with | [_], _ => rfl
theorem fd_17 (c : He.SaysD fa0 fnD K) : ∃ fd, FunD K "marks_of" "marks_of" (defArgs (top 30)) (defBody (top 30)) (defScope (top 30)) [] [] (faA K 17) fd := He.SaysD.def_ c 17 (d := dOf "marks_of" 30) rfl
def gt_17 : GT := { N := n_marks_of, fns := fnsL, globs := globsL, clss := [], P := lentIx t_marks_of.bor }
theorem chk_17 : chkSs gt_17 (defScope (top 30)) t_marks_of.body (defBody (top 30)) = true := by decide +kernel
theorem df_17 (c : He.SaysD fa0 fnD K) : DF K (faA K) 17 ["look"] t_marks_of gt_17 fnsL globsL := by
  obtain ⟨fd, F⟩ := fd_17 c
  exact ⟨⟨_, _, _, _, _, fd, F, sc_17, b_17 F, chk_17⟩, rfl, rfl, rfl, rfl, by decide, fun i h => lent_mem i h, rfl, rfl⟩
theorem sc_18 : FnScope n_column_of ["look", "mark"] (defScope (top 31)) := ⟨rfl, rfl, rfl, by decide +kernel, rfl, by decide +kernel, by decide +kernel⟩
theorem b_18 {a : Addr} {fd : FuncData} (F : FunD K "column_of" "column_of" (defArgs (top 31)) (defBody (top 31)) (defScope (top 31)) [] [] a fd) : Binds K fd ["look", "mark"] [] :=
  F.bindsN fun _ _ _ _ _ _ us hl => match us, hl with | [_, _], _ => rfl
theorem fd_18 (c : He.SaysD fa0 fnD K) : ∃ fd, FunD K "column_of" "column_of" (defArgs (top 31)) (defBody (top 31)) (defScope (top 31)) [] [] (faA K 18) fd := He.SaysD.def_ c 18 (d := dOf "column_of" 31) rfl
def gt_18 : GT := { N := n_column_of, fns := fnsL, globs := globsL, clss := [], P := lentIx t_column_of.bor }
theorem chk_18 : chkSs gt_18 (defScope (top 31)) t_column_of.body (defBody (top 31)) = true := by decide +kernel
theorem df_18 (c : He.SaysD fa0 fnD K) : DF K (faA K) 18 ["look", "mark"] t_column_of gt_18 fnsL globsL := by
  obtain ⟨fd, F⟩ := fd_18 c
  exact ⟨⟨_, _, _, _, _, fd, F, sc_18, b_18 F, chk_18⟩, rfl, rfl, rfl, rfl, by decide, fun i h => lent_mem i h, rfl, rfl⟩
theorem sc_19 : FnScope n_is_belief_by ["look", "value"] (defScope (top 32)) := ⟨rfl, rfl, rfl, by decide +kernel, rfl, by decide +kernel, by decide +kernel⟩
theorem b_19 {a : Addr} {fd : FuncData} (F : FunD K "is_belief_by" "is_belief_by" (defArgs (top 32)) (defBody (top 32)) (defScope (top 32)) [] [] a fd) : Binds K fd ["look", "value"] [] :=
  F.bindsN fun _ _ _ _ _ _ us hl => match us, hl with | [_, _], _ => rfl
theorem fd_19 (c : He.SaysD fa0 fnD K) : ∃ fd, FunD K "is_belief_by" "is_belief_by" (defArgs (top 32)) (defBody (top 32)) (defScope (top 32)) [] [] (faA K 19) fd := He.SaysD.def_ c 19 (d := dOf "is_belief_by" 32) rfl
def gt_19 : GT := { N := n_is_belief_by, fns := fnsL, globs := globsL, clss := [], P := lentIx t_is_belief_by.bor }
theorem chk_19 : chkSs gt_19 (defScope (top 32)) t_is_belief_by.body (defBody (top 32)) = true := by decide +kernel
theorem df_19 (c : He.SaysD fa0 fnD K) : DF K (faA K) 19 ["look", "value"] t_is_belief_by gt_19 fnsL globsL := by
  obtain ⟨fd, F⟩ := fd_19 c
  exact ⟨⟨_, _, _, _, _, fd, F, sc_19, b_19 F, chk_19⟩, rfl, rfl, rfl, rfl, by decide, fun i h => lent_mem i h, rfl, rfl⟩
theorem sc_20 : FnScope n_check_belief ["look", "belief"] (defScope (top 33)) := ⟨rfl, rfl, rfl, by decide +kernel, rfl, by decide +kernel, by decide +kernel⟩
theorem b_20 {a : Addr} {fd : FuncData} (F : FunD K "check_belief" "check_belief" (defArgs (top 33)) (defBody (top 33)) (defScope (top 33)) [] [] a fd) : Binds K fd ["look", "belief"] [] :=
  F.bindsN fun _ _ _ _ _ _ us hl => match us, hl with | [_, _], _ => rfl
theorem fd_20 (c : He.SaysD fa0 fnD K) : ∃ fd, FunD K "check_belief" "check_belief" (defArgs (top 33)) (defBody (top 33)) (defScope (top 33)) [] [] (faA K 20) fd := He.SaysD.def_ c 20 (d := dOf "check_belief" 33) rfl
def gt_20 : GT := { N := n_check_belief, fns := fnsL, globs := globsL, clss := [], P := lentIx t_check_belief.bor }
theorem chk_20 : chkSs gt_20 (defScope (top 33)) t_check_belief.body (defBody (top 33)) = true := by decide +kernel
theorem df_20 (c : He.SaysD fa0 fnD K) : DF K (faA K) 20 ["look", "belief"] t_check_belief gt_20 fnsL globsL := by
  obtain ⟨fd, F⟩ := fd_20 c
  exact ⟨⟨_, _, _, _, _, fd, F, sc_20, b_20 F, chk_20⟩, rfl, rfl, rfl, rfl, by decide, fun i h => lent_mem i h, rfl, rfl⟩
theorem sc_21 : FnScope n_is_game_by ["value"] (defScope (top 34)) := ⟨rfl, rfl, rfl, by decide +kernel, rfl, by decide +kernel, by decide +kernel⟩
theorem b_21 {a : Addr} {fd : FuncData} (F : FunD K "is_game_by" "is_game_by" (defArgs (top 34)) (defBody (top 34)) (defScope (top 34)) [] [] a fd) : Binds K fd ["value"] [] :=
  F.bindsN fun _ _ _ _ _ _ us hl => match us, hl with | [_], _ => rfl
theorem fd_21 (c : He.SaysD fa0 fnD K) : ∃ fd, FunD K "is_game_by" "is_game_by" (defArgs (top 34)) (defBody (top 34)) (defScope (top 34)) [] [] (faA K 21) fd := He.SaysD.def_ c 21 (d := dOf "is_game_by" 34) rfl
def gt_21 : GT := { N := n_is_game_by, fns := fnsL, globs := globsL, clss := [], P := lentIx t_is_game_by.bor }
theorem chk_21 : chkSs gt_21 (defScope (top 34)) t_is_game_by.body (defBody (top 34)) = true := by decide +kernel
theorem df_21 (c : He.SaysD fa0 fnD K) : DF K (faA K) 21 ["value"] t_is_game_by gt_21 fnsL globsL := by
  obtain ⟨fd, F⟩ := fd_21 c
  exact ⟨⟨_, _, _, _, _, fd, F, sc_21, b_21 F, chk_21⟩, rfl, rfl, rfl, rfl, by decide, fun i h => lent_mem i h, rfl, rfl⟩
theorem sc_22 : FnScope n_check_game ["look", "game"] (defScope (top 35)) := ⟨rfl, rfl, rfl, by decide +kernel, rfl, by decide +kernel, by decide +kernel⟩
theorem b_22 {a : Addr} {fd : FuncData} (F : FunD K "check_game" "check_game" (defArgs (top 35)) (defBody (top 35)) (defScope (top 35)) [] [] a fd) : Binds K fd ["look", "game"] [] :=
  F.bindsN fun _ _ _ _ _ _ us hl => match us, hl with | [_, _], _ => rfl
theorem fd_22 (c : He.SaysD fa0 fnD K) : ∃ fd, FunD K "check_game" "check_game" (defArgs (top 35)) (defBody (top 35)) (defScope (top 35)) [] [] (faA K 22) fd := He.SaysD.def_ c 22 (d := dOf "check_game" 35) rfl
def gt_22 : GT := { N := n_check_game, fns := fnsL, globs := globsL, clss := [], P := lentIx t_check_game.bor }
theorem chk_22 : chkSs gt_22 (defScope (top 35)) t_check_game.body (defBody (top 35)) = true := by decide +kernel
theorem df_22 (c : He.SaysD fa0 fnD K) : DF K (faA K) 22 ["look", "game"] t_check_game gt_22 fnsL globsL := by
  obtain ⟨fd, F⟩ := fd_22 c
  exact ⟨⟨_, _, _, _, _, fd, F, sc_22, b_22 F, chk_22⟩, rfl, rfl, rfl, rfl, by decide, fun i h => lent_mem i h, rfl, rfl⟩
theorem sc_23 : FnScope n_is_lot_of ["value", "many"] (defScope (top 36)) := ⟨rfl, rfl, rfl, by decide +kernel, rfl, by decide +kernel, by decide +kernel⟩
theorem b_23 {a : Addr} {fd : FuncData} (F : FunD K "is_lot_of" "is_lot_of" (defArgs (top 36)) (defBody (top 36)) (defScope (top 36)) [] [] a fd) : Binds K fd ["value", "many"] [] :=
  F.bindsN fun _ _ _ _ _ _ us hl => match us, hl with | [_, _], _ => rfl
theorem fd_23 (c : He.SaysD fa0 fnD K) : ∃ fd, FunD K "is_lot_of" "is_lot_of" (defArgs (top 36)) (defBody (top 36)) (defScope (top 36)) [] [] (faA K 23) fd := He.SaysD.def_ c 23 (d := dOf "is_lot_of" 36) rfl
def gt_23 : GT := { N := n_is_lot_of, fns := fnsL, globs := globsL, clss := [], P := lentIx t_is_lot_of.bor }
theorem chk_23 : chkSs gt_23 (defScope (top 36)) t_is_lot_of.body (defBody (top 36)) = true := by decide +kernel
theorem df_23 (c : He.SaysD fa0 fnD K) : DF K (faA K) 23 ["value", "many"] t_is_lot_of gt_23 fnsL globsL := by
  obtain ⟨fd, F⟩ := fd_23 c
  exact ⟨⟨_, _, _, _, _, fd, F, sc_23, b_23 F, chk_23⟩, rfl, rfl, rfl, rfl, by decide, fun i h => lent_mem i h, rfl, rfl⟩
theorem sc_24 : FnScope n_ordered ["lots"] (defScope (top 40)) := ⟨rfl, rfl, rfl, by decide +kernel, rfl, by decide +kernel, by decide +kernel⟩
theorem b_24 {a : Addr} {fd : FuncData} (F : FunD K "ordered" "ordered" (defArgs (top 40)) (defBody (top 40)) (defScope (top 40)) [] [] a fd) : Binds K fd ["lots"] [] :=
  F.bindsN fun _ _ _ _ _ _ us hl => match us, hl with | [_], _ => rfl
theorem fd_24 (c : He.SaysD fa0 fnD K) : ∃ fd, FunD K "ordered" "ordered" (defArgs (top 40)) (defBody (top 40)) (defScope (top 40)) [] [] (faA K 24) fd := He.SaysD.def_ c 24 (d := dOf "ordered" 40) rfl
def gt_24 : GT := { N := n_ordered, fns := fnsL, globs := globsL, clss := [], P := lentIx t_ordered.bor }
theorem chk_24 : chkSs gt_24 (defScope (top 40)) t_ordered.body (defBody (top 40)) = true := by decide +kernel
theorem df_24 (c : He.SaysD fa0 fnD K) : DF K (faA K) 24 ["lots"] t_ordered gt_24 fnsL globsL := by
  obtain ⟨fd, F⟩ := fd_24 c
  exact ⟨⟨_, _, _, _, _, fd, F, sc_24, b_24 F, chk_24⟩, rfl, rfl, rfl, rfl, by decide, fun i h => lent_mem i h, rfl, rfl⟩
theorem sc_25 : FnScope n_are_parts_of ["many", "value"] (defScope (top 41)) := ⟨rfl, rfl, rfl, by decide +kernel, rfl, by decide +kernel, by decide +kernel⟩
theorem b_25 {a : Addr} {fd : FuncData} (F : FunD K "are_parts_of" "are_parts_of" (defArgs (top 41)) (defBody (top 41)) (defScope (top 41)) [] [] a fd) : Binds K fd ["many", "value"] [] :=
  F.bindsN fun _ _ _ _ _ _ us hl => match us, hl with | [_, _], _ => rfl
theorem fd_25 (c : He.SaysD fa0 fnD K) : ∃ fd, FunD K "are_parts_of" "are_parts_of" (defArgs (top 41)) (defBody (top 41)) (defScope (top 41)) [] [] (faA K 25) fd := He.SaysD.def_ c 25 (d := dOf "are_parts_of" 41) rfl
def gt_25 : GT := { N := n_are_parts_of, fns := fnsL, globs := globsL, clss := [], P := lentIx t_are_parts_of.bor }
theorem chk_25 : chkSs gt_25 (defScope (top 41)) t_are_parts_of.body (defBody (top 41)) = true := by decide +kernel
theorem df_25 (c : He.SaysD fa0 fnD K) : DF K (faA K) 25 ["many", "value"] t_are_parts_of gt_25 fnsL globsL := by
  obtain ⟨fd, F⟩ := fd_25 c
  exact ⟨⟨_, _, _, _, _, fd, F, sc_25, b_25 F, chk_25⟩, rfl, rfl, rfl, rfl, by decide, fun i h => lent_mem i h, rfl, rfl⟩
theorem sc_26 : FnScope n_how_many ["value"] (defScope (top 42)) := ⟨rfl, rfl, rfl, by decide +kernel, rfl, by decide +kernel, by decide +kernel⟩
theorem b_26 {a : Addr} {fd : FuncData} (F : FunD K "how_many" "how_many" (defArgs (top 42)) (defBody (top 42)) (defScope (top 42)) [] [] a fd) : Binds K fd ["value"] [] :=
  F.bindsN fun _ _ _ _ _ _ us hl => match us, hl with | [_], _ => rfl
theorem fd_26 (c : He.SaysD fa0 fnD K) : ∃ fd, FunD K "how_many" "how_many" (defArgs (top 42)) (defBody (top 42)) (defScope (top 42)) [] [] (faA K 26) fd := He.SaysD.def_ c 26 (d := dOf "how_many" 42) rfl
def gt_26 : GT := { N := n_how_many, fns := fnsL, globs := globsL, clss := [], P := lentIx t_how_many.bor }
theorem chk_26 : chkSs gt_26 (defScope (top 42)) t_how_many.body (defBody (top 42)) = true := by decide +kernel
theorem df_26 (c : He.SaysD fa0 fnD K) : DF K (faA K) 26 ["value"] t_how_many gt_26 fnsL globsL := by
  obtain ⟨fd, F⟩ := fd_26 c
  exact ⟨⟨_, _, _, _, _, fd, F, sc_26, b_26 F, chk_26⟩, rfl, rfl, rfl, rfl, by decide, fun i h => lent_mem i h, rfl, rfl⟩
theorem sc_27 : FnScope n_check_parts ["value"] (defScope (top 43)) := ⟨rfl, rfl, rfl, by decide +kernel, rfl, by decide +kernel, by decide +kernel⟩
theorem b_27 {a : Addr} {fd : FuncData} (F : FunD K "check_parts" "check_parts" (defArgs (top 43)) (defBody (top 43)) (defScope (top 43)) [] [] a fd) : Binds K fd ["value"] [] :=
  F.bindsN fun _ _ _ _ _ _ us hl => match us, hl with | [_], _ => rfl
theorem fd_27 (c : He.SaysD fa0 fnD K) : ∃ fd, FunD K "check_parts" "check_parts" (defArgs (top 43)) (defBody (top 43)) (defScope (top 43)) [] [] (faA K 27) fd := He.SaysD.def_ c 27 (d := dOf "check_parts" 43) rfl
def gt_27 : GT := { N := n_check_parts, fns := fnsL, globs := globsL, clss := [], P := lentIx t_check_parts.bor }
theorem chk_27 : chkSs gt_27 (defScope (top 43)) t_check_parts.body (defBody (top 43)) = true := by decide +kernel
theorem df_27 (c : He.SaysD fa0 fnD K) : DF K (faA K) 27 ["value"] t_check_parts gt_27 fnsL globsL := by
  obtain ⟨fd, F⟩ := fd_27 c
  exact ⟨⟨_, _, _, _, _, fd, F, sc_27, b_27 F, chk_27⟩, rfl, rfl, rfl, rfl, by decide, fun i h => lent_mem i h, rfl, rfl⟩
theorem sc_28 : FnScope n_check_both ["one", "other"] (defScope (top 44)) := ⟨rfl, rfl, rfl, by decide +kernel, rfl, by decide +kernel, by decide +kernel⟩
theorem b_28 {a : Addr} {fd : FuncData} (F : FunD K "check_both" "check_both" (defArgs (top 44)) (defBody (top 44)) (defScope (top 44)) [] [] a fd) : Binds K fd ["one", "other"] [] :=
  F.bindsN fun _ _ _ _ _ _ us hl => match us, hl with | [_, _], _ => rfl
theorem fd_28 (c : He.SaysD fa0 fnD K) : ∃ fd, FunD K "check_both" "check_both" (defArgs (top 44)) (defBody (top 44)) (defScope (top 44)) [] [] (faA K 28) fd := He.SaysD.def_ c 28 (d := dOf "check_both" 44) rfl
def gt_28 : GT := { N := n_check_both, fns := fnsL, globs := globsL, clss := [], P := lentIx t_check_both.bor }
theorem chk_28 : chkSs gt_28 (defScope (top 44)) t_check_both.body (defBody (top 44)) = true := by decide +kernel
theorem df_28 (c : He.SaysD fa0 fnD K) : DF K (faA K) 28 ["one", "other"] t_check_both gt_28 fnsL globsL := by
  obtain ⟨fd, F⟩ := fd_28 c
  exact ⟨⟨_, _, _, _, _, fd, F, sc_28, b_28 F, chk_28⟩, rfl, rfl, rfl, rfl, by decide, fun i h => lent_mem i h, rfl, rfl⟩
theorem sc_29 : FnScope n_check_lot ["one", "lot"] (defScope (top 45)) := ⟨rfl, rfl, rfl, by decide +kernel, rfl, by decide +kernel, by decide +kernel⟩
theorem b_29 {a : Addr} {fd : FuncData} (F : FunD K "check_lot" "check_lot" (defArgs (top 45)) (defBody (top 45)) (defScope (top 45)) [] [] a fd) : Binds K fd ["one", "lot"] [] :=
  F.bindsN fun _ _ _ _ _ _ us hl => match us, hl with | [_, _], _ => rfl
theorem fd_29 (c : He.SaysD fa0 fnD K) : ∃ fd, FunD K "check_lot" "check_lot" (defArgs (top 45)) (defBody (top 45)) (defScope (top 45)) [] [] (faA K 29) fd := He.SaysD.def_ c 29 (d := dOf "check_lot" 45) rfl
def gt_29 : GT := { N := n_check_lot, fns := fnsL, globs := globsL, clss := [], P := lentIx t_check_lot.bor }
theorem chk_29 : chkSs gt_29 (defScope (top 45)) t_check_lot.body (defBody (top 45)) = true := by decide +kernel
theorem df_29 (c : He.SaysD fa0 fnD K) : DF K (faA K) 29 ["one", "lot"] t_check_lot gt_29 fnsL globsL := by
  obtain ⟨fd, F⟩ := fd_29 c
  exact ⟨⟨_, _, _, _, _, fd, F, sc_29, b_29 F, chk_29⟩, rfl, rfl, rfl, rfl, by decide, fun i h => lent_mem i h, rfl, rfl⟩
theorem sc_30 : FnScope n_alike_in ["values"] (defScope (top 46)) := ⟨rfl, rfl, rfl, by decide +kernel, rfl, by decide +kernel, by decide +kernel⟩
theorem b_30 {a : Addr} {fd : FuncData} (F : FunD K "alike_in" "alike_in" (defArgs (top 46)) (defBody (top 46)) (defScope (top 46)) [] [] a fd) : Binds K fd ["values"] [] :=
  F.bindsN fun _ _ _ _ _ _ us hl => match us, hl with | [_], _ => rfl
theorem fd_30 (c : He.SaysD fa0 fnD K) : ∃ fd, FunD K "alike_in" "alike_in" (defArgs (top 46)) (defBody (top 46)) (defScope (top 46)) [] [] (faA K 30) fd := He.SaysD.def_ c 30 (d := dOf "alike_in" 46) rfl
def gt_30 : GT := { N := n_alike_in, fns := fnsL, globs := globsL, clss := [], P := [] }
theorem chk_30 : chkAl gt_30 (defScope (top 46)) (defBody (top 46)) = true := by decide +kernel
theorem sc_31 : FnScope n_number_of ["parts", "standing"] (defScope (top 47)) := ⟨rfl, rfl, rfl, by decide +kernel, rfl, by decide +kernel, by decide +kernel⟩
theorem b_31 {a : Addr} {fd : FuncData} (F : FunD K "number_of" "number_of" (defArgs (top 47)) (defBody (top 47)) (defScope (top 47)) [] [] a fd) : Binds K fd ["parts", "standing"] [] :=
  F.bindsN fun _ _ _ _ _ _ us hl => match us, hl with | [_, _], _ => rfl
theorem fd_31 (c : He.SaysD fa0 fnD K) : ∃ fd, FunD K "number_of" "number_of" (defArgs (top 47)) (defBody (top 47)) (defScope (top 47)) [] [] (faA K 31) fd := He.SaysD.def_ c 31 (d := dOf "number_of" 47) rfl
def gt_31 : GT := { N := n_number_of, fns := fnsL, globs := globsL, clss := [], P := lentIx t_number_of.bor }
theorem chk_31 : chkSs gt_31 (defScope (top 47)) t_number_of.body (defBody (top 47)) = true := by decide +kernel
theorem df_31 (c : He.SaysD fa0 fnD K) : DF K (faA K) 31 ["parts", "standing"] t_number_of gt_31 fnsL globsL := by
  obtain ⟨fd, F⟩ := fd_31 c
  exact ⟨⟨_, _, _, _, _, fd, F, sc_31, b_31 F, chk_31⟩, rfl, rfl, rfl, rfl, by decide, fun i h => lent_mem i h, rfl, rfl⟩
theorem sc_32 : FnScope n_sure_look ["parts"] (defScope (top 48)) := ⟨rfl, rfl, rfl, by decide +kernel, rfl, by decide +kernel, by decide +kernel⟩
theorem b_32 {a : Addr} {fd : FuncData} (F : FunD K "sure_look" "sure_look" (defArgs (top 48)) (defBody (top 48)) (defScope (top 48)) [] [] a fd) : Binds K fd ["parts"] [] :=
  F.bindsN fun _ _ _ _ _ _ us hl => match us, hl with | [_], _ => rfl
theorem fd_32 (c : He.SaysD fa0 fnD K) : ∃ fd, FunD K "sure_look" "sure_look" (defArgs (top 48)) (defBody (top 48)) (defScope (top 48)) [] [] (faA K 32) fd := He.SaysD.def_ c 32 (d := dOf "sure_look" 48) rfl
def gt_32 : GT := { N := n_sure_look, fns := fnsL, globs := globsL, clss := [], P := lentIx t_sure_look.bor }
theorem chk_32 : chkSs gt_32 (defScope (top 48)) t_sure_look.body (defBody (top 48)) = true := by decide +kernel
theorem df_32 (c : He.SaysD fa0 fnD K) : DF K (faA K) 32 ["parts"] t_sure_look gt_32 fnsL globsL := by
  obtain ⟨fd, F⟩ := fd_32 c
  exact ⟨⟨_, _, _, _, _, fd, F, sc_32, b_32 F, chk_32⟩, rfl, rfl, rfl, rfl, by decide, fun i h => lent_mem i h, rfl, rfl⟩
theorem sc_33 : FnScope n_lies_in ["lot", "other"] (defScope (top 49)) := ⟨rfl, rfl, rfl, by decide +kernel, rfl, by decide +kernel, by decide +kernel⟩
theorem b_33 {a : Addr} {fd : FuncData} (F : FunD K "lies_in" "lies_in" (defArgs (top 49)) (defBody (top 49)) (defScope (top 49)) [] [] a fd) : Binds K fd ["lot", "other"] [] :=
  F.bindsN fun _ _ _ _ _ _ us hl => match us, hl with | [_, _], _ => rfl
theorem fd_33 (c : He.SaysD fa0 fnD K) : ∃ fd, FunD K "lies_in" "lies_in" (defArgs (top 49)) (defBody (top 49)) (defScope (top 49)) [] [] (faA K 33) fd := He.SaysD.def_ c 33 (d := dOf "lies_in" 49) rfl
def gt_33 : GT := { N := n_lies_in, fns := fnsL, globs := globsL, clss := [], P := lentIx t_lies_in.bor }
theorem chk_33 : chkSs gt_33 (defScope (top 49)) t_lies_in.body (defBody (top 49)) = true := by decide +kernel
theorem df_33 (c : He.SaysD fa0 fnD K) : DF K (faA K) 33 ["lot", "other"] t_lies_in gt_33 fnsL globsL := by
  obtain ⟨fd, F⟩ := fd_33 c
  exact ⟨⟨_, _, _, _, _, fd, F, sc_33, b_33 F, chk_33⟩, rfl, rfl, rfl, rfl, by decide, fun i h => lent_mem i h, rfl, rfl⟩
theorem sc_34 : FnScope n_both_by ["one", "other"] (defScope (top 50)) := ⟨rfl, rfl, rfl, by decide +kernel, rfl, by decide +kernel, by decide +kernel⟩
theorem b_34 {a : Addr} {fd : FuncData} (F : FunD K "both_by" "both_by" (defArgs (top 50)) (defBody (top 50)) (defScope (top 50)) [] [] a fd) : Binds K fd ["one", "other"] [] :=
  F.bindsN fun _ _ _ _ _ _ us hl => match us, hl with | [_, _], _ => rfl
theorem fd_34 (c : He.SaysD fa0 fnD K) : ∃ fd, FunD K "both_by" "both_by" (defArgs (top 50)) (defBody (top 50)) (defScope (top 50)) [] [] (faA K 34) fd := He.SaysD.def_ c 34 (d := dOf "both_by" 50) rfl
def gt_34 : GT := { N := n_both_by, fns := fnsL, globs := globsL, clss := [], P := lentIx t_both_by.bor }
theorem chk_34 : chkSs gt_34 (defScope (top 50)) t_both_by.body (defBody (top 50)) = true := by decide +kernel
theorem df_34 (c : He.SaysD fa0 fnD K) : DF K (faA K) 34 ["one", "other"] t_both_by gt_34 fnsL globsL := by
  obtain ⟨fd, F⟩ := fd_34 c
  exact ⟨⟨_, _, _, _, _, fd, F, sc_34, b_34 F, chk_34⟩, rfl, rfl, rfl, rfl, by decide, fun i h => lent_mem i h, rfl, rfl⟩
theorem sc_35 : FnScope n_both_parts ["one", "other"] (defScope (top 51)) := ⟨rfl, rfl, rfl, by decide +kernel, rfl, by decide +kernel, by decide +kernel⟩
theorem b_35 {a : Addr} {fd : FuncData} (F : FunD K "both_parts" "both_parts" (defArgs (top 51)) (defBody (top 51)) (defScope (top 51)) [] [] a fd) : Binds K fd ["one", "other"] [] :=
  F.bindsN fun _ _ _ _ _ _ us hl => match us, hl with | [_, _], _ => rfl
theorem fd_35 (c : He.SaysD fa0 fnD K) : ∃ fd, FunD K "both_parts" "both_parts" (defArgs (top 51)) (defBody (top 51)) (defScope (top 51)) [] [] (faA K 35) fd := He.SaysD.def_ c 35 (d := dOf "both_parts" 51) rfl
def gt_35 : GT := { N := n_both_parts, fns := fnsL, globs := globsL, clss := [], P := lentIx t_both_parts.bor }
theorem chk_35 : chkSs gt_35 (defScope (top 51)) t_both_parts.body (defBody (top 51)) = true := by decide +kernel
theorem df_35 (c : He.SaysD fa0 fnD K) : DF K (faA K) 35 ["one", "other"] t_both_parts gt_35 fnsL globsL := by
  obtain ⟨fd, F⟩ := fd_35 c
  exact ⟨⟨_, _, _, _, _, fd, F, sc_35, b_35 F, chk_35⟩, rfl, rfl, rfl, rfl, by decide, fun i h => lent_mem i h, rfl, rfl⟩
theorem sc_36 : FnScope n_known_by ["one", "lot"] (defScope (top 52)) := ⟨rfl, rfl, rfl, by decide +kernel, rfl, by decide +kernel, by decide +kernel⟩
theorem b_36 {a : Addr} {fd : FuncData} (F : FunD K "known_by" "known_by" (defArgs (top 52)) (defBody (top 52)) (defScope (top 52)) [] [] a fd) : Binds K fd ["one", "lot"] [] :=
  F.bindsN fun _ _ _ _ _ _ us hl => match us, hl with | [_, _], _ => rfl
theorem fd_36 (c : He.SaysD fa0 fnD K) : ∃ fd, FunD K "known_by" "known_by" (defArgs (top 52)) (defBody (top 52)) (defScope (top 52)) [] [] (faA K 36) fd := He.SaysD.def_ c 36 (d := dOf "known_by" 52) rfl
def gt_36 : GT := { N := n_known_by, fns := fnsL, globs := globsL, clss := [], P := lentIx t_known_by.bor }
theorem chk_36 : chkSs gt_36 (defScope (top 52)) t_known_by.body (defBody (top 52)) = true := by decide +kernel
theorem df_36 (c : He.SaysD fa0 fnD K) : DF K (faA K) 36 ["one", "lot"] t_known_by gt_36 fnsL globsL := by
  obtain ⟨fd, F⟩ := fd_36 c
  exact ⟨⟨_, _, _, _, _, fd, F, sc_36, b_36 F, chk_36⟩, rfl, rfl, rfl, rfl, by decide, fun i h => lent_mem i h, rfl, rfl⟩
theorem sc_37 : FnScope n_both_know ["one", "other", "lot"] (defScope (top 53)) := ⟨rfl, rfl, rfl, by decide +kernel, rfl, by decide +kernel, by decide +kernel⟩
theorem b_37 {a : Addr} {fd : FuncData} (F : FunD K "both_know" "both_know" (defArgs (top 53)) (defBody (top 53)) (defScope (top 53)) [] [] a fd) : Binds K fd ["one", "other", "lot"] [] :=
  F.bindsN fun _ _ _ _ _ _ us hl => match us, hl with | [_, _, _], _ => rfl
theorem fd_37 (c : He.SaysD fa0 fnD K) : ∃ fd, FunD K "both_know" "both_know" (defArgs (top 53)) (defBody (top 53)) (defScope (top 53)) [] [] (faA K 37) fd := He.SaysD.def_ c 37 (d := dOf "both_know" 53) rfl
def gt_37 : GT := { N := n_both_know, fns := fnsL, globs := globsL, clss := [], P := lentIx t_both_know.bor }
theorem chk_37 : chkSs gt_37 (defScope (top 53)) t_both_know.body (defBody (top 53)) = true := by decide +kernel
theorem df_37 (c : He.SaysD fa0 fnD K) : DF K (faA K) 37 ["one", "other", "lot"] t_both_know gt_37 fnsL globsL := by
  obtain ⟨fd, F⟩ := fd_37 c
  exact ⟨⟨_, _, _, _, _, fd, F, sc_37, b_37 F, chk_37⟩, rfl, rfl, rfl, rfl, by decide, fun i h => lent_mem i h, rfl, rfl⟩
theorem sc_38 : FnScope n_known_along ["one", "other", "lot"] (defScope (top 54)) := ⟨rfl, rfl, rfl, by decide +kernel, rfl, by decide +kernel, by decide +kernel⟩
theorem b_38 {a : Addr} {fd : FuncData} (F : FunD K "known_along" "known_along" (defArgs (top 54)) (defBody (top 54)) (defScope (top 54)) [] [] a fd) : Binds K fd ["one", "other", "lot"] [] :=
  F.bindsN fun _ _ _ _ _ _ us hl => match us, hl with | [_, _, _], _ => rfl
theorem fd_38 (c : He.SaysD fa0 fnD K) : ∃ fd, FunD K "known_along" "known_along" (defArgs (top 54)) (defBody (top 54)) (defScope (top 54)) [] [] (faA K 38) fd := He.SaysD.def_ c 38 (d := dOf "known_along" 54) rfl
def gt_38 : GT := { N := n_known_along, fns := fnsL, globs := globsL, clss := [], P := lentIx t_known_along.bor }
theorem chk_38 : chkSs gt_38 (defScope (top 54)) t_known_along.body (defBody (top 54)) = true := by decide +kernel
theorem df_38 (c : He.SaysD fa0 fnD K) : DF K (faA K) 38 ["one", "other", "lot"] t_known_along gt_38 fnsL globsL := by
  obtain ⟨fd, F⟩ := fd_38 c
  exact ⟨⟨_, _, _, _, _, fd, F, sc_38, b_38 F, chk_38⟩, rfl, rfl, rfl, rfl, by decide, fun i h => lent_mem i h, rfl, rfl⟩
theorem sc_39 : FnScope n_known_by_all ["one", "other", "lot"] (defScope (top 55)) := ⟨rfl, rfl, rfl, by decide +kernel, rfl, by decide +kernel, by decide +kernel⟩
theorem b_39 {a : Addr} {fd : FuncData} (F : FunD K "known_by_all" "known_by_all" (defArgs (top 55)) (defBody (top 55)) (defScope (top 55)) [] [] a fd) : Binds K fd ["one", "other", "lot"] [] :=
  F.bindsN fun _ _ _ _ _ _ us hl => match us, hl with | [_, _, _], _ => rfl
theorem fd_39 (c : He.SaysD fa0 fnD K) : ∃ fd, FunD K "known_by_all" "known_by_all" (defArgs (top 55)) (defBody (top 55)) (defScope (top 55)) [] [] (faA K 39) fd := He.SaysD.def_ c 39 (d := dOf "known_by_all" 55) rfl
def gt_39 : GT := { N := n_known_by_all, fns := fnsL, globs := globsL, clss := [], P := lentIx t_known_by_all.bor }
theorem chk_39 : chkSs gt_39 (defScope (top 55)) t_known_by_all.body (defBody (top 55)) = true := by decide +kernel
theorem df_39 (c : He.SaysD fa0 fnD K) : DF K (faA K) 39 ["one", "other", "lot"] t_known_by_all gt_39 fnsL globsL := by
  obtain ⟨fd, F⟩ := fd_39 c
  exact ⟨⟨_, _, _, _, _, fd, F, sc_39, b_39 F, chk_39⟩, rfl, rfl, rfl, rfl, by decide, fun i h => lent_mem i h, rfl, rfl⟩
theorem sc_40 : FnScope n_check_told ["one", "other", "belief", "lot"] (defScope (top 56)) := ⟨rfl, rfl, rfl, by decide +kernel, rfl, by decide +kernel, by decide +kernel⟩
theorem b_40 {a : Addr} {fd : FuncData} (F : FunD K "check_told" "check_told" (defArgs (top 56)) (defBody (top 56)) (defScope (top 56)) [] [] a fd) : Binds K fd ["one", "other", "belief", "lot"] [] :=
  F.bindsN fun _ _ _ _ _ _ us hl => match us, hl with | [_, _, _, _], _ => rfl
theorem fd_40 (c : He.SaysD fa0 fnD K) : ∃ fd, FunD K "check_told" "check_told" (defArgs (top 56)) (defBody (top 56)) (defScope (top 56)) [] [] (faA K 40) fd := He.SaysD.def_ c 40 (d := dOf "check_told" 56) rfl
def gt_40 : GT := { N := n_check_told, fns := fnsL, globs := globsL, clss := [], P := lentIx t_check_told.bor }
theorem chk_40 : chkSs gt_40 (defScope (top 56)) t_check_told.body (defBody (top 56)) = true := by decide +kernel
theorem df_40 (c : He.SaysD fa0 fnD K) : DF K (faA K) 40 ["one", "other", "belief", "lot"] t_check_told gt_40 fnsL globsL := by
  obtain ⟨fd, F⟩ := fd_40 c
  exact ⟨⟨_, _, _, _, _, fd, F, sc_40, b_40 F, chk_40⟩, rfl, rfl, rfl, rfl, by decide, fun i h => lent_mem i h, rfl, rfl⟩
theorem sc_41 : FnScope n_likely_by ["parts", "belief", "lot"] (defScope (top 57)) := ⟨rfl, rfl, rfl, by decide +kernel, rfl, by decide +kernel, by decide +kernel⟩
theorem b_41 {a : Addr} {fd : FuncData} (F : FunD K "likely_by" "likely_by" (defArgs (top 57)) (defBody (top 57)) (defScope (top 57)) [] [] a fd) : Binds K fd ["parts", "belief", "lot"] [] :=
  F.bindsN fun _ _ _ _ _ _ us hl => match us, hl with | [_, _, _], _ => rfl
theorem fd_41 (c : He.SaysD fa0 fnD K) : ∃ fd, FunD K "likely_by" "likely_by" (defArgs (top 57)) (defBody (top 57)) (defScope (top 57)) [] [] (faA K 41) fd := He.SaysD.def_ c 41 (d := dOf "likely_by" 57) rfl
def gt_41 : GT := { N := n_likely_by, fns := fnsL, globs := globsL, clss := [], P := lentIx t_likely_by.bor }
theorem chk_41 : chkSs gt_41 (defScope (top 57)) t_likely_by.body (defBody (top 57)) = true := by decide +kernel
theorem df_41 (c : He.SaysD fa0 fnD K) : DF K (faA K) 41 ["parts", "belief", "lot"] t_likely_by gt_41 fnsL globsL := by
  obtain ⟨fd, F⟩ := fd_41 c
  exact ⟨⟨_, _, _, _, _, fd, F, sc_41, b_41 F, chk_41⟩, rfl, rfl, rfl, rfl, by decide, fun i h => lent_mem i h, rfl, rfl⟩
theorem sc_42 : FnScope n_tellings ["one", "other", "belief", "lot"] (defScope (top 58)) := ⟨rfl, rfl, rfl, by decide +kernel, rfl, by decide +kernel, by decide +kernel⟩
theorem b_42 {a : Addr} {fd : FuncData} (F : FunD K "tellings" "tellings" (defArgs (top 58)) (defBody (top 58)) (defScope (top 58)) [] [] a fd) : Binds K fd ["one", "other", "belief", "lot"] [] :=
  F.bindsN fun _ _ _ _ _ _ us hl => match us, hl with | [_, _, _, _], _ => rfl
theorem fd_42 (c : He.SaysD fa0 fnD K) : ∃ fd, FunD K "tellings" "tellings" (defArgs (top 58)) (defBody (top 58)) (defScope (top 58)) [] [] (faA K 42) fd := He.SaysD.def_ c 42 (d := dOf "tellings" 58) rfl
def gt_42 : GT := { N := n_tellings, fns := fnsL, globs := globsL, clss := [], P := lentIx t_tellings.bor }
theorem chk_42 : chkSs gt_42 (defScope (top 58)) t_tellings.body (defBody (top 58)) = true := by decide +kernel
theorem df_42 (c : He.SaysD fa0 fnD K) : DF K (faA K) 42 ["one", "other", "belief", "lot"] t_tellings gt_42 fnsL globsL := by
  obtain ⟨fd, F⟩ := fd_42 c
  exact ⟨⟨_, _, _, _, _, fd, F, sc_42, b_42 F, chk_42⟩, rfl, rfl, rfl, rfl, by decide, fun i h => lent_mem i h, rfl, rfl⟩
theorem sc_43 : FnScope n_told_in_turn ["one", "other", "belief", "lot"] (defScope (top 59)) := ⟨rfl, rfl, rfl, by decide +kernel, rfl, by decide +kernel, by decide +kernel⟩
theorem b_43 {a : Addr} {fd : FuncData} (F : FunD K "told_in_turn" "told_in_turn" (defArgs (top 59)) (defBody (top 59)) (defScope (top 59)) [] [] a fd) : Binds K fd ["one", "other", "belief", "lot"] [] :=
  F.bindsN fun _ _ _ _ _ _ us hl => match us, hl with | [_, _, _, _], _ => rfl
theorem fd_43 (c : He.SaysD fa0 fnD K) : ∃ fd, FunD K "told_in_turn" "told_in_turn" (defArgs (top 59)) (defBody (top 59)) (defScope (top 59)) [] [] (faA K 43) fd := He.SaysD.def_ c 43 (d := dOf "told_in_turn" 59) rfl
def gt_43 : GT := { N := n_told_in_turn, fns := fnsL, globs := globsL, clss := [], P := lentIx t_told_in_turn.bor }
theorem chk_43 : chkSs gt_43 (defScope (top 59)) t_told_in_turn.body (defBody (top 59)) = true := by decide +kernel
theorem df_43 (c : He.SaysD fa0 fnD K) : DF K (faA K) 43 ["one", "other", "belief", "lot"] t_told_in_turn gt_43 fnsL globsL := by
  obtain ⟨fd, F⟩ := fd_43 c
  exact ⟨⟨_, _, _, _, _, fd, F, sc_43, b_43 F, chk_43⟩, rfl, rfl, rfl, rfl, by decide, fun i h => lent_mem i h, rfl, rfl⟩
theorem sc_44 : FnScope n_agreed_by ["one", "other", "belief", "lot"] (defScope (top 60)) := ⟨rfl, rfl, rfl, by decide +kernel, rfl, by decide +kernel, by decide +kernel⟩
theorem b_44 {a : Addr} {fd : FuncData} (F : FunD K "agreed_by" "agreed_by" (defArgs (top 60)) (defBody (top 60)) (defScope (top 60)) [] [] a fd) : Binds K fd ["one", "other", "belief", "lot"] [] :=
  F.bindsN fun _ _ _ _ _ _ us hl => match us, hl with | [_, _, _, _], _ => rfl
theorem fd_44 (c : He.SaysD fa0 fnD K) : ∃ fd, FunD K "agreed_by" "agreed_by" (defArgs (top 60)) (defBody (top 60)) (defScope (top 60)) [] [] (faA K 44) fd := He.SaysD.def_ c 44 (d := dOf "agreed_by" 60) rfl
def gt_44 : GT := { N := n_agreed_by, fns := fnsL, globs := globsL, clss := [], P := lentIx t_agreed_by.bor }
theorem chk_44 : chkSs gt_44 (defScope (top 60)) t_agreed_by.body (defBody (top 60)) = true := by decide +kernel
theorem df_44 (c : He.SaysD fa0 fnD K) : DF K (faA K) 44 ["one", "other", "belief", "lot"] t_agreed_by gt_44 fnsL globsL := by
  obtain ⟨fd, F⟩ := fd_44 c
  exact ⟨⟨_, _, _, _, _, fd, F, sc_44, b_44 F, chk_44⟩, rfl, rfl, rfl, rfl, by decide, fun i h => lent_mem i h, rfl, rfl⟩
theorem sc_45 : FnScope n_agreed ["one", "other", "belief", "lot"] (defScope (top 61)) := ⟨rfl, rfl, rfl, by decide +kernel, rfl, by decide +kernel, by decide +kernel⟩
theorem b_45 {a : Addr} {fd : FuncData} (F : FunD K "agreed" "agreed" (defArgs (top 61)) (defBody (top 61)) (defScope (top 61)) [] [] a fd) : Binds K fd ["one", "other", "belief", "lot"] [] :=
  F.bindsN fun _ _ _ _ _ _ us hl => match us, hl with | [_, _, _, _], _ => rfl
theorem fd_45 (c : He.SaysD fa0 fnD K) : ∃ fd, FunD K "agreed" "agreed" (defArgs (top 61)) (defBody (top 61)) (defScope (top 61)) [] [] (faA K 45) fd := He.SaysD.def_ c 45 (d := dOf "agreed" 61) rfl
def gt_45 : GT := { N := n_agreed, fns := fnsL, globs := globsL, clss := [], P := lentIx t_agreed.bor }
theorem chk_45 : chkSs gt_45 (defScope (top 61)) t_agreed.body (defBody (top 61)) = true := by decide +kernel
theorem df_45 (c : He.SaysD fa0 fnD K) : DF K (faA K) 45 ["one", "other", "belief", "lot"] t_agreed gt_45 fnsL globsL := by
  obtain ⟨fd, F⟩ := fd_45 c
  exact ⟨⟨_, _, _, _, _, fd, F, sc_45, b_45 F, chk_45⟩, rfl, rfl, rfl, rfl, by decide, fun i h => lent_mem i h, rfl, rfl⟩
theorem sc_46 : FnScope n_check_asked ["look", "belief", "game"] (defScope (top 63)) := ⟨rfl, rfl, rfl, by decide +kernel, rfl, by decide +kernel, by decide +kernel⟩
theorem b_46 {a : Addr} {fd : FuncData} (F : FunD K "check_asked" "check_asked" (defArgs (top 63)) (defBody (top 63)) (defScope (top 63)) [] [] a fd) : Binds K fd ["look", "belief", "game"] [] :=
  F.bindsN fun _ _ _ _ _ _ us hl => match us, hl with | [_, _, _], _ => rfl
theorem fd_46 (c : He.SaysD fa0 fnD K) : ∃ fd, FunD K "check_asked" "check_asked" (defArgs (top 63)) (defBody (top 63)) (defScope (top 63)) [] [] (faA K 46) fd := He.SaysD.def_ c 46 (d := dOf "check_asked" 63) rfl
def gt_46 : GT := { N := n_check_asked, fns := fnsL, globs := globsL, clss := [], P := lentIx t_check_asked.bor }
theorem chk_46 : chkSs gt_46 (defScope (top 63)) t_check_asked.body (defBody (top 63)) = true := by decide +kernel
theorem df_46 (c : He.SaysD fa0 fnD K) : DF K (faA K) 46 ["look", "belief", "game"] t_check_asked gt_46 fnsL globsL := by
  obtain ⟨fd, F⟩ := fd_46 c
  exact ⟨⟨_, _, _, _, _, fd, F, sc_46, b_46 F, chk_46⟩, rfl, rfl, rfl, rfl, by decide, fun i h => lent_mem i h, rfl, rfl⟩
theorem sc_47 : FnScope n_weighed ["look", "belief", "mark"] (defScope (top 64)) := ⟨rfl, rfl, rfl, by decide +kernel, rfl, by decide +kernel, by decide +kernel⟩
theorem b_47 {a : Addr} {fd : FuncData} (F : FunD K "weighed" "weighed" (defArgs (top 64)) (defBody (top 64)) (defScope (top 64)) [] [] a fd) : Binds K fd ["look", "belief", "mark"] [] :=
  F.bindsN fun _ _ _ _ _ _ us hl => match us, hl with | [_, _, _], _ => rfl
theorem fd_47 (c : He.SaysD fa0 fnD K) : ∃ fd, FunD K "weighed" "weighed" (defArgs (top 64)) (defBody (top 64)) (defScope (top 64)) [] [] (faA K 47) fd := He.SaysD.def_ c 47 (d := dOf "weighed" 64) rfl
def gt_47 : GT := { N := n_weighed, fns := fnsL, globs := globsL, clss := [], P := lentIx t_weighed.bor }
theorem chk_47 : chkSs gt_47 (defScope (top 64)) t_weighed.body (defBody (top 64)) = true := by decide +kernel
theorem df_47 (c : He.SaysD fa0 fnD K) : DF K (faA K) 47 ["look", "belief", "mark"] t_weighed gt_47 fnsL globsL := by
  obtain ⟨fd, F⟩ := fd_47 c
  exact ⟨⟨_, _, _, _, _, fd, F, sc_47, b_47 F, chk_47⟩, rfl, rfl, rfl, rfl, by decide, fun i h => lent_mem i h, rfl, rfl⟩
theorem sc_48 : FnScope n_pays_at ["look", "belief", "game", "mark"] (defScope (top 65)) := ⟨rfl, rfl, rfl, by decide +kernel, rfl, by decide +kernel, by decide +kernel⟩
theorem b_48 {a : Addr} {fd : FuncData} (F : FunD K "pays_at" "pays_at" (defArgs (top 65)) (defBody (top 65)) (defScope (top 65)) [] [] a fd) : Binds K fd ["look", "belief", "game", "mark"] [] :=
  F.bindsN fun _ _ _ _ _ _ us hl => match us, hl with | [_, _, _, _], _ => rfl
theorem fd_48 (c : He.SaysD fa0 fnD K) : ∃ fd, FunD K "pays_at" "pays_at" (defArgs (top 65)) (defBody (top 65)) (defScope (top 65)) [] [] (faA K 48) fd := He.SaysD.def_ c 48 (d := dOf "pays_at" 65) rfl
def gt_48 : GT := { N := n_pays_at, fns := fnsL, globs := globsL, clss := [], P := lentIx t_pays_at.bor }
theorem chk_48 : chkSs gt_48 (defScope (top 65)) t_pays_at.body (defBody (top 65)) = true := by decide +kernel
theorem df_48 (c : He.SaysD fa0 fnD K) : DF K (faA K) 48 ["look", "belief", "game", "mark"] t_pays_at gt_48 fnsL globsL := by
  obtain ⟨fd, F⟩ := fd_48 c
  exact ⟨⟨_, _, _, _, _, fd, F, sc_48, b_48 F, chk_48⟩, rfl, rfl, rfl, rfl, by decide, fun i h => lent_mem i h, rfl, rfl⟩
theorem sc_49 : FnScope n_worth_by ["look", "belief", "game"] (defScope (top 66)) := ⟨rfl, rfl, rfl, by decide +kernel, rfl, by decide +kernel, by decide +kernel⟩
theorem b_49 {a : Addr} {fd : FuncData} (F : FunD K "worth_by" "worth_by" (defArgs (top 66)) (defBody (top 66)) (defScope (top 66)) [] [] a fd) : Binds K fd ["look", "belief", "game"] [] :=
  F.bindsN fun _ _ _ _ _ _ us hl => match us, hl with | [_, _, _], _ => rfl
theorem fd_49 (c : He.SaysD fa0 fnD K) : ∃ fd, FunD K "worth_by" "worth_by" (defArgs (top 66)) (defBody (top 66)) (defScope (top 66)) [] [] (faA K 49) fd := He.SaysD.def_ c 49 (d := dOf "worth_by" 66) rfl
def gt_49 : GT := { N := n_worth_by, fns := fnsL, globs := globsL, clss := [], P := lentIx t_worth_by.bor }
theorem chk_49 : chkSs gt_49 (defScope (top 66)) t_worth_by.body (defBody (top 66)) = true := by decide +kernel
theorem df_49 (c : He.SaysD fa0 fnD K) : DF K (faA K) 49 ["look", "belief", "game"] t_worth_by gt_49 fnsL globsL := by
  obtain ⟨fd, F⟩ := fd_49 c
  exact ⟨⟨_, _, _, _, _, fd, F, sc_49, b_49 F, chk_49⟩, rfl, rfl, rfl, rfl, by decide, fun i h => lent_mem i h, rfl, rfl⟩
theorem sc_50 : FnScope n_worth ["look", "belief", "game"] (defScope (top 67)) := ⟨rfl, rfl, rfl, by decide +kernel, rfl, by decide +kernel, by decide +kernel⟩
theorem b_50 {a : Addr} {fd : FuncData} (F : FunD K "worth" "worth" (defArgs (top 67)) (defBody (top 67)) (defScope (top 67)) [] [] a fd) : Binds K fd ["look", "belief", "game"] [] :=
  F.bindsN fun _ _ _ _ _ _ us hl => match us, hl with | [_, _, _], _ => rfl
theorem fd_50 (c : He.SaysD fa0 fnD K) : ∃ fd, FunD K "worth" "worth" (defArgs (top 67)) (defBody (top 67)) (defScope (top 67)) [] [] (faA K 50) fd := He.SaysD.def_ c 50 (d := dOf "worth" 67) rfl
def gt_50 : GT := { N := n_worth, fns := fnsL, globs := globsL, clss := [], P := lentIx t_worth.bor }
theorem chk_50 : chkSs gt_50 (defScope (top 67)) t_worth.body (defBody (top 67)) = true := by decide +kernel
theorem df_50 (c : He.SaysD fa0 fnD K) : DF K (faA K) 50 ["look", "belief", "game"] t_worth gt_50 fnsL globsL := by
  obtain ⟨fd, F⟩ := fd_50 c
  exact ⟨⟨_, _, _, _, _, fd, F, sc_50, b_50 F, chk_50⟩, rfl, rfl, rfl, rfl, by decide, fun i h => lent_mem i h, rfl, rfl⟩
theorem sc_51 : FnScope n__law_hash ["seed", "index"] (defScope (top 69)) := ⟨rfl, rfl, rfl, by decide +kernel, rfl, by decide +kernel, by decide +kernel⟩
theorem b_51 {a : Addr} {fd : FuncData} (F : FunD K "_law_hash" "_law_hash" (defArgs (top 69)) (defBody (top 69)) (defScope (top 69)) [] [] a fd) : Binds K fd ["seed", "index"] [] :=
  F.bindsN fun _ _ _ _ _ _ us hl => match us, hl with | [_, _], _ => rfl
theorem fd_51 (c : He.SaysD fa0 fnD K) : ∃ fd, FunD K "_law_hash" "_law_hash" (defArgs (top 69)) (defBody (top 69)) (defScope (top 69)) [] [] (faA K 51) fd := He.SaysD.def_ c 51 (d := dOf "_law_hash" 69) rfl
def gt_51 : GT := { N := n__law_hash, fns := fnsL, globs := globsL, clss := [], P := lentIx t__law_hash.bor }
theorem chk_51 : chkSs gt_51 (defScope (top 69)) t__law_hash.body (defBody (top 69)) = true := by decide +kernel
theorem df_51 (c : He.SaysD fa0 fnD K) : DF K (faA K) 51 ["seed", "index"] t__law_hash gt_51 fnsL globsL := by
  obtain ⟨fd, F⟩ := fd_51 c
  exact ⟨⟨_, _, _, _, _, fd, F, sc_51, b_51 F, chk_51⟩, rfl, rfl, rfl, rfl, by decide, fun i h => lent_mem i h, rfl, rfl⟩
theorem sc_52 : FnScope n__law_random ["generator", "bound"] (defScope (top 70)) := ⟨rfl, rfl, rfl, by decide +kernel, rfl, by decide +kernel, by decide +kernel⟩
theorem b_52 {a : Addr} {fd : FuncData} (F : FunD K "_law_random" "_law_random" (defArgs (top 70)) (defBody (top 70)) (defScope (top 70)) [] [] a fd) : Binds K fd ["generator", "bound"] [] :=
  F.bindsN fun _ _ _ _ _ _ us hl => match us, hl with | [_, _], _ => rfl
theorem fd_52 (c : He.SaysD fa0 fnD K) : ∃ fd, FunD K "_law_random" "_law_random" (defArgs (top 70)) (defBody (top 70)) (defScope (top 70)) [] [] (faA K 52) fd := He.SaysD.def_ c 52 (d := dOf "_law_random" 70) rfl
def gt_52 : GT := { N := n__law_random, fns := fnsL, globs := globsL, clss := [], P := lentIx t__law_random.bor }
theorem chk_52 : chkSs gt_52 (defScope (top 70)) t__law_random.body (defBody (top 70)) = true := by decide +kernel
theorem df_52 (c : He.SaysD fa0 fnD K) : DF K (faA K) 52 ["generator", "bound"] t__law_random gt_52 fnsL globsL := by
  obtain ⟨fd, F⟩ := fd_52 c
  exact ⟨⟨_, _, _, _, _, fd, F, sc_52, b_52 F, chk_52⟩, rfl, rfl, rfl, rfl, by decide, fun i h => lent_mem i h, rfl, rfl⟩
theorem sc_53 : FnScope n__law_cell ["script", "index"] (defScope (top 71)) := ⟨rfl, rfl, rfl, by decide +kernel, rfl, by decide +kernel, by decide +kernel⟩
theorem b_53 {a : Addr} {fd : FuncData} (F : FunD K "_law_cell" "_law_cell" (defArgs (top 71)) (defBody (top 71)) (defScope (top 71)) [] [] a fd) : Binds K fd ["script", "index"] [] :=
  F.bindsN fun _ _ _ _ _ _ us hl => match us, hl with | [_, _], _ => rfl
theorem fd_53 (c : He.SaysD fa0 fnD K) : ∃ fd, FunD K "_law_cell" "_law_cell" (defArgs (top 71)) (defBody (top 71)) (defScope (top 71)) [] [] (faA K 53) fd := He.SaysD.def_ c 53 (d := dOf "_law_cell" 71) rfl
def gt_53 : GT := { N := n__law_cell, fns := fnsL, globs := globsL, clss := [], P := lentIx t__law_cell.bor }
theorem chk_53 : chkSs gt_53 (defScope (top 71)) t__law_cell.body (defBody (top 71)) = true := by decide +kernel
theorem df_53 (c : He.SaysD fa0 fnD K) : DF K (faA K) 53 ["script", "index"] t__law_cell gt_53 fnsL globsL := by
  obtain ⟨fd, F⟩ := fd_53 c
  exact ⟨⟨_, _, _, _, _, fd, F, sc_53, b_53 F, chk_53⟩, rfl, rfl, rfl, rfl, by decide, fun i h => lent_mem i h, rfl, rfl⟩
theorem sc_54 : FnScope n__law_generator ["script", "index"] (defScope (top 72)) := ⟨rfl, rfl, rfl, by decide +kernel, rfl, by decide +kernel, by decide +kernel⟩
theorem b_54 {a : Addr} {fd : FuncData} (F : FunD K "_law_generator" "_law_generator" (defArgs (top 72)) (defBody (top 72)) (defScope (top 72)) [] [] a fd) : Binds K fd ["script", "index"] [] :=
  F.bindsN fun _ _ _ _ _ _ us hl => match us, hl with | [_, _], _ => rfl
theorem fd_54 (c : He.SaysD fa0 fnD K) : ∃ fd, FunD K "_law_generator" "_law_generator" (defArgs (top 72)) (defBody (top 72)) (defScope (top 72)) [] [] (faA K 54) fd := He.SaysD.def_ c 54 (d := dOf "_law_generator" 72) rfl
def gt_54 : GT := { N := n__law_generator, fns := fnsL, globs := globsL, clss := [], P := lentIx t__law_generator.bor }
theorem chk_54 : chkSs gt_54 (defScope (top 72)) t__law_generator.body (defBody (top 72)) = true := by decide +kernel
theorem df_54 (c : He.SaysD fa0 fnD K) : DF K (faA K) 54 ["script", "index"] t__law_generator gt_54 fnsL globsL := by
  obtain ⟨fd, F⟩ := fd_54 c
  exact ⟨⟨_, _, _, _, _, fd, F, sc_54, b_54 F, chk_54⟩, rfl, rfl, rfl, rfl, by decide, fun i h => lent_mem i h, rfl, rfl⟩
theorem sc_55 : FnScope n__law_frac ["top", "under"] (defScope (top 73)) := ⟨rfl, rfl, rfl, by decide +kernel, rfl, by decide +kernel, by decide +kernel⟩
theorem b_55 {a : Addr} {fd : FuncData} (F : FunD K "_law_frac" "_law_frac" (defArgs (top 73)) (defBody (top 73)) (defScope (top 73)) [] [] a fd) : Binds K fd ["top", "under"] [] :=
  F.bindsN fun _ _ _ _ _ _ us hl => match us, hl with | [_, _], _ => rfl
theorem fd_55 (c : He.SaysD fa0 fnD K) : ∃ fd, FunD K "_law_frac" "_law_frac" (defArgs (top 73)) (defBody (top 73)) (defScope (top 73)) [] [] (faA K 55) fd := He.SaysD.def_ c 55 (d := dOf "_law_frac" 73) rfl
def gt_55 : GT := { N := n__law_frac, fns := fnsL, globs := globsL, clss := [], P := lentIx t__law_frac.bor }
theorem chk_55 : chkSs gt_55 (defScope (top 73)) t__law_frac.body (defBody (top 73)) = true := by decide +kernel
theorem df_55 (c : He.SaysD fa0 fnD K) : DF K (faA K) 55 ["top", "under"] t__law_frac gt_55 fnsL globsL := by
  obtain ⟨fd, F⟩ := fd_55 c
  exact ⟨⟨_, _, _, _, _, fd, F, sc_55, b_55 F, chk_55⟩, rfl, rfl, rfl, rfl, by decide, fun i h => lent_mem i h, rfl, rfl⟩
theorem sc_56 : FnScope n__law_below ["one", "other"] (defScope (top 74)) := ⟨rfl, rfl, rfl, by decide +kernel, rfl, by decide +kernel, by decide +kernel⟩
theorem b_56 {a : Addr} {fd : FuncData} (F : FunD K "_law_below" "_law_below" (defArgs (top 74)) (defBody (top 74)) (defScope (top 74)) [] [] a fd) : Binds K fd ["one", "other"] [] :=
  F.bindsN fun _ _ _ _ _ _ us hl => match us, hl with | [_, _], _ => rfl
theorem fd_56 (c : He.SaysD fa0 fnD K) : ∃ fd, FunD K "_law_below" "_law_below" (defArgs (top 74)) (defBody (top 74)) (defScope (top 74)) [] [] (faA K 56) fd := He.SaysD.def_ c 56 (d := dOf "_law_below" 74) rfl
def gt_56 : GT := { N := n__law_below, fns := fnsL, globs := globsL, clss := [], P := lentIx t__law_below.bor }
theorem chk_56 : chkSs gt_56 (defScope (top 74)) t__law_below.body (defBody (top 74)) = true := by decide +kernel
theorem df_56 (c : He.SaysD fa0 fnD K) : DF K (faA K) 56 ["one", "other"] t__law_below gt_56 fnsL globsL := by
  obtain ⟨fd, F⟩ := fd_56 c
  exact ⟨⟨_, _, _, _, _, fd, F, sc_56, b_56 F, chk_56⟩, rfl, rfl, rfl, rfl, by decide, fun i h => lent_mem i h, rfl, rfl⟩
theorem sc_57 : FnScope n__law_exact ["due", "told"] (defScope (top 75)) := ⟨rfl, rfl, rfl, by decide +kernel, rfl, by decide +kernel, by decide +kernel⟩
theorem b_57 {a : Addr} {fd : FuncData} (F : FunD K "_law_exact" "_law_exact" (defArgs (top 75)) (defBody (top 75)) (defScope (top 75)) [] [] a fd) : Binds K fd ["due", "told"] [] :=
  F.bindsN fun _ _ _ _ _ _ us hl => match us, hl with | [_, _], _ => rfl
theorem fd_57 (c : He.SaysD fa0 fnD K) : ∃ fd, FunD K "_law_exact" "_law_exact" (defArgs (top 75)) (defBody (top 75)) (defScope (top 75)) [] [] (faA K 57) fd := He.SaysD.def_ c 57 (d := dOf "_law_exact" 75) rfl
def gt_57 : GT := { N := n__law_exact, fns := fnsL, globs := globsL, clss := [], P := lentIx t__law_exact.bor }
theorem chk_57 : chkSs gt_57 (defScope (top 75)) t__law_exact.body (defBody (top 75)) = true := by decide +kernel
theorem df_57 (c : He.SaysD fa0 fnD K) : DF K (faA K) 57 ["due", "told"] t__law_exact gt_57 fnsL globsL := by
  obtain ⟨fd, F⟩ := fd_57 c
  exact ⟨⟨_, _, _, _, _, fd, F, sc_57, b_57 F, chk_57⟩, rfl, rfl, rfl, rfl, by decide, fun i h => lent_mem i h, rfl, rfl⟩
theorem sc_58 : FnScope n__law_game ["generator", "many", "deeds"] (defScope (top 77)) := ⟨rfl, rfl, rfl, by decide +kernel, rfl, by decide +kernel, by decide +kernel⟩
theorem b_58 {a : Addr} {fd : FuncData} (F : FunD K "_law_game" "_law_game" (defArgs (top 77)) (defBody (top 77)) (defScope (top 77)) [] [] a fd) : Binds K fd ["generator", "many", "deeds"] [] :=
  F.bindsN fun _ _ _ _ _ _ us hl => match us, hl with | [_, _, _], _ => rfl
theorem fd_58 (c : He.SaysD fa0 fnD K) : ∃ fd, FunD K "_law_game" "_law_game" (defArgs (top 77)) (defBody (top 77)) (defScope (top 77)) [] [] (faA K 58) fd := He.SaysD.def_ c 58 (d := dOf "_law_game" 77) rfl
def gt_58 : GT := { N := n__law_game, fns := fnsL, globs := globsL, clss := [], P := lentIx t__law_game.bor }
theorem chk_58 : chkSs gt_58 (defScope (top 77)) t__law_game.body (defBody (top 77)) = true := by decide +kernel
theorem df_58 (c : He.SaysD fa0 fnD K) : DF K (faA K) 58 ["generator", "many", "deeds"] t__law_game gt_58 fnsL globsL := by
  obtain ⟨fd, F⟩ := fd_58 c
  exact ⟨⟨_, _, _, _, _, fd, F, sc_58, b_58 F, chk_58⟩, rfl, rfl, rfl, rfl, by decide, fun i h => lent_mem i h, rfl, rfl⟩
theorem sc_59 : FnScope n__law_drawn_parts ["generator", "many"] (defScope (top 78)) := ⟨rfl, rfl, rfl, by decide +kernel, rfl, by decide +kernel, by decide +kernel⟩
theorem b_59 {a : Addr} {fd : FuncData} (F : FunD K "_law_drawn_parts" "_law_drawn_parts" (defArgs (top 78)) (defBody (top 78)) (defScope (top 78)) [] [] a fd) : Binds K fd ["generator", "many"] [] :=
  F.bindsN fun _ _ _ _ _ _ us hl => match us, hl with | [_, _], _ => rfl
theorem fd_59 (c : He.SaysD fa0 fnD K) : ∃ fd, FunD K "_law_drawn_parts" "_law_drawn_parts" (defArgs (top 78)) (defBody (top 78)) (defScope (top 78)) [] [] (faA K 59) fd := He.SaysD.def_ c 59 (d := dOf "_law_drawn_parts" 78) rfl
def gt_59 : GT := { N := n__law_drawn_parts, fns := fnsL, globs := globsL, clss := [], P := lentIx t__law_drawn_parts.bor }
theorem chk_59 : chkSs gt_59 (defScope (top 78)) t__law_drawn_parts.body (defBody (top 78)) = true := by decide +kernel
theorem df_59 (c : He.SaysD fa0 fnD K) : DF K (faA K) 59 ["generator", "many"] t__law_drawn_parts gt_59 fnsL globsL := by
  obtain ⟨fd, F⟩ := fd_59 c
  exact ⟨⟨_, _, _, _, _, fd, F, sc_59, b_59 F, chk_59⟩, rfl, rfl, rfl, rfl, by decide, fun i h => lent_mem i h, rfl, rfl⟩
theorem sc_60 : FnScope n__law_full ["generator", "many"] (defScope (top 79)) := ⟨rfl, rfl, rfl, by decide +kernel, rfl, by decide +kernel, by decide +kernel⟩
theorem b_60 {a : Addr} {fd : FuncData} (F : FunD K "_law_full" "_law_full" (defArgs (top 79)) (defBody (top 79)) (defScope (top 79)) [] [] a fd) : Binds K fd ["generator", "many"] [] :=
  F.bindsN fun _ _ _ _ _ _ us hl => match us, hl with | [_, _], _ => rfl
theorem fd_60 (c : He.SaysD fa0 fnD K) : ∃ fd, FunD K "_law_full" "_law_full" (defArgs (top 79)) (defBody (top 79)) (defScope (top 79)) [] [] (faA K 60) fd := He.SaysD.def_ c 60 (d := dOf "_law_full" 79) rfl
def gt_60 : GT := { N := n__law_full, fns := fnsL, globs := globsL, clss := [], P := lentIx t__law_full.bor }
theorem chk_60 : chkSs gt_60 (defScope (top 79)) t__law_full.body (defBody (top 79)) = true := by decide +kernel
theorem df_60 (c : He.SaysD fa0 fnD K) : DF K (faA K) 60 ["generator", "many"] t__law_full gt_60 fnsL globsL := by
  obtain ⟨fd, F⟩ := fd_60 c
  exact ⟨⟨_, _, _, _, _, fd, F, sc_60, b_60 F, chk_60⟩, rfl, rfl, rfl, rfl, by decide, fun i h => lent_mem i h, rfl, rfl⟩
theorem sc_61 : FnScope n__law_known_right ["one", "other", "belief", "lot"] (defScope (top 80)) := ⟨rfl, rfl, rfl, by decide +kernel, rfl, by decide +kernel, by decide +kernel⟩
theorem b_61 {a : Addr} {fd : FuncData} (F : FunD K "_law_known_right" "_law_known_right" (defArgs (top 80)) (defBody (top 80)) (defScope (top 80)) [] [] a fd) : Binds K fd ["one", "other", "belief", "lot"] [] :=
  F.bindsN fun _ _ _ _ _ _ us hl => match us, hl with | [_, _, _, _], _ => rfl
theorem fd_61 (c : He.SaysD fa0 fnD K) : ∃ fd, FunD K "_law_known_right" "_law_known_right" (defArgs (top 80)) (defBody (top 80)) (defScope (top 80)) [] [] (faA K 61) fd := He.SaysD.def_ c 61 (d := dOf "_law_known_right" 80) rfl
def gt_61 : GT := { N := n__law_known_right, fns := fnsL, globs := globsL, clss := [], P := lentIx t__law_known_right.bor }
theorem chk_61 : chkSs gt_61 (defScope (top 80)) t__law_known_right.body (defBody (top 80)) = true := by decide +kernel
theorem df_61 (c : He.SaysD fa0 fnD K) : DF K (faA K) 61 ["one", "other", "belief", "lot"] t__law_known_right gt_61 fnsL globsL := by
  obtain ⟨fd, F⟩ := fd_61 c
  exact ⟨⟨_, _, _, _, _, fd, F, sc_61, b_61 F, chk_61⟩, rfl, rfl, rfl, rfl, by decide, fun i h => lent_mem i h, rfl, rfl⟩
theorem sc_62 : FnScope n__law_worths_right ["generator", "one", "other", "belief", "lot"] (defScope (top 81)) := ⟨rfl, rfl, rfl, by decide +kernel, rfl, by decide +kernel, by decide +kernel⟩
theorem b_62 {a : Addr} {fd : FuncData} (F : FunD K "_law_worths_right" "_law_worths_right" (defArgs (top 81)) (defBody (top 81)) (defScope (top 81)) [] [] a fd) : Binds K fd ["generator", "one", "other", "belief", "lot"] [] :=
  F.bindsN fun _ _ _ _ _ _ us hl => match us, hl with | [_, _, _, _, _], _ => rfl
theorem fd_62 (c : He.SaysD fa0 fnD K) : ∃ fd, FunD K "_law_worths_right" "_law_worths_right" (defArgs (top 81)) (defBody (top 81)) (defScope (top 81)) [] [] (faA K 62) fd := He.SaysD.def_ c 62 (d := dOf "_law_worths_right" 81) rfl
def gt_62 : GT := { N := n__law_worths_right, fns := fnsL, globs := globsL, clss := [], P := lentIx t__law_worths_right.bor }
theorem chk_62 : chkSs gt_62 (defScope (top 81)) t__law_worths_right.body (defBody (top 81)) = true := by decide +kernel
theorem df_62 (c : He.SaysD fa0 fnD K) : DF K (faA K) 62 ["generator", "one", "other", "belief", "lot"] t__law_worths_right gt_62 fnsL globsL := by
  obtain ⟨fd, F⟩ := fd_62 c
  exact ⟨⟨_, _, _, _, _, fd, F, sc_62, b_62 F, chk_62⟩, rfl, rfl, rfl, rfl, by decide, fun i h => lent_mem i h, rfl, rfl⟩
theorem sc_63 : FnScope n_law ["script"] (defScope (top 82)) := ⟨rfl, rfl, rfl, by decide +kernel, rfl, by decide +kernel, by decide +kernel⟩
theorem b_63 {a : Addr} {fd : FuncData} (F : FunD K "law" "law" (defArgs (top 82)) (defBody (top 82)) (defScope (top 82)) [] [] a fd) : Binds K fd ["script"] [] :=
  F.bindsN fun _ _ _ _ _ _ us hl => match us, hl with | [_], _ => rfl
theorem fd_63 (c : He.SaysD fa0 fnD K) : ∃ fd, FunD K "law" "law" (defArgs (top 82)) (defBody (top 82)) (defScope (top 82)) [] [] (faA K 63) fd := He.SaysD.def_ c 63 (d := dOf "law" 82) rfl
def gt_63 : GT := { N := n_law, fns := fnsL, globs := globsL, clss := [], P := lentIx t_law.bor }
theorem chk_63 : chkSs gt_63 (defScope (top 82)) t_law.body (defBody (top 82)) = true := by decide +kernel
theorem df_63 (c : He.SaysD fa0 fnD K) : DF K (faA K) 63 ["script"] t_law gt_63 fnsL globsL := by
  obtain ⟨fd, F⟩ := fd_63 c
  exact ⟨⟨_, _, _, _, _, fd, F, sc_63, b_63 F, chk_63⟩, rfl, rfl, rfl, rfl, by decide, fun i h => lent_mem i h, rfl, rfl⟩
end
section
variable {K : PySem.W.Frag} {mg : Str → Option Value} {h : Heap}
theorem keep_of (c : He.SaysD fa0 fnD K) : ∀ f : Nat, f < fnsL.length → PySem.W.keepIn K (.ref (faA K f)) = true
  | 0, _ => by obtain ⟨fd, F⟩ := fd_0 c; exact F.kp
  | 1, _ => by obtain ⟨fd, F⟩ := fd_1 c; exact F.kp
  | 2, _ => by obtain ⟨fd, F⟩ := fd_2 c; exact F.kp
  | 3, _ => by obtain ⟨fd, F⟩ := fd_3 c; exact F.kp
  | 4, _ => by obtain ⟨fd, F⟩ := fd_4 c; exact F.kp
  | 5, _ => by obtain ⟨fd, F⟩ := fd_5 c; exact F.kp
  | 6, _ => by obtain ⟨fd, F⟩ := fd_6 c; exact F.kp
  | 7, _ => by obtain ⟨fd, F⟩ := fd_7 c; exact F.kp
  | 8, _ => by obtain ⟨fd, F⟩ := fd_8 c; exact F.kp
  | 9, _ => by obtain ⟨fd, F⟩ := fd_9 c; exact F.kp
  | 10, _ => by obtain ⟨fd, F⟩ := fd_10 c; exact F.kp
  | 11, _ => by obtain ⟨fd, F⟩ := fd_11 c; exact F.kp
  | 12, _ => by obtain ⟨fd, F⟩ := fd_12 c; exact F.kp
  | 13, _ => by obtain ⟨fd, F⟩ := fd_13 c; exact F.kp
  | 14, _ => by obtain ⟨fd, F⟩ := fd_14 c; exact F.kp
  | 15, _ => by obtain ⟨fd, F⟩ := fd_15 c; exact F.kp
  | 16, _ => by obtain ⟨fd, F⟩ := fd_16 c; exact F.kp
  | 17, _ => by obtain ⟨fd, F⟩ := fd_17 c; exact F.kp
  | 18, _ => by obtain ⟨fd, F⟩ := fd_18 c; exact F.kp
  | 19, _ => by obtain ⟨fd, F⟩ := fd_19 c; exact F.kp
  | 20, _ => by obtain ⟨fd, F⟩ := fd_20 c; exact F.kp
  | 21, _ => by obtain ⟨fd, F⟩ := fd_21 c; exact F.kp
  | 22, _ => by obtain ⟨fd, F⟩ := fd_22 c; exact F.kp
  | 23, _ => by obtain ⟨fd, F⟩ := fd_23 c; exact F.kp
  | 24, _ => by obtain ⟨fd, F⟩ := fd_24 c; exact F.kp
  | 25, _ => by obtain ⟨fd, F⟩ := fd_25 c; exact F.kp
  | 26, _ => by obtain ⟨fd, F⟩ := fd_26 c; exact F.kp
  | 27, _ => by obtain ⟨fd, F⟩ := fd_27 c; exact F.kp
  | 28, _ => by obtain ⟨fd, F⟩ := fd_28 c; exact F.kp
  | 29, _ => by obtain ⟨fd, F⟩ := fd_29 c; exact F.kp
  | 30, _ => by obtain ⟨fd, F⟩ := fd_30 c; exact F.kp
  | 31, _ => by obtain ⟨fd, F⟩ := fd_31 c; exact F.kp
  | 32, _ => by obtain ⟨fd, F⟩ := fd_32 c; exact F.kp
  | 33, _ => by obtain ⟨fd, F⟩ := fd_33 c; exact F.kp
  | 34, _ => by obtain ⟨fd, F⟩ := fd_34 c; exact F.kp
  | 35, _ => by obtain ⟨fd, F⟩ := fd_35 c; exact F.kp
  | 36, _ => by obtain ⟨fd, F⟩ := fd_36 c; exact F.kp
  | 37, _ => by obtain ⟨fd, F⟩ := fd_37 c; exact F.kp
  | 38, _ => by obtain ⟨fd, F⟩ := fd_38 c; exact F.kp
  | 39, _ => by obtain ⟨fd, F⟩ := fd_39 c; exact F.kp
  | 40, _ => by obtain ⟨fd, F⟩ := fd_40 c; exact F.kp
  | 41, _ => by obtain ⟨fd, F⟩ := fd_41 c; exact F.kp
  | 42, _ => by obtain ⟨fd, F⟩ := fd_42 c; exact F.kp
  | 43, _ => by obtain ⟨fd, F⟩ := fd_43 c; exact F.kp
  | 44, _ => by obtain ⟨fd, F⟩ := fd_44 c; exact F.kp
  | 45, _ => by obtain ⟨fd, F⟩ := fd_45 c; exact F.kp
  | 46, _ => by obtain ⟨fd, F⟩ := fd_46 c; exact F.kp
  | 47, _ => by obtain ⟨fd, F⟩ := fd_47 c; exact F.kp
  | 48, _ => by obtain ⟨fd, F⟩ := fd_48 c; exact F.kp
  | 49, _ => by obtain ⟨fd, F⟩ := fd_49 c; exact F.kp
  | 50, _ => by obtain ⟨fd, F⟩ := fd_50 c; exact F.kp
  | 51, _ => by obtain ⟨fd, F⟩ := fd_51 c; exact F.kp
  | 52, _ => by obtain ⟨fd, F⟩ := fd_52 c; exact F.kp
  | 53, _ => by obtain ⟨fd, F⟩ := fd_53 c; exact F.kp
  | 54, _ => by obtain ⟨fd, F⟩ := fd_54 c; exact F.kp
  | 55, _ => by obtain ⟨fd, F⟩ := fd_55 c; exact F.kp
  | 56, _ => by obtain ⟨fd, F⟩ := fd_56 c; exact F.kp
  | 57, _ => by obtain ⟨fd, F⟩ := fd_57 c; exact F.kp
  | 58, _ => by obtain ⟨fd, F⟩ := fd_58 c; exact F.kp
  | 59, _ => by obtain ⟨fd, F⟩ := fd_59 c; exact F.kp
  | 60, _ => by obtain ⟨fd, F⟩ := fd_60 c; exact F.kp
  | 61, _ => by obtain ⟨fd, F⟩ := fd_61 c; exact F.kp
  | 62, _ => by obtain ⟨fd, F⟩ := fd_62 c; exact F.kp
  | 63, _ => by obtain ⟨fd, F⟩ := fd_63 c; exact F.kp
  | n + 64, h => absurd h (by show ¬ n + 64 < 64; omega)
theorem pf (X : K.In h) (G : h.Ns mainGlobals mg) (c : He.SaysD fa0 fnD K) (e : exK K = true) : PF K mg (faA K) caA fnsL globsL glD where
  blt := fun x hx => He.free_ok X G (He.SaysD.facts c (f := .free x) (List.mem_append_right _ (List.mem_append_right _ (List.mem_map_of_mem hx))))
  fn := fun f x ps hf => by
    have hx : xOf f = x := by unfold xOf; rw [hf]; rfl
    have hl : f < fnsL.length := (List.getElem?_eq_some_iff.mp hf).1
    refine ⟨?_, keep_of c f hl⟩
    have hm : He.Fa.glo x ∈ fa0 := by
      have : fnsL.map (fun p => He.Fa.glo p.1) = faF := by rfl
      refine List.mem_append_left _ ?_
      rw [← this]
      exact List.mem_map.mpr ⟨(x, ps), List.mem_of_getElem? hf, rfl⟩
    rw [← hx] at hm ⊢
    exact He.glo_ok X G (He.SaysD.facts c hm)
  glob := fun g x hg => by
    match g, hg with
    | 0, hg =>
      cases hg
      obtain ⟨t, ht⟩ := He.int_ok X G (He.SaysD.facts c (f := .int "MOST_MARKS" 8) (List.mem_append_right _ (List.mem_append_left _ (List.mem_of_getElem? (i := 0) rfl))))
      exact ⟨_, _, .int 8, rfl, ht, ⟨_, rfl⟩, fun _ => rfl⟩
    | 1, hg =>
      cases hg
      obtain ⟨t, ht⟩ := He.int_ok X G (He.SaysD.facts c (f := .int "MOST_STANDINGS" 6) (List.mem_append_right _ (List.mem_append_left _ (List.mem_of_getElem? (i := 1) rfl))))
      exact ⟨_, _, .int 6, rfl, ht, ⟨_, rfl⟩, fun _ => rfl⟩
    | 2, hg =>
      cases hg
      obtain ⟨t, ht⟩ := He.int_ok X G (He.SaysD.facts c (f := .int "MOST_DEEDS" 8) (List.mem_append_right _ (List.mem_append_left _ (List.mem_of_getElem? (i := 2) rfl))))
      exact ⟨_, _, .int 8, rfl, ht, ⟨_, rfl⟩, fun _ => rfl⟩
    | 3, hg =>
      cases hg
      have ht := He.glo_ok X G (He.SaysD.facts c (f := .glo "ONE") (List.mem_append_right _ (List.mem_append_left _ (List.mem_of_getElem? (i := 3) rfl))))
      have e2 : He.tupB K "ONE" [.int 1, .int 1] = true := by
        have e := e
        unfold exK at e
        simp only [Bool.and_eq_true] at e
        exact e.1
      exact ⟨_, _, .ref (He.ga K "ONE"), rfl, ht, rfl, fun H => ⟨_, _, rfl, He.tupB_ok e2 H, by decide, ⟨_, _, rfl, rfl, ⟨_, _, rfl, rfl, rfl⟩⟩⟩⟩
    | 4, hg =>
      cases hg
      have ht := He.glo_ok X G (He.SaysD.facts c (f := .glo "NONE") (List.mem_append_right _ (List.mem_append_left _ (List.mem_of_getElem? (i := 4) rfl))))
      have e2 : He.tupB K "NONE" [.int 0, .int 1] = true := by
        have e := e
        unfold exK at e
        simp only [Bool.and_eq_true] at e
        exact e.2
      exact ⟨_, _, .ref (He.ga K "NONE"), rfl, ht, rfl, fun H => ⟨_, _, rfl, He.tupB_ok e2 H, by decide, ⟨_, _, rfl, rfl, ⟨_, _, rfl, rfl, rfl⟩⟩⟩⟩
    | n + 5, hg => cases hg
end
theorem all_ok {Pg : Program} {w : World} {K : PySem.W.Frag} {mg : Str → Option Value} {base h : Heap} (X : K.In h) (G : h.Ns mainGlobals mg) (c : He.SaysD fa0 fnD K) (e : exK K = true) :
    ∀ k f x ps, fnsL[f]? = some (x, ps) → Has Pg w K mg base (faA K) caA k f ps (callT tdefs glD loopU k f) := by
  have P := pf X G c e
  refine prog_ok fun f x ps hf => ?_
  match f, hf with
  | 0, hf => cases hf; exact ⟨t_is_whole, rfl, (df_0 c).binds, fun j ih => def_ok loopU_ok P (df_0 c) ih⟩
  | 1, hf => cases hf; exact ⟨t_common_divisor, rfl, (df_1 c).binds, fun j ih => def_ok loopU_ok P (df_1 c) ih⟩
  | 2, hf => cases hf; exact ⟨t_lowest, rfl, (df_2 c).binds, fun j ih => def_ok loopU_ok P (df_2 c) ih⟩
  | 3, hf => cases hf; exact ⟨t_is_fraction, rfl, (df_3 c).binds, fun j ih => def_ok loopU_ok P (df_3 c) ih⟩
  | 4, hf => cases hf; exact ⟨t_is_amount, rfl, (df_4 c).binds, fun j ih => def_ok loopU_ok P (df_4 c) ih⟩
  | 5, hf => cases hf; exact ⟨t_plus, rfl, (df_5 c).binds, fun j ih => def_ok loopU_ok P (df_5 c) ih⟩
  | 6, hf => cases hf; exact ⟨t_times, rfl, (df_6 c).binds, fun j ih => def_ok loopU_ok P (df_6 c) ih⟩
  | 7, hf => cases hf; exact ⟨t_over, rfl, (df_7 c).binds, fun j ih => def_ok loopU_ok P (df_7 c) ih⟩
  | 8, hf => cases hf; exact ⟨t_is_less, rfl, (df_8 c).binds, fun j ih => def_ok loopU_ok P (df_8 c) ih⟩
  | 9, hf => cases hf; exact ⟨t_summed, rfl, (df_9 c).binds, fun j ih => def_ok loopU_ok P (df_9 c) ih⟩
  | 10, hf => cases hf; exact ⟨t_are_chances, rfl, (df_10 c).binds, fun j ih => def_ok loopU_ok P (df_10 c) ih⟩
  | 11, hf => cases hf; exact ⟨t_are_fractions, rfl, (df_11 c).binds, fun j ih => def_ok loopU_ok P (df_11 c) ih⟩
  | 12, hf => cases hf; exact ⟨t_greatest, rfl, (df_12 c).binds, fun j ih => def_ok loopU_ok P (df_12 c) ih⟩
  | 13, hf => cases hf; exact ⟨t_product, rfl, (df_13 c).binds, fun j ih => def_ok loopU_ok P (df_13 c) ih⟩
  | 14, hf => cases hf; exact ⟨t_is_look_by, rfl, (df_14 c).binds, fun j ih => def_ok loopU_ok P (df_14 c) ih⟩
  | 15, hf => cases hf; exact ⟨t_check_look, rfl, (df_15 c).binds, fun j ih => def_ok loopU_ok P (df_15 c) ih⟩
  | 16, hf => cases hf; exact ⟨t_standings_of, rfl, (df_16 c).binds, fun j ih => def_ok loopU_ok P (df_16 c) ih⟩
  | 17, hf => cases hf; exact ⟨t_marks_of, rfl, (df_17 c).binds, fun j ih => def_ok loopU_ok P (df_17 c) ih⟩
  | 18, hf => cases hf; exact ⟨t_column_of, rfl, (df_18 c).binds, fun j ih => def_ok loopU_ok P (df_18 c) ih⟩
  | 19, hf => cases hf; exact ⟨t_is_belief_by, rfl, (df_19 c).binds, fun j ih => def_ok loopU_ok P (df_19 c) ih⟩
  | 20, hf => cases hf; exact ⟨t_check_belief, rfl, (df_20 c).binds, fun j ih => def_ok loopU_ok P (df_20 c) ih⟩
  | 21, hf => cases hf; exact ⟨t_is_game_by, rfl, (df_21 c).binds, fun j ih => def_ok loopU_ok P (df_21 c) ih⟩
  | 22, hf => cases hf; exact ⟨t_check_game, rfl, (df_22 c).binds, fun j ih => def_ok loopU_ok P (df_22 c) ih⟩
  | 23, hf => cases hf; exact ⟨t_is_lot_of, rfl, (df_23 c).binds, fun j ih => def_ok loopU_ok P (df_23 c) ih⟩
  | 24, hf => cases hf; exact ⟨t_ordered, rfl, (df_24 c).binds, fun j ih => def_ok loopU_ok P (df_24 c) ih⟩
  | 25, hf => cases hf; exact ⟨t_are_parts_of, rfl, (df_25 c).binds, fun j ih => def_ok loopU_ok P (df_25 c) ih⟩
  | 26, hf => cases hf; exact ⟨t_how_many, rfl, (df_26 c).binds, fun j ih => def_ok loopU_ok P (df_26 c) ih⟩
  | 27, hf => cases hf; exact ⟨t_check_parts, rfl, (df_27 c).binds, fun j ih => def_ok loopU_ok P (df_27 c) ih⟩
  | 28, hf => cases hf; exact ⟨t_check_both, rfl, (df_28 c).binds, fun j ih => def_ok loopU_ok P (df_28 c) ih⟩
  | 29, hf => cases hf; exact ⟨t_check_lot, rfl, (df_29 c).binds, fun j ih => def_ok loopU_ok P (df_29 c) ih⟩
  | 30, hf => cases hf; obtain ⟨fd, F⟩ := fd_30 c; exact ⟨t_alike_in, rfl, ⟨fd, b_30 F, Lk.of F⟩, fun j ih => has_al loopU_ok P ⟨_, _, _, _, _, fd, F, sc_30, b_30 F, chk_30⟩ rfl rfl rfl rfl rfl ih⟩
  | 31, hf => cases hf; exact ⟨t_number_of, rfl, (df_31 c).binds, fun j ih => def_ok loopU_ok P (df_31 c) ih⟩
  | 32, hf => cases hf; exact ⟨t_sure_look, rfl, (df_32 c).binds, fun j ih => def_ok loopU_ok P (df_32 c) ih⟩
  | 33, hf => cases hf; exact ⟨t_lies_in, rfl, (df_33 c).binds, fun j ih => def_ok loopU_ok P (df_33 c) ih⟩
  | 34, hf => cases hf; exact ⟨t_both_by, rfl, (df_34 c).binds, fun j ih => def_ok loopU_ok P (df_34 c) ih⟩
  | 35, hf => cases hf; exact ⟨t_both_parts, rfl, (df_35 c).binds, fun j ih => def_ok loopU_ok P (df_35 c) ih⟩
  | 36, hf => cases hf; exact ⟨t_known_by, rfl, (df_36 c).binds, fun j ih => def_ok loopU_ok P (df_36 c) ih⟩
  | 37, hf => cases hf; exact ⟨t_both_know, rfl, (df_37 c).binds, fun j ih => def_ok loopU_ok P (df_37 c) ih⟩
  | 38, hf => cases hf; exact ⟨t_known_along, rfl, (df_38 c).binds, fun j ih => def_ok loopU_ok P (df_38 c) ih⟩
  | 39, hf => cases hf; exact ⟨t_known_by_all, rfl, (df_39 c).binds, fun j ih => def_ok loopU_ok P (df_39 c) ih⟩
  | 40, hf => cases hf; exact ⟨t_check_told, rfl, (df_40 c).binds, fun j ih => def_ok loopU_ok P (df_40 c) ih⟩
  | 41, hf => cases hf; exact ⟨t_likely_by, rfl, (df_41 c).binds, fun j ih => def_ok loopU_ok P (df_41 c) ih⟩
  | 42, hf => cases hf; exact ⟨t_tellings, rfl, (df_42 c).binds, fun j ih => def_ok loopU_ok P (df_42 c) ih⟩
  | 43, hf => cases hf; exact ⟨t_told_in_turn, rfl, (df_43 c).binds, fun j ih => def_ok loopU_ok P (df_43 c) ih⟩
  | 44, hf => cases hf; exact ⟨t_agreed_by, rfl, (df_44 c).binds, fun j ih => def_ok loopU_ok P (df_44 c) ih⟩
  | 45, hf => cases hf; exact ⟨t_agreed, rfl, (df_45 c).binds, fun j ih => def_ok loopU_ok P (df_45 c) ih⟩
  | 46, hf => cases hf; exact ⟨t_check_asked, rfl, (df_46 c).binds, fun j ih => def_ok loopU_ok P (df_46 c) ih⟩
  | 47, hf => cases hf; exact ⟨t_weighed, rfl, (df_47 c).binds, fun j ih => def_ok loopU_ok P (df_47 c) ih⟩
  | 48, hf => cases hf; exact ⟨t_pays_at, rfl, (df_48 c).binds, fun j ih => def_ok loopU_ok P (df_48 c) ih⟩
  | 49, hf => cases hf; exact ⟨t_worth_by, rfl, (df_49 c).binds, fun j ih => def_ok loopU_ok P (df_49 c) ih⟩
  | 50, hf => cases hf; exact ⟨t_worth, rfl, (df_50 c).binds, fun j ih => def_ok loopU_ok P (df_50 c) ih⟩
  | 51, hf => cases hf; exact ⟨t__law_hash, rfl, (df_51 c).binds, fun j ih => def_ok loopU_ok P (df_51 c) ih⟩
  | 52, hf => cases hf; exact ⟨t__law_random, rfl, (df_52 c).binds, fun j ih => def_ok loopU_ok P (df_52 c) ih⟩
  | 53, hf => cases hf; exact ⟨t__law_cell, rfl, (df_53 c).binds, fun j ih => def_ok loopU_ok P (df_53 c) ih⟩
  | 54, hf => cases hf; exact ⟨t__law_generator, rfl, (df_54 c).binds, fun j ih => def_ok loopU_ok P (df_54 c) ih⟩
  | 55, hf => cases hf; exact ⟨t__law_frac, rfl, (df_55 c).binds, fun j ih => def_ok loopU_ok P (df_55 c) ih⟩
  | 56, hf => cases hf; exact ⟨t__law_below, rfl, (df_56 c).binds, fun j ih => def_ok loopU_ok P (df_56 c) ih⟩
  | 57, hf => cases hf; exact ⟨t__law_exact, rfl, (df_57 c).binds, fun j ih => def_ok loopU_ok P (df_57 c) ih⟩
  | 58, hf => cases hf; exact ⟨t__law_game, rfl, (df_58 c).binds, fun j ih => def_ok loopU_ok P (df_58 c) ih⟩
  | 59, hf => cases hf; exact ⟨t__law_drawn_parts, rfl, (df_59 c).binds, fun j ih => def_ok loopU_ok P (df_59 c) ih⟩
  | 60, hf => cases hf; exact ⟨t__law_full, rfl, (df_60 c).binds, fun j ih => def_ok loopU_ok P (df_60 c) ih⟩
  | 61, hf => cases hf; exact ⟨t__law_known_right, rfl, (df_61 c).binds, fun j ih => def_ok loopU_ok P (df_61 c) ih⟩
  | 62, hf => cases hf; exact ⟨t__law_worths_right, rfl, (df_62 c).binds, fun j ih => def_ok loopU_ok P (df_62 c) ih⟩
  | 63, hf => cases hf; exact ⟨t_law, rfl, (df_63 c).binds, fun j ih => def_ok loopU_ok P (df_63 c) ih⟩
  | n + 64, hf => cases hf
theorem facts {Pg : Program} {w : World} {K : PySem.W.Frag} {h : Heap} {mg : Str → Option Value} {f : Addr} (X : K.In h) (G : h.Ns mainGlobals mg) (hfa : mg ("law" : Str) = some (.ref f)) (c : He.SaysD fa0 fnD K) (e : exK K = true) :
    ∃ fd : FuncData, (∀ (s : Shared) (v : Value), BindsTo s fd ⟨[v], []⟩ [("script", v)]) ∧ ∀ base : Heap, K.In base → base.Ns mainGlobals mg → FnOk Pg w K mg base (CXa Pg) 40 f fd ["script"] (spC K (faA K) caA 1 (callT tdefs glD loopU 40 63)) := by
  obtain ⟨fd, F⟩ := fd_63 c
  have P := pf X G c e
  have ef := hfa.symm.trans (P.fn 63 "law" ["script"] rfl).1
  cases ef
  have b := FunD.bindsA (ps := ["script"]) F fun _ _ _ _ _ _ us hl => match us, hl with | [_], _ => rfl
  refine ⟨fd, fun s v => b s [v] rfl, fun base _ _ => ?_⟩
  obtain ⟨fd', h1, h2, h3⟩ := all_ok (Pg := Pg) (w := w) (base := base) X G c e 40 63 "law" ["script"] rfl
  have efd : fd' = fd := h3.eq (Lk.of F)
  subst efd
  exact fn_wide (fun outer H s E u s' z => ⟨w, z⟩) h1
end TL
open PySem PySem.W PySem.Calls PyProof.Rows
theorem PySem.Challenge.cw_lookstell_k98_whole_what_agreeing_is_wor_holds : PySem.Challenge.rw_lookstell_k98_whole_what_agreeing_is_wor.Holds := by
  w_on; o_law
  refine HandSHeadRun.head_any (r := OpenLaw.row PySem.Challenge.rw_lookstell_k98_whole_what_agreeing_is_wor) (q := view (OpenLaw.row PySem.Challenge.rw_lookstell_k98_whole_what_agreeing_is_wor).prog [82]) (H := TL.hk) (ob := TL.ob) (M := 4000) (loose := TL.loose) (d := HandSHeadRun.topDef (OpenLaw.row PySem.Challenge.rw_lookstell_k98_whole_what_agreeing_is_wor).prog 82) (kwd := []) TL.ob_eq
    (by kernel_rfl) (fun s => by kernel_rfl) TL.run (by kernel_rfl) (by kernel_rfl) (by kernel_rfl) (by rfl) (by first | assumption | decide +kernel) (by decide +kernel) ⟨rfl, rfl, rfl, rfl, rfl, by decide +kernel⟩ ?hw ?hc
  case hw => w_witness2
  case hc =>
    refine L2.walk_ofE (l := PySem.Challenge.rw_lookstell_k98_whole_what_agreeing_is_wor) (n := 63) (k := 40) (x := "script") (CX := TL.CXa (PySem.Challenge.rw_lookstell_k98_whole_what_agreeing_is_wor).prog) rfl (by decide) (by kernel_rfl) ⟨rfl, by decide, by decide⟩ ?F TL.cxa_false
    intro w mg fa h Y G hmg0
    obtain ⟨K, KX, c, e⟩ := Y
    have hmg : mg ("law" : PySem.Str) = some (.ref fa) := by
      have e : (HandSHeadRun.topDef (OpenLaw.row PySem.Challenge.rw_lookstell_k98_whole_what_agreeing_is_wor).prog 82).name = ("law" : PySem.Str) := by kernel_rfl
      rw [← e]
      exact hmg0
    obtain ⟨fd, hb, hF⟩ := TL.facts (Pg := (PySem.Challenge.rw_lookstell_k98_whole_what_agreeing_is_wor).prog) (w := w) KX G hmg c e
    refine ⟨K, fd, _, KX, hb, fun H a ns hl _ hS => ?_, hF⟩
    obtain ⟨outs, hp⟩ := TL.plain_law ns
    exact TL.law_sp hp hl hS
