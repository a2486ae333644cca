import PyProof.Rows.All
import Wide.All
import OpenK.AllK
import Wide.FinOn
import HandS.TupMul
import HandS.WideBits
import HandS.Zip
import HandS.ForMost
import HandS.ForExc
import HandS.Defaults
import HandS.Conv
import HandS.Rev
import HandS.TupAny
import HandS.TupLe
import HandS.DeepEq
import HandS.SortOrd
import HandS.SortKw
import HandS.TupSets
import HandS.IsInst
import HandS.Small
import HandS.Style
import HandS.DictComp
import PyProof.TwoTypesSub
import PyProof.EqAt
import PyProof.NeKinds
import KE.DataMinMax
import KE.KTupSum
import KE.GoesMore
import HandS.Iter
import HandS.Dict
import HandS.Text
import HandS.NamedTupSort
import HandS.SortInts
import HandS.More
import HandS.Head0
import HandS.Head1
import HandS.Head2
import HandS.HeadEnd
import HandS.HeadHook1
import HandS.HeadHook2
import HandS.HeadHook4
import HandS.Codes
import PyProof.StrLawsRepr
import PyProof.Rows.ReprOcc
import PySem.Challenge.RW_roundstairs_k00_books_of_any_values
set_option maxHeartbeats 0
set_option Elab.async false
set_option linter.all false
set_option maxRecDepth 100000
/-! tuple * int, all cases -/
namespace L2
open PySem PySem.Spec PyProof.Rows
theorem tuple_mulS (l : Addr) (items : Array Value) (n : Nat) (dd : Option Addr) (sl : Array (Option Value)) (x : Int) (u : Tok) (c0 : (decide (x < -(2 ^ 63)) || decide (x ≥ 2 ^ 63)) = false) (c1 : (items.isEmpty || x == 1) = true) :
    Meets (Builtin.«tuple.__mul__» ⟨[.ref l, .int x u], []⟩) (fun _ R s => s.heap.get? l = some { cls := .type "tuple", dict := dd, data := .seq items n, slots := sl } ∧
      R (.ok (.ret (Value.ref l))) { s with heap := s.heap, toks := s.toks }) :=
  .of_wp fun prog w A R s h => by
    obtain ⟨hp, g, d, tk, os⟩ := s
    obtain ⟨hl, h⟩ := h
    have f1 := AutoSeq1.idx_int
    wp_walk using wpAny_loadPart' hl
    repeat (first
      | (refine wpAny_ite_false (decide_eq_false (by rw [c0]; exact Bool.false_ne_true)) ?_; wp_walk using wpAny_loadPart' hl)
      | (refine wpAny_ite_true (decide_eq_true (by rw [c1])) ?_; wp_walk using wpAny_loadPart' hl))
    exact ⟨_, rfl, h⟩
theorem tuple_mulZ (l : Addr) (items : Array Value) (n : Nat) (dd : Option Addr) (sl : Array (Option Value)) (x : Int) (u : Tok) (c0 : (decide (x < -(2 ^ 63)) || decide (x ≥ 2 ^ 63)) = false) (c1 : (items.isEmpty || x == 1) = false) (c2 : (decide (x ≤ 0) || items.isEmpty) = true) :
    Meets (Builtin.«tuple.__mul__» ⟨[.ref l, .int x u], []⟩) (fun _ R s => s.heap.get? l = some { cls := .type "tuple", dict := dd, data := .seq items n, slots := sl } ∧
      R (.ok (.ret (Value.ref s.heap.objs.size))) { s with heap := s.heap.push { cls := Value.type "tuple", data := Data.seq #[] }, toks := s.toks }) :=
  .of_wp fun prog w A R s h => by
    obtain ⟨hp, g, d, tk, os⟩ := s
    obtain ⟨hl, h⟩ := h
    have f1 := AutoSeq1.idx_int
    wp_walk using wpAny_loadPart' hl
    repeat (first
      | (refine wpAny_ite_false (decide_eq_false (by rw [c0]; exact Bool.false_ne_true)) ?_; wp_walk using wpAny_loadPart' hl)
      | (refine wpAny_ite_false (decide_eq_false (by rw [c1]; exact Bool.false_ne_true)) ?_; wp_walk using wpAny_loadPart' hl)
      | (refine wpAny_ite_true (decide_eq_true (by rw [c2])) ?_; wp_walk using wpAny_loadPart' hl))
    exact ⟨_, rfl, h⟩
/-- tuple * int: the tuple itself, the empty one, or a new one -/
def rRepA (K : PySem.W.Frag) : R2 := fun x y H Q => ∃ l k xs, x = .ref l ∧ y = .int k ∧ SqT K H l xs ∧ -(2 ^ 63) < k ∧ k ≤ 1000 ∧ xs.length ≤ 1000 ∧
  (xs = [] ∨ k = 1 → Q (.ref l) H) ∧ (xs ≠ [] → k ≤ 0 → ∀ p, H p = none → Q (.ref p) (upd H p (.tup []))) ∧ (xs ≠ [] → 2 ≤ k → ∀ p, H p = none → Q (.ref p) (upd H p (.tup (List.replicate k.toNat xs).flatten)))
section
variable {X : Cx}
theorem op_repA : OpR X (binaryOp .Mult) (rRepA X.K) := by
  intro pins s σ H x y v u Q I rx ry h
  obtain ⟨l, k, xs, rfl, rfl, hT, h1, h2, hz, q1, q2, q3⟩ := h
  by_cases hA : xs = [] ∨ k = 1
  · cases rx
    obtain ⟨t, rfl⟩ := ry
    obtain ⟨its, r, ⟨⟨cls, dd, data, sl⟩, ho, hc, n, hd⟩, hs⟩ := I.tuple hT
    simp only at hc hd
    subst hc hd
    have c0 : (decide (k < -(2 ^ 63)) || decide (k ≥ 2 ^ 63)) = false := by
      rw [decide_eq_false (by omega), decide_eq_false (by omega)] <;> rfl
    have c1 : (its.toArray.isEmpty || k == 1) = true := by
      rcases hA with e | e
      · subst e
        cases r
        rfl
      · subst e
        simp
    exact wpAny_binaryOp_repeat_ref (T := "tuple") (U := "int") (by decide) ⟨_, ho, rfl⟩ (fun s' => typeIs_int s' k t) noFill_tuple_mul F.fills_int_mul F.slot_int_rmul repeat_tuple F.slot_int_index.lookup
      (call_meets F.slot_int_rmul (typeIs_int s k t) F.entry_int_rmul (F.args_int_rmul_2 _ _) (int_rmul_tuple k t l its.toArray n dd sl)
        ⟨ho, rfl, ⟨_, ho, rfl⟩, call_meets F.slot_tuple_mul ⟨_, ho, rfl⟩ F.entry_tuple_mul (F.args_tuple_mul_2 _ _) (tuple_mulS l its.toArray n dd sl k t c0 c1) ⟨ho, ⟨.ref l, H, I, rfl, q1 hA⟩⟩⟩)
  · have hne : xs ≠ [] := fun e => hA (.inl e)
    have hk1 : k ≠ 1 := fun e => hA (.inr e)
    by_cases hk : k ≤ 0
    · cases rx
      obtain ⟨t, rfl⟩ := ry
      obtain ⟨its, r, ⟨⟨cls, dd, data, sl⟩, ho, hc, n, hd⟩, hs⟩ := I.tuple hT
      simp only at hc hd
      subst hc hd
      have hn : its ≠ [] := fun e => hne (by
        have hle : its.length = xs.length := r.length.symm
        rw [e] at hle
        exact List.eq_nil_of_length_eq_zero hle.symm)
      have hi : its.toArray.isEmpty = false := by
        cases its with
        | nil => exact absurd rfl hn
        | cons a b => rfl
      have c0 : (decide (k < -(2 ^ 63)) || decide (k ≥ 2 ^ 63)) = false := by
        rw [decide_eq_false (by omega), decide_eq_false (by omega)] <;> rfl
      have c1 : (its.toArray.isEmpty || k == 1) = false := by
        rw [hi, Bool.false_or]
        exact beq_eq_false_iff_ne.mpr hk1
      have c2 : (decide (k ≤ 0) || its.toArray.isEmpty) = true := by
        rw [decide_eq_true hk]; rfl
      refine wpAny_binaryOp_repeat_ref (T := "tuple") (U := "int") (by decide) ⟨_, ho, rfl⟩ (fun s' => typeIs_int s' k t) noFill_tuple_mul F.fills_int_mul F.slot_int_rmul repeat_tuple F.slot_int_index.lookup
        (call_meets F.slot_int_rmul (typeIs_int s k t) F.entry_int_rmul (F.args_int_rmul_2 _ _) (int_rmul_tuple k t l its.toArray n dd sl)
          ⟨ho, rfl, ⟨_, ho, rfl⟩, call_meets F.slot_tuple_mul ⟨_, ho, rfl⟩ F.entry_tuple_mul (F.args_tuple_mul_2 _ _) (tuple_mulZ l its.toArray n dd sl k t c0 c1 c2) ⟨ho, ?_⟩⟩)
      refine ⟨.ref s.heap.objs.size, _, I.laid (t' := s.toks) (o := .tup []) (fun b ob q => Heap.get?_push_of_some _ q) (Nat.le_refl _) ?_, rfl, q2 hne hk _ (I.hok.fresh (Nat.le_refl _))⟩
      exact ⟨Nat.zero_le _, [], .nil, IsTup.new _ _⟩
    · exact op_repT pins s σ H _ _ v u Q I rx ry ⟨l, k, xs, rfl, rfl, hT, hne, by omega, h2, hz, q3 hne (by omega)⟩
end
end L2

/-! zip of a list or a tuple with a list or a tuple: kinds true = tuple, false = list -/
namespace RK
open PySem
open PySem.Sem (wp)
def IsItK : Bool → Heap → Addr → Addr → Nat → Prop
  | true, h, it, l, i => h.IsTupleIter it l i
  | false, h, it, l, i => h.IsListIter it l i
def IsSqK : Bool → Heap → Addr → Array Value → Prop
  | true, h, l, xs => h.IsTuple l xs
  | false, h, l, xs => h.IsList l xs
def itN : Bool → String
  | true => "tuple_iterator"
  | false => "list_iterator"
theorem IsItK.extBut {k : Bool} {h h' : Heap} {a b t : Addr} {i : Nat} (x : IsItK k h a t i) (hs : Heap.ExtBut b h h') (hab : a ≠ b) : IsItK k h' a t i := by
  cases k
  · exact Heap.IsListIter.extBut x hs hab
  · exact Heap.IsTupleIter.extBut x hs hab
theorem IsSqK.extBut {k : Bool} {h h' : Heap} {a b : Addr} {xs : Array Value} (x : IsSqK k h a xs) (hs : Heap.ExtBut b h h') (hab : a ≠ b) : IsSqK k h' a xs := by
  cases k
  · exact Heap.IsList.extBut x hs hab
  · exact Heap.IsTuple.extBut x hs hab
theorem IsItK.at {k : Bool} {h h' : Heap} {a l : Addr} {i : Nat} (x : IsItK k h a l i) (e : ∀ o, h.get? a = some o → h'.get? a = some o) : IsItK k h' a l i := by
  cases k
  · exact Heap.IsListIter.at x e
  · exact Heap.IsTupleIter.at x e
theorem IsItK.obj {k : Bool} {h : Heap} {a l : Addr} {i : Nat} (x : IsItK k h a l i) : ∃ o, h.get? a = some o ∧ o.data = .fields #[.ref l, .int i 0] := by
  cases k
  · obtain ⟨o, e, _, d⟩ := x; exact ⟨o, e, d⟩
  · obtain ⟨o, e, _, d⟩ := x; exact ⟨o, e, d⟩
theorem IsItK.of {k : Bool} {h : Heap} {a l : Addr} (e : h.get? a = some { cls := .type (itN k), data := .fields #[.ref l, .int 0 0] }) : IsItK k h a l 0 := by
  cases k
  · exact ⟨_, e, rfl, rfl⟩
  · exact ⟨_, e, rfl, rfl⟩
section
variable {prog : Program} {w : World} {A : Around} {E : Value → Shared → Prop} {s : Shared}
theorem nextK_item {k : Bool} {it l : Addr} {i : Nat} {items} {x : Value} {Q : Value → Shared → Prop} (hit : IsItK k s.heap it l i) (hl : IsSqK k s.heap l items) (hx : items[i]? = some x)
    (hQ : ∀ h', IsItK k h' it l (i + 1) → Heap.SameBut it s.heap h' → Q x { s with heap := h' }) : wpAny (model prog w) A (Builtin.SmallTypes.nextOf (.ref it)) Q E s := by
  cases k
  · exact wpAny_nextOf_list_item hit hl hx hQ
  · exact RZ.nextOf_tuple_item hit hl hx hQ
theorem nextK_end {k : Bool} {it l : Addr} {i : Nat} {items} {Q : Value → Shared → Prop} (hh : A.handled = none) (hit : IsItK k s.heap it l i) (hl : IsSqK k s.heap l items) (hx : items[i]? = none)
    (hE : ∀ h' e, Heap.ExtBut it s.heap h' → (∃ o, h'.get? e = some o ∧ o.cls = .type "StopIteration") → E (.ref e) { s with heap := h' }) : wpAny (model prog w) A (Builtin.SmallTypes.nextOf (.ref it)) Q E s := by
  cases k
  · exact wpAny_nextOf_list_end hh hit hl hx hE
  · exact RZ.nextOf_tuple_end hh hit hl hx hE
theorem zipK_next_item {ka kb : Bool} {z TI TO i1 i2 l1 l2 : Addr} {k1 k2 : Nat} {xs ys : Array Value} {x y a b : Value} {Q : Value → Shared → Prop} (D : ZipApart z TI TO i1 i2 l1 l2)
    (hz : IsZip s.heap z TI TO .none) (hTI : IsPair s.heap TI (.ref i1) (.ref i2)) (hTO : IsPair s.heap TO a b)
    (h1 : IsItK ka s.heap i1 l1 k1) (h2 : IsItK kb s.heap i2 l2 k2) (hl1 : IsSqK ka s.heap l1 xs) (hl2 : IsSqK kb s.heap l2 ys) (hx : xs[k1]? = some x) (hy : ys[k2]? = some y)
    (hQ : ∀ h', IsZip h' z TI TO (rawInt s.heap.objs.size) → IsPair h' TO x y → IsItK ka h' i1 l1 (k1 + 1) → IsItK kb h' i2 l2 (k2 + 1) → IsPair h' s.heap.objs.size x y → h'.objs.size = s.heap.objs.size + 1 →
      (∀ c o, c ≠ z → c ≠ TO → c ≠ i1 → c ≠ i2 → s.heap.get? c = some o → h'.get? c = some o) → Q (.ref s.heap.objs.size) { s with heap := h' }) :
    wpAny (model prog w) A (Builtin.«zip.__next__» ⟨[.ref z], []⟩) (fun fin s' => ∃ v, fin = .done (.ret v) ∧ Q v s') E s := by
  show wpAny _ _ (field (.ref z) 2 >>= _) _ _ _
  refine wpAny_bind (wpAny_field hz rfl (x := .bool false) rfl ?_)
  show wpAny _ _ (field (.ref z) 3 >>= _) _ _ _
  refine wpAny_bind (wpAny_field hz rfl (x := .ref TI) rfl ?_)
  refine wpAny_bind (wpAny_seqItems hTI rfl ?_)
  show wpAny _ _ (Builtin.SmallTypes.ownedTupleIsFree (.ref z) >>= _) _ _ _
  refine wpAny_bind ?_
  unfold Builtin.SmallTypes.ownedTupleIsFree
  refine wpAny_bind (wpAny_field hz rfl (x := .none) rfl (wpAny_pure ?_))
  simp only [if_true]
  refine wpAny_bind (wpAny_rule ?_)
  refine wpAny_bind (wpAny_field hz rfl (x := .ref TO) rfl ?_)
  refine wpAny_bind (wpAny_setField_rec hz (by simp) fun h₁ hz₁ hs₁ => ?_)
  replace hz₁ : IsZip h₁ z TI TO .ellipsis := hz₁
  refine wpAny_bind ?_
  simp only [List.zipIdx_cons, List.zipIdx_nil, List.forIn_cons, List.forIn_nil]

  refine wpAny_bind (wpAny_bind (wpAny_onRaise ?_))
  show wpAny _ _ (Builtin.SmallTypes.nextOf (.ref i1) >>= _) _ _ _
  refine wpAny_bind (nextK_item (h1.extBut hs₁.extBut D.i1z) (hl1.extBut hs₁.extBut D.l1z) hx fun h₂ h1₂ hs₂ => wpAny_pure ?_)
  have hTO₂ : IsPair h₂ TO a b := hs₂.extBut _ _ D.TOi1 (hs₁.extBut _ _ D.TOz hTO)
  refine wpAny_bind (wpAny_seqItems hTO₂ rfl ?_)
  refine wpAny_bind (wpAny_updateSeq_pair hTO₂ fun h₃ hTO₃ hs₃ => ?_)
  replace hTO₃ : IsPair h₃ TO x b := hTO₃
  refine wpAny_bind (wpAny_letGo (wpAny_pure ?_))

  refine wpAny_bind (wpAny_bind (wpAny_onRaise ?_))
  show wpAny _ _ (Builtin.SmallTypes.nextOf (.ref i2) >>= _) _ _ _
  refine wpAny_bind (nextK_item (((h2.extBut hs₁.extBut D.i2z).extBut hs₂.extBut D.i12.symm).extBut hs₃.extBut D.TOi2.symm)
    (((hl2.extBut hs₁.extBut D.l2z).extBut hs₂.extBut D.l2i1).extBut hs₃.extBut D.l2TO) hy fun h₄ h2₄ hs₄ => wpAny_pure ?_)
  have hTO₄ : IsPair h₄ TO x b := hs₄.extBut _ _ D.TOi2 hTO₃
  refine wpAny_bind (wpAny_seqItems hTO₄ rfl ?_)
  refine wpAny_bind (wpAny_updateSeq_pair hTO₄ fun h₅ hTO₅ hs₅ => ?_)
  replace hTO₅ : IsPair h₅ TO x y := hTO₅
  refine wpAny_bind (wpAny_letGo (wpAny_pure (wpAny_pure ?_)))

  refine wpAny_bind (wpAny_seqItems hTO₅ rfl ?_)
  refine wpAny_bind (wpAny_newTuple ?_)
  have hsz : h₅.objs.size = s.heap.objs.size := by rw [hs₅.1, hs₄.1, hs₃.1, hs₂.1, hs₁.1]
  have hz₅ : IsZip h₅ z TI TO .ellipsis := hs₅.extBut _ _ D.TOz.symm (hs₄.extBut _ _ D.i2z.symm (hs₃.extBut _ _ D.TOz.symm (hs₂.extBut _ _ D.i1z.symm hz₁)))
  have hk₅ : ∀ c o, c ≠ z → c ≠ TO → c ≠ i1 → c ≠ i2 → s.heap.get? c = some o → h₅.get? c = some o := fun c o c1 c2 c3 c4 e =>
    hs₅.extBut _ _ c2 (hs₄.extBut _ _ c4 (hs₃.extBut _ _ c2 (hs₂.extBut _ _ c3 (hs₁.extBut _ _ c1 e))))
  have h1₅ : IsItK ka h₅ i1 l1 (k1 + 1) := ((h1₂.extBut hs₃.extBut D.TOi1.symm).extBut hs₄.extBut D.i12).extBut hs₅.extBut D.TOi1.symm
  have h2₅ : IsItK kb h₅ i2 l2 (k2 + 1) := h2₄.extBut hs₅.extBut D.TOi2.symm
  have hzlt : z < h₅.objs.size := Heap.lt_size hz₅
  have hTOlt : TO < h₅.objs.size := Heap.lt_size hTO₅
  have hi1lt : i1 < h₅.objs.size := by obtain ⟨_, e, _⟩ := h1₅.obj; exact Heap.lt_size e
  have hi2lt : i2 < h₅.objs.size := by obtain ⟨_, e, _⟩ := h2₅.obj; exact Heap.lt_size e
  show wpAny _ _ (Builtin.SmallTypes.ownedTupleHandOut (.ref z) (.ref h₅.objs.size) >>= _) _ _ _
  refine wpAny_bind ?_
  unfold Builtin.SmallTypes.ownedTupleHandOut
  have hz₆ : IsZip (h₅.push { cls := .type "tuple", data := .seq #[x, y] }) z TI TO .ellipsis := Heap.get?_push_of_some _ hz₅
  refine wpAny_bind (wpAny_setField_rec hz₆ (by simp) fun h₇ hz₇ hs₇ => ?_)
  replace hz₇ : IsZip h₇ z TI TO (rawInt h₅.objs.size) := hz₇
  refine wpAny_setField_rec hz₇ (by simp) fun h₈ hz₈ hs₈ => ?_
  replace hz₈ : IsZip h₈ z TI TO (rawInt h₅.objs.size) := hz₈
  have up : ∀ c o, c ≠ z → h₅.get? c = some o → h₈.get? c = some o := fun c o c1 e => hs₈.extBut _ _ c1 (hs₇.extBut _ _ c1 (Heap.get?_push_of_some _ e))
  have hT₈ : IsPair h₈ h₅.objs.size x y := hs₈.extBut _ _ (Nat.ne_of_gt hzlt) (hs₇.extBut _ _ (Nat.ne_of_gt hzlt) (Heap.get?_push_size _ rfl))
  have hz8 : h₈.objs.size = h₅.objs.size + 1 := by rw [hs₈.1, hs₇.1, Heap.size_push]
  rw [hsz] at hz₈ hT₈ hz8
  refine wpAny_pure ⟨_, rfl, ?_⟩
  show Q (.ref h₅.objs.size) _
  rw [hsz]
  exact hQ h₈ hz₈ (up _ _ D.TOz hTO₅) (h1₅.at fun o e => up _ o D.i1z e) (h2₅.at fun o e => up _ o D.i2z e) hT₈ hz8 fun c o c1 c2 c3 c4 e => up c o c1 (hk₅ c o c1 c2 c3 c4 e)

theorem zipK_next_end {ka kb : Bool} {z TI TO i1 i2 l1 l2 : Addr} {k1 k2 : Nat} {xs ys : Array Value} {a b : Value} {Q : Fin → Shared → Prop} (hh : A.handled = none) (D : ZipApart z TI TO i1 i2 l1 l2)
    (hz : IsZip s.heap z TI TO .none) (hTI : IsPair s.heap TI (.ref i1) (.ref i2)) (hTO : IsPair s.heap TO a b)
    (h1 : IsItK ka s.heap i1 l1 k1) (h2 : IsItK kb s.heap i2 l2 k2) (hl1 : IsSqK ka s.heap l1 xs) (hl2 : IsSqK kb s.heap l2 ys) (hend : xs[k1]? = none ∨ ys[k2]? = none)
    (hE : ∀ h' e, (∀ c o, c ≠ z → c ≠ TO → c ≠ i1 → c ≠ i2 → s.heap.get? c = some o → h'.get? c = some o) → (∃ o, h'.get? e = some o ∧ o.cls = .type "StopIteration") → E (.ref e) { s with heap := h' }) :
    wpAny (model prog w) A (Builtin.«zip.__next__» ⟨[.ref z], []⟩) Q E s := by
  show wpAny _ _ (field (.ref z) 2 >>= _) _ _ _
  refine wpAny_bind (wpAny_field hz rfl (x := .bool false) rfl ?_)
  show wpAny _ _ (field (.ref z) 3 >>= _) _ _ _
  refine wpAny_bind (wpAny_field hz rfl (x := .ref TI) rfl ?_)
  refine wpAny_bind (wpAny_seqItems hTI rfl ?_)
  show wpAny _ _ (Builtin.SmallTypes.ownedTupleIsFree (.ref z) >>= _) _ _ _
  refine wpAny_bind ?_
  unfold Builtin.SmallTypes.ownedTupleIsFree
  refine wpAny_bind (wpAny_field hz rfl (x := .none) rfl (wpAny_pure ?_))
  simp only [if_true]
  refine wpAny_bind (wpAny_rule ?_)
  refine wpAny_bind (wpAny_field hz rfl (x := .ref TO) rfl ?_)
  refine wpAny_bind (wpAny_setField_rec hz (by simp) fun h₁ hz₁ hs₁ => ?_)
  replace hz₁ : IsZip h₁ z TI TO .ellipsis := hz₁
  refine wpAny_bind ?_
  simp only [List.zipIdx_cons, List.zipIdx_nil, List.forIn_cons, List.forIn_nil]
  refine wpAny_bind (wpAny_bind (wpAny_onRaise ?_))
  show wpAny _ _ (Builtin.SmallTypes.nextOf (.ref i1) >>= _) _ _ _
  cases hx : xs[k1]? with
  | none =>
    refine wpAny_bind (nextK_end hh (h1.extBut hs₁.extBut D.i1z) (hl1.extBut hs₁.extBut D.l1z) hx fun h₂ e hs₂ he => ?_)
    obtain ⟨oe, hoe, hce⟩ := he
    have hz₂ : IsZip h₂ z TI TO .ellipsis := hs₂ _ _ D.i1z.symm hz₁
    have hez : e ≠ z := fun x => by subst x; rw [hz₂] at hoe; cases hoe; simp at hce
    refine wpAny_setField_rec hz₂ (by simp) fun h₃ _ hs₃ => hE h₃ e (fun c o c1 _ c3 _ x => hs₃.extBut _ _ c1 (hs₂ _ _ c3 (hs₁.extBut _ _ c1 x))) ⟨oe, hs₃.extBut _ _ hez hoe, hce⟩
  | some x =>
    have hy : ys[k2]? = none := by rcases hend with h | h; rw [hx] at h; cases h; exact h
    refine wpAny_bind (nextK_item (h1.extBut hs₁.extBut D.i1z) (hl1.extBut hs₁.extBut D.l1z) hx fun h₂ h1₂ hs₂ => wpAny_pure ?_)
    have hTO₂ : IsPair h₂ TO a b := hs₂.extBut _ _ D.TOi1 (hs₁.extBut _ _ D.TOz hTO)
    refine wpAny_bind (wpAny_seqItems hTO₂ rfl ?_)
    refine wpAny_bind (wpAny_updateSeq_pair hTO₂ fun h₃ hTO₃ hs₃ => ?_)
    refine wpAny_bind (wpAny_letGo (wpAny_pure ?_))
    refine wpAny_bind (wpAny_bind (wpAny_onRaise ?_))
    show wpAny _ _ (Builtin.SmallTypes.nextOf (.ref i2) >>= _) _ _ _
    refine wpAny_bind (nextK_end hh (((h2.extBut hs₁.extBut D.i2z).extBut hs₂.extBut D.i12.symm).extBut hs₃.extBut D.TOi2.symm)
      (((hl2.extBut hs₁.extBut D.l2z).extBut hs₂.extBut D.l2i1).extBut hs₃.extBut D.l2TO) hy fun h₄ e hs₄ he => ?_)
    obtain ⟨oe, hoe, hce⟩ := he
    have hz₄ : IsZip h₄ z TI TO .ellipsis := hs₄ _ _ D.i2z.symm (hs₃.extBut _ _ D.TOz.symm (hs₂.extBut _ _ D.i1z.symm hz₁))
    have hez : e ≠ z := fun x => by subst x; rw [hz₄] at hoe; cases hoe; simp at hce
    refine wpAny_setField_rec hz₄ (by simp) fun h₅ _ hs₅ => hE h₅ e (fun c o c1 c2 c3 c4 x => hs₅.extBut _ _ c1 (hs₄ _ _ c4 (hs₃.extBut _ _ c2 (hs₂.extBut _ _ c3 (hs₁.extBut _ _ c1 x))))) ⟨oe, hs₅.extBut _ _ hez hoe, hce⟩

theorem pyNext_zipK_item {ka kb : Bool} {z TI TO i1 i2 l1 l2 : Addr} {k1 k2 : Nat} {xs ys : Array Value} {x y a b : Value} {Q : Option Value → Shared → Prop} (D : ZipApart z TI TO i1 i2 l1 l2)
    (hz : IsZip s.heap z TI TO .none) (hTI : IsPair s.heap TI (.ref i1) (.ref i2)) (hTO : IsPair s.heap TO a b)
    (h1 : IsItK ka s.heap i1 l1 k1) (h2 : IsItK kb s.heap i2 l2 k2) (hl1 : IsSqK ka s.heap l1 xs) (hl2 : IsSqK kb s.heap l2 ys) (hx : xs[k1]? = some x) (hy : ys[k2]? = some y)
    (hQ : ∀ h', IsZip h' z TI TO (rawInt s.heap.objs.size) → IsPair h' TO x y → IsItK ka h' i1 l1 (k1 + 1) → IsItK kb h' i2 l2 (k2 + 1) → IsPair h' s.heap.objs.size x y → h'.objs.size = s.heap.objs.size + 1 →
      (∀ c o, c ≠ z → c ≠ TO → c ≠ i1 → c ≠ i2 → s.heap.get? c = some o → h'.get? c = some o) → Q (some (.ref s.heap.objs.size)) { s with heap := h' }) :
    wpAny (model prog w) A (pyNext (.ref z)) Q E s := by
  have hT : s.TypeIs (.ref z) "zip" := ⟨_, hz, rfl⟩
  unfold pyNext
  exact wpAny_bind (wpAny_attempt (wpAny_callSpecial?_slot (name := Str.ofString "__next__") hT F.slot_zip_next
    (wpAny_call_entry F.slot_zip_next hT F.entry_zip_next
      (zipK_next_item D hz hTI hTO h1 h2 hl1 hl2 hx hy fun h' a1 a2 a3 a4 a5 a6 a7 => wpAny_pure (hQ h' a1 a2 a3 a4 a5 a6 a7)) (F.args_zip_next_1 _))))

theorem pyNext_zipK_end {ka kb : Bool} {z TI TO i1 i2 l1 l2 : Addr} {k1 k2 : Nat} {xs ys : Array Value} {a b : Value} {Q : Option Value → Shared → Prop} (hh : A.handled = none) (D : ZipApart z TI TO i1 i2 l1 l2)
    (hz : IsZip s.heap z TI TO .none) (hTI : IsPair s.heap TI (.ref i1) (.ref i2)) (hTO : IsPair s.heap TO a b)
    (h1 : IsItK ka s.heap i1 l1 k1) (h2 : IsItK kb s.heap i2 l2 k2) (hl1 : IsSqK ka s.heap l1 xs) (hl2 : IsSqK kb s.heap l2 ys) (hend : xs[k1]? = none ∨ ys[k2]? = none)
    (hQ : ∀ h', (∀ c o, c ≠ z → c ≠ TO → c ≠ i1 → c ≠ i2 → s.heap.get? c = some o → h'.get? c = some o) → Q none { s with heap := h' }) : wpAny (model prog w) A (pyNext (.ref z)) Q E s := by
  have hT : s.TypeIs (.ref z) "zip" := ⟨_, hz, rfl⟩
  unfold pyNext
  refine wpAny_bind (wpAny_attempt (wpAny_callSpecial?_slot (name := Str.ofString "__next__") hT F.slot_zip_next
    (wpAny_call_entry F.slot_zip_next hT F.entry_zip_next (zipK_next_end hh D hz hTI hTO h1 h2 hl1 hl2 hend fun h' e hk he => ?_) (F.args_zip_next_1 _))))
  obtain ⟨o, ho, hc⟩ := he
  refine wpAny_bind (wpAny_isInstance (T := "StopIteration") (b := true) ⟨o, ho, hc⟩ isSubtype_stop ?_)
  exact wpAny_pure (hQ _ hk)
end


abbrev zipKH1 (ka : Bool) (h : Heap) (l1 : Addr) : Heap := h.push { cls := .type (itN ka), data := .fields #[.ref l1, .int 0 0] }
abbrev zipKH2 (ka kb : Bool) (h : Heap) (l1 l2 : Addr) : Heap := (zipKH1 ka h l1).push { cls := .type (itN kb), data := .fields #[.ref l2, .int 0 0] }
abbrev zipKH3 (ka kb : Bool) (h : Heap) (l1 l2 : Addr) : Heap := (zipKH2 ka kb h l1 l2).push { cls := .type "tuple", data := .seq #[.ref h.objs.size, .ref (zipKH1 ka h l1).objs.size] }
abbrev zipKH4 (ka kb : Bool) (h : Heap) (l1 l2 : Addr) : Heap := (zipKH3 ka kb h l1 l2).push { cls := .type "tuple", data := .seq #[.none, .none] }
abbrev zipKH5 (ka kb : Bool) (h : Heap) (l1 l2 : Addr) : Heap := (zipKH4 ka kb h l1 l2).push { cls := .type "zip", data := .fields #[.none, .bool false, .bool false, .ref (zipKH2 ka kb h l1 l2).objs.size, .ref (zipKH3 ka kb h l1 l2).objs.size] }
theorem meets_zipK_new (ka kb : Bool) (l1 l2 : Addr) (xs ys : Array Value) :
    Meets (Builtin.«zip.__new__» ⟨[.type "zip", .ref l1, .ref l2], []⟩) (fun _ R s => IsSqK ka s.heap l1 xs ∧ IsSqK kb s.heap l2 ys ∧
      R (.ok (.ret (.ref (zipKH4 ka kb s.heap l1 l2).objs.size))) { s with heap := zipKH5 ka kb s.heap l1 l2 }) := by
  cases ka <;> cases kb
  · exact meets_zip_new l1 l2 xs ys
  · refine .of_wp fun prog w A R s h => ?_
    obtain ⟨hp, g, d, tk, os⟩ := s; obtain ⟨hl1, hl2, h⟩ := h
    have hsub := sub_zip
    have hL1 : Heap.IsList (Shared.heap ⟨hp, g, d, tk, os⟩) l1 xs := hl1
    have hL2 : Heap.IsTuple (Shared.heap ⟨hp.push { cls := .type "list_iterator", data := .fields #[.ref l1, .int 0 0] }, g, d, tk, os⟩) l2 ys := Heap.IsTuple.push hl2 _
    wp_walk using wpAny_pyIter_list hL1, wpAny_pyIter_tuple hL2
    exact ⟨_, rfl, h⟩
  · refine .of_wp fun prog w A R s h => ?_
    obtain ⟨hp, g, d, tk, os⟩ := s; obtain ⟨hl1, hl2, h⟩ := h
    have hsub := sub_zip
    have hL1 : Heap.IsTuple (Shared.heap ⟨hp, g, d, tk, os⟩) l1 xs := hl1
    have hL2 : Heap.IsList (Shared.heap ⟨hp.push { cls := .type "tuple_iterator", data := .fields #[.ref l1, .int 0 0] }, g, d, tk, os⟩) l2 ys := Heap.IsList.push hl2 _
    wp_walk using wpAny_pyIter_tuple hL1, wpAny_pyIter_list hL2
    exact ⟨_, rfl, h⟩
  · exact RZ.meets_zipT_new l1 l2 xs ys

section
variable {prog : Program} {w : World} {A : Around} {E : Value → Shared → Prop} {s : Shared}

theorem call_zipK {ka kb : Bool} {l1 l2 : Addr} {xs ys : Array Value} {Q : Value → Shared → Prop} (hl1 : IsSqK ka s.heap l1 xs) (hl2 : IsSqK kb s.heap l2 ys)
    (h : ∀ h', IsZip h' (s.heap.objs.size + 4) (s.heap.objs.size + 2) (s.heap.objs.size + 3) .none → IsPair h' (s.heap.objs.size + 2) (.ref s.heap.objs.size) (.ref (s.heap.objs.size + 1)) →
      IsPair h' (s.heap.objs.size + 3) .none .none → IsItK ka h' s.heap.objs.size l1 0 → IsItK kb h' (s.heap.objs.size + 1) l2 0 → h'.objs.size = s.heap.objs.size + 5 →
      (∀ c o, s.heap.get? c = some o → h'.get? c = some o) → Q (.ref (s.heap.objs.size + 4)) { s with heap := h' }) :
    wpAny (model prog w) A (call (.type "zip") [.ref l1, .ref l2]) Q E s := by
  refine callType_new F.called_zip (by decide) (F.typeCall_zip_2 _ _) (F.newCall_zip_2 _ _) (fun obj => F.args_object_init_3 obj _ _) F.entry_zip_new
    (meets_zipK_new ka kb l1 l2 xs ys) ⟨hl1, hl2, ?_⟩
  have z1 : (zipKH1 ka s.heap l1).objs.size = s.heap.objs.size + 1 := Heap.size_push ..
  have z2 : (zipKH2 ka kb s.heap l1 l2).objs.size = s.heap.objs.size + 2 := by rw [Heap.size_push, z1]
  have z3 : (zipKH3 ka kb s.heap l1 l2).objs.size = s.heap.objs.size + 3 := by rw [Heap.size_push, z2]
  have z4 : (zipKH4 ka kb s.heap l1 l2).objs.size = s.heap.objs.size + 4 := by rw [Heap.size_push, z3]
  have z5 : (zipKH5 ka kb s.heap l1 l2).objs.size = s.heap.objs.size + 5 := by rw [Heap.size_push, z4]
  have g5 : (zipKH5 ka kb s.heap l1 l2).get? (zipKH4 ka kb s.heap l1 l2).objs.size = some _ := Heap.get?_push_size _ rfl
  have g4 : (zipKH5 ka kb s.heap l1 l2).get? (zipKH3 ka kb s.heap l1 l2).objs.size = some _ := Heap.get?_push_of_some _ (Heap.get?_push_size _ rfl)
  have g3 : (zipKH5 ka kb s.heap l1 l2).get? (zipKH2 ka kb s.heap l1 l2).objs.size = some _ := Heap.get?_push_of_some _ (Heap.get?_push_of_some _ (Heap.get?_push_size _ rfl))
  have g2 : (zipKH5 ka kb s.heap l1 l2).get? (zipKH1 ka s.heap l1).objs.size = some _ := Heap.get?_push_of_some _ (Heap.get?_push_of_some _ (Heap.get?_push_of_some _ (Heap.get?_push_size _ rfl)))
  have g1 : (zipKH5 ka kb s.heap l1 l2).get? s.heap.objs.size = some _ := Heap.get?_push_of_some _ (Heap.get?_push_of_some _ (Heap.get?_push_of_some _ (Heap.get?_push_of_some _ (Heap.get?_push_size _ rfl))))
  show _ ∧ _
  rw [z2, z3, z4] at g5
  rw [z1, z2] at g3
  rw [z3] at g4
  rw [z1] at g2
  rw [z4]
  exact ⟨⟨_, g5, rfl⟩, h _ g5 g3 g4 (IsItK.of g1) (IsItK.of g2) z5 fun c o x =>
    Heap.get?_push_of_some _ (Heap.get?_push_of_some _ (Heap.get?_push_of_some _ (Heap.get?_push_of_some _ (Heap.get?_push_of_some _ x))))⟩
end

end RK
namespace RK
open PySem PySem.Spec PyProof.Rows L2
def SqK : Bool → PySem.W.Frag → Hp → Addr → List V → Prop
  | true, K, H, a, xs => SqT K H a xs
  | false, K, H, a, xs => SqL K H a xs
theorem SqK.inv {k : Bool} {X : Cx} {pins : List (Addr × Obj)} {σ : L2.St} {H : Hp} {s : Shared} {a : Addr} {xs : List V} (h : SqK k X.K H a xs) (I : Inv X pins σ H s) : ∃ its : List Value, Vals xs its ∧ IsSqK k s.heap a its.toArray := by
  cases k
  · obtain ⟨its, rv, p, _⟩ := I.list h
    exact ⟨its, rv, p.isList⟩
  · obtain ⟨its, rv, p, _⟩ := I.tuple h
    exact ⟨its, rv, p⟩
theorem SqK.lt {k : Bool} {X : Cx} {pins : List (Addr × Obj)} {σ : L2.St} {H : Hp} {s : Shared} {a : Addr} {xs : List V} (h : SqK k X.K H a xs) (I : Inv X pins σ H s) : a < s.heap.objs.size := by
  cases k
  · obtain ⟨its, rv, p, _⟩ := I.list h
    exact p.lt
  · obtain ⟨its, rv, ⟨o, ho, _⟩, _⟩ := I.tuple h
    exact Heap.lt_size ho
theorem SqK.inj {k : Bool} {X : Cx} {pins : List (Addr × Obj)} {σ : L2.St} {H : Hp} {s : Shared} {a : Addr} {xs ys : List V} (h : SqK k X.K H a xs) (I : Inv X pins σ H s) (h' : SqK k X.K H a ys) : xs = ys := by
  cases k
  · exact I.list_inj h h'
  · exact I.tuple_inj h h'
/-- the tuples at a and b as they stand at each turn, the items in new pairs -/
def ItzK (ka kb : Bool) (K : PySem.W.Frag) (a b : Addr) : It :=
  ⟨fun i H => ∃ (xs ys : List V) (x y : V), SqK ka K H a xs ∧ SqK kb K H b ys ∧ xs[i]? = some x ∧ ys[i]? = some y,
    fun i H v H' => ∃ T x y, v = .ref T ∧ H T = none ∧ H' = upd H T (.tup [x, y]) ∧ (∀ xs, SqK ka K H a xs → xs[i]? = some x) ∧ ∀ ys, SqK kb K H b ys → ys[i]? = some y,
    fun i H => ∃ xs ys : List V, SqK ka K H a xs ∧ SqK kb K H b ys ∧ (xs.length ≤ i ∨ ys.length ≤ i)⟩
theorem turn_zipK {ka kb : Bool} {P : Program} {w : World} {K : PySem.W.Frag} {elts : List Expr} {kk : Nat} {tpos : Pos} {a b z TI TO i1 i2 : Addr} (D : ZipApart z TI TO i1 i2 a b) :
    Turn P w K (.Tuple elts kk tpos) (ItzK ka kb K a b) [z, TI, TO, i1, i2] z (fun i h => IsZip h z TI TO .none ∧ IsPair h TI (.ref i1) (.ref i2) ∧ (∃ x y, IsPair h TO x y) ∧ IsItK ka h i1 a i ∧ IsItK kb h i2 b i) where
  mem := by simp
  obj := fun i h st c hc => by
    obtain ⟨hz, hTI, ⟨x, y, hTO⟩, w1, w2⟩ := st
    obtain ⟨o1, e1, d1⟩ := w1.obj
    obtain ⟨o2, e2, d2⟩ := w2.obj
    have e' : c = z ∨ c = TI ∨ c = TO ∨ c = i1 ∨ c = i2 := by simpa using hc
    rcases e' with q | q | q | q | q
    · rw [q]; exact ⟨_, hz, fun v q => nomatch q⟩
    · rw [q]; exact ⟨_, hTI, fun v q => nomatch q⟩
    · rw [q]; exact ⟨_, hTO, fun v q => nomatch q⟩
    · rw [q]; exact ⟨o1, e1, fun v q => by rw [d1] at q; cases q⟩
    · rw [q]; exact ⟨o2, e2, fun v q => by rw [d2] at q; cases q⟩
  keep := fun i h h' st k => by
    obtain ⟨hz, hTI, ⟨x, y, hTO⟩, h1, h2⟩ := st
    exact ⟨k z (by simp) _ hz, k TI (by simp) _ hTI, ⟨x, y, k TO (by simp) _ hTO⟩, h1.at fun o q => k i1 (by simp) o q, h2.at fun o q => k i2 (by simp) o q⟩
  item := by
    intro X hP hw hK hc i pins s σ H E I hf st hg
    subst hP hw hK
    obtain ⟨hz, hTI, ⟨x0, y0, hTO⟩, h1, h2⟩ := st
    obtain ⟨xs, ys, x, y, hqx, hqy, hx, hy⟩ := hg
    obtain ⟨its, rv, p⟩ := hqx.inv I
    obtain ⟨its2, rv2, p2⟩ := hqy.inv I
    obtain ⟨u, hu, ru⟩ := rv.get hx
    obtain ⟨u2, hu2, ru2⟩ := rv2.get hy
    have hzl : z < s.heap.objs.size := Heap.lt_size hz
    refine pyNext_zipK_item D hz hTI hTO h1 h2 p p2 (x := u) (y := u2) (by simpa using hu) (by simpa using hu2) fun h' z' TO' h1' h2' hT hsz hk => ?_
    refine ⟨_, rfl, wpAny_letOwnedTupleGo_zip (s := { s with heap := h' }) z' fun h'' z'' sb => ?_⟩
    have hT2 : h''.get? s.heap.objs.size = some { cls := .type "tuple", data := .seq #[u, u2] } := (sb.2 _ (Nat.ne_of_gt hzl)).trans hT
    have new : ObjOk X.prog X.w (upd H s.heap.objs.size (.tup [x, y])) h'' s.heap.objs.size (.tup [x, y]) :=
      ⟨by show 2 ≤ sizeLine; decide, [u, u2], .cons ru (.cons ru2 .nil), ⟨_, hT2, rfl, _, rfl⟩⟩
    have I1 : Inv X pins σ (upd H s.heap.objs.size (.tup [x, y])) { s with heap := h'' } :=
      I.turnedNew (t' := s.toks) (ch := [z, TI, TO, i1, i2]) (fun c o hb q => (sb.2 c (fun q' => hb (by simp [q']))).trans (hk c o (fun q' => hb (by simp [q'])) (fun q' => hb (by simp [q'])) (fun q' => hb (by simp [q'])) (fun q' => hb (by simp [q'])) q)) hf (Nat.le_refl _) new
    refine ⟨.ref s.heap.objs.size, _, I1, rfl, ⟨_, x, y, rfl, I.hok.fresh (Nat.le_refl _), rfl, fun l hl => by rw [hl.inj I hqx]; exact hx, fun l hl => by rw [hl.inj I hqy]; exact hy⟩, ⟨z'', ?_, ⟨u, u2, ?_⟩, ?_, ?_⟩, fun c hcm => ?_⟩
    · exact (sb.2 _ D.TIz).trans (hk _ _ D.TIz D.TITO D.TIi1 D.TIi2 hTI)
    · exact (sb.2 _ D.TOz).trans TO'
    · exact h1'.at fun o q => (sb.2 _ D.i1z).trans q
    · exact h2'.at fun o q => (sb.2 _ D.i2z).trans q
    · have hlt : c < s.heap.objs.size := by
        have e' : c = z ∨ c = TI ∨ c = TO ∨ c = i1 ∨ c = i2 := by simpa using hcm
        rcases e' with q | q | q | q | q
        · rw [q]; exact hzl
        · rw [q]; exact Heap.lt_size hTI
        · rw [q]; exact Heap.lt_size hTO
        · rw [q]; obtain ⟨_, e1, _⟩ := h1.obj; exact Heap.lt_size e1
        · rw [q]; obtain ⟨_, e2, _⟩ := h2.obj; exact Heap.lt_size e2
      rw [upd_ne (Nat.ne_of_lt hlt)]
      exact (hf c hcm).1
  done := by
    intro X hP hw hK hc i pins s σ H E I hf st hg
    subst hP hw hK
    obtain ⟨hz, hTI, ⟨x0, y0, hTO⟩, h1, h2⟩ := st
    obtain ⟨xs, ys, hqx, hqy, hend⟩ := hg
    obtain ⟨its, rv, p⟩ := hqx.inv I
    obtain ⟨its2, rv2, p2⟩ := hqy.inv I
    have l1 := rv.length
    have l2 := rv2.length
    have he : its.toArray[i]? = none ∨ its2.toArray[i]? = none := by
      rcases hend with q | q
      · exact .inl (by simp; omega)
      · exact .inr (by simp; omega)
    exact pyNext_zipK_end (I.ok.hd hc) D hz hTI hTO h1 h2 p p2 he fun h' hk => ⟨rfl, I.turnedL (t' := s.toks) (ch := [z, TI, TO, i1, i2]) (fun c o hb q =>
      hk c o (fun q' => hb (by simp [q'])) (fun q' => hb (by simp [q'])) (fun q' => hb (by simp [q'])) (fun q' => hb (by simp [q'])) q) hf⟩
  self := fun A i s Q E st h => wpAny_pyIter_zip st.1 h


/-- zip of lists and tuples -/
def iZipK (K : PySem.W.Frag) (ta : TA) : TI := fun σ H R => ta σ H fun vs H1 => ∃ ka kb a b xs ys, vs = [.ref a, .ref b] ∧ SqK ka K H1 a xs ∧ SqK kb K H1 b ys ∧ R (ItzK ka kb K a b) H1
theorem pi_zipK {X : Cx} {e e2 : Expr} {ta : TA} {p pos tpos : Pos} {elts : List Expr} {kk : Nat} (hg : Gl X "zip") (hm : X.mg "zip" = none) (ha : PA X [e, e2] ta)
    (hs : starEach [e, e2] X.env = (false, eval e X.env) :: starEach [e2] X.env := by rfl) (hpl : (backTo pos (starEach [e2] X.env)).any (·.1) = false := by rfl) :
    PI X (.Tuple elts kk tpos) (.Call (.Name "zip" p) [e, e2] [] pos) (iZipK X.K ta) := by
  refine ⟨fun pins s σ H R I h => ?_⟩
  refine Call_ (ld_blt I hg hm PyProof.Rows.boot_zip (PyProof.Rows.callWith_type1 (thn (ha.run pos pins s σ H _ I h) fun us s1 ⟨vs, H1, I1, r1, q1⟩ => ?_) hs hpl))
  obtain ⟨ka, kb, a, b, xs, ys, ex, hqx, hqy, q⟩ := q1
  subst ex
  cases r1 with
  | cons r rr =>
    cases rr with
    | cons r' rr =>
      cases rr
      cases r
      cases r'
      have fresh5 : ∀ c, c ∈ [s1.heap.objs.size + 4, s1.heap.objs.size + 2, s1.heap.objs.size + 3, s1.heap.objs.size, s1.heap.objs.size + 1] → FpOk X pins H1 c := fun c hcm => by
        have e' : c = s1.heap.objs.size + 4 ∨ c = s1.heap.objs.size + 2 ∨ c = s1.heap.objs.size + 3 ∨ c = s1.heap.objs.size ∨ c = s1.heap.objs.size + 1 := by simpa using hcm
        have hle : s1.heap.objs.size ≤ c := by omega
        exact I1.fpOk hle (I1.hok.fresh hle)
      obtain ⟨its, rv, p1⟩ := hqx.inv I1
      obtain ⟨its2, rv2, p2⟩ := hqy.inv I1
      refine call_zipK p1 p2 fun h' hz hTI hTO h1 h2 hsz hk => wpAny_pyIter_zip hz ?_
      have I2 : Inv X pins σ H1 { s1 with heap := h' } := I1.kept (t' := s1.toks) hk
      exact ⟨s1.heap.objs.size + 4, [s1.heap.objs.size + 4, s1.heap.objs.size + 2, s1.heap.objs.size + 3, s1.heap.objs.size, s1.heap.objs.size + 1], _, _, H1, rfl, I2, turn_zipK (PySem.W.ktu_apart s1.heap.objs.size a b (hqx.lt I1) (hqy.lt I1)), ⟨hz, hTI, ⟨_, _, hTO⟩, h1, h2⟩, fresh5, q⟩
end RK

set_option autoImplicit false
/-! Plain data over the abstract heap: data D, ghost, representation, the state's relation, readings of expressions by an evaluator over plain data. -/
namespace RS
open PySem PySem.Spec PyProof.Rows L2

/-- plain data; scr: the script, read by slices alone; deck: the one dict that is changed through a parameter -/
inductive D where
  | non | bl (b : Bool) | int (i : Int) | str (s : Str)
  | tup (xs : List D) | lst (xs : List D) | dic (kvs : List (D × D)) | scr (ns : List Int) | deck
  | err (c : Str) (x : Option (Str × D)) | lam (n : Nat) (xs : List (Nat × D))

/-- what the deck holds: its list of ints, its ints by name -/
structure Dk where
  cells : List Int
  flds : List (Str × Int)
abbrev DS := Option Dk
inductive R (α : Type) where
  | ok (a : α) (s : DS)
  | exc (c : Str) (x : Option (Str × D)) (s : DS)
  | stuck
abbrev M (α : Type) := DS → R α
namespace M
def ret {α : Type} (a : α) : M α := fun s => .ok a s
def bnd {α β : Type} (m : M α) (f : α → M β) : M β := fun s => match m s with
  | .ok a s' => f a s'
  | .exc c x s' => .exc c x s'
  | .stuck => .stuck
def stop {α : Type} : M α := fun _ => .stuck
def opt {α : Type} (o : Option α) : M α := match o with
  | some a => ret a
  | none => stop
end M
instance : Monad M where
  pure := M.ret
  bind := M.bnd
theorem bnd_ok {α β : Type} {m : M α} {f : α → M β} {s s' : DS} {a : α} (h : m s = .ok a s') : (m >>= f) s = f a s' := by
  show M.bnd m f s = _
  unfold M.bnd
  rw [h]
theorem bnd_stuck {α β : Type} {m : M α} {f : α → M β} {s : DS} (h : m s = .stuck) : (m >>= f) s = .stuck := by
  show M.bnd m f s = _
  unfold M.bnd
  rw [h]
theorem bnd_exc {α β : Type} {m : M α} {f : α → M β} {s s' : DS} {c : Str} {x : Option (Str × D)} (h : m s = .exc c x s') : (m >>= f) s = .exc c x s' := by
  show M.bnd m f s = _
  unfold M.bnd
  rw [h]

/-- a slot: a value that nobody changes, or a list (a dict) that this frame alone knows and may change -/
inductive Sl where
  | val (d : D)
  | own (d : D)
abbrev Env := List (Option Sl)

/-! ### ghost -/
/-- F: what is frozen; Δ: where the deck and its list are -/
structure Gh where
  F : Hp
  Δ : Option (Addr × Addr)
def Gh.put (γ : Gh) (a : Addr) (o : HO) : Gh := ⟨upd γ.F a o, γ.Δ⟩
def keyD : Key → D
  | .inl i => .int i
  | .inr x => .str x
mutual
inductive Rep (K : PySem.W.Frag) (γ : Gh) : V → D → Prop
  | non : Rep K γ .non .non
  | bl (b : Bool) : Rep K γ (.bl b) (.bl b)
  | int (i : Int) : Rep K γ (.int i) (.int i)
  | str (x : Str) : Rep K γ (.str x) (.str x)
  | tup {a : Addr} {xs : List V} {ds : List D} : SqT K γ.F a xs → RepAll K γ xs ds → Rep K γ (.ref a) (.tup ds)
  | lst {a : Addr} {xs : List V} {ds : List D} : γ.F a = some (.lst xs) → RepAll K γ xs ds → Rep K γ (.ref a) (.lst ds)
  | dic {a : Addr} {o : Obj} {kvs : List (Key × V)} {ds : List (D × D)} : γ.F a = some (.frz o (.dK kvs)) → RepKv K γ kvs ds → Rep K γ (.ref a) (.dic ds)
  | scr {a : Addr} {ns : List Int} : SqL K γ.F a (ns.map V.int) → Rep K γ (.ref a) (.scr ns)
  | deck {a c : Addr} : γ.Δ = some (a, c) → Rep K γ (.ref a) .deck
inductive RepAll (K : PySem.W.Frag) (γ : Gh) : List V → List D → Prop
  | nil : RepAll K γ [] []
  | cons {v : V} {vs : List V} {d : D} {ds : List D} : Rep K γ v d → RepAll K γ vs ds → RepAll K γ (v :: vs) (d :: ds)
inductive RepKv (K : PySem.W.Frag) (γ : Gh) : List (Key × V) → List (D × D) → Prop
  | nil : RepKv K γ [] []
  | cons {k : Key} {v : V} {vs : List (Key × V)} {d : D} {ds : List (D × D)} : Rep K γ v d → RepKv K γ vs ds → RepKv K γ ((k, v) :: vs) ((keyD k, d) :: ds)
end
/-- more is frozen -/
structure GLe (γ γ' : Gh) : Prop where
  F : Same γ.F γ'.F
  Δ : ∀ x, γ.Δ = some x → γ'.Δ = some x
theorem GLe.refl (γ : Gh) : GLe γ γ := ⟨Same.refl _, fun _ h => h⟩
theorem GLe.trans {a b c : Gh} (x : GLe a b) (y : GLe b c) : GLe a c := ⟨x.F.trans y.F, fun z h => y.Δ z (x.Δ z h)⟩
theorem _root_.L2.Same.tupT {K : PySem.W.Frag} {H H' : Hp} {a : Addr} {xs : List V} (e : Same H H') (h : SqT K H a xs) : SqT K H' a xs := by
  rcases h with (h | ⟨o, h⟩) | h
  · exact .inl (.inl (e _ _ h))
  · exact .inl (.inr ⟨o, e _ _ h⟩)
  · exact .inr h
section
variable {K : PySem.W.Frag} {γ γ' : Gh}
mutual
theorem Rep.mono (g : GLe γ γ') : ∀ (d : D) (v : V), Rep K γ v d → Rep K γ' v d
  | .non, _, h => by cases h; exact .non
  | .bl _, _, h => by cases h; exact .bl _
  | .int _, _, h => by cases h; exact .int _
  | .str _, _, h => by cases h; exact .str _
  | .tup ds, _, h => by
    cases h with
    | tup h1 h2 => exact .tup (g.F.tupT h1) (RepAll.mono g ds _ h2)
  | .lst ds, _, h => by
    cases h with
    | lst h1 h2 => exact .lst (g.F _ _ h1) (RepAll.mono g ds _ h2)
  | .dic ds, _, h => by
    cases h with
    | dic h1 h2 => exact .dic (g.F _ _ h1) (RepKv.mono g ds _ h2)
  | .scr _, _, h => by
    cases h with
    | scr h1 => exact .scr (g.F.seq h1)
  | .deck, _, h => by
    cases h with
    | deck h1 => exact .deck (g.Δ _ h1)
  | .err _ _, _, h => by cases h
  | .lam _ _, _, h => by cases h
theorem RepAll.mono (g : GLe γ γ') : ∀ (ds : List D) (vs : List V), RepAll K γ vs ds → RepAll K γ' vs ds
  | [], _, h => by cases h; exact .nil
  | d :: ds, _, h => by
    cases h with
    | cons h1 h2 => exact .cons (Rep.mono g d _ h1) (RepAll.mono g ds _ h2)
theorem RepKv.mono (g : GLe γ γ') : ∀ (ds : List (D × D)) (vs : List (Key × V)), RepKv K γ vs ds → RepKv K γ' vs ds
  | [], _, h => by cases h; exact .nil
  | (_, d) :: ds, _, h => by
    cases h with
    | cons h1 h2 => exact .cons (Rep.mono g d _ h1) (RepKv.mono g ds _ h2)
end
theorem Rep.le (g : GLe γ γ') {d : D} {v : V} (h : Rep K γ v d) : Rep K γ' v d := Rep.mono g d v h
theorem RepAll.le (g : GLe γ γ') {d : List D} {v : List V} (h : RepAll K γ v d) : RepAll K γ' v d := RepAll.mono g d v h
theorem RepKv.le (g : GLe γ γ') {d : List (D × D)} {v : List (Key × V)} (h : RepKv K γ v d) : RepKv K γ' v d := RepKv.mono g d v h
theorem RepAll.length : ∀ {vs : List V} {ds : List D}, RepAll K γ vs ds → vs.length = ds.length
  | _, _, .nil => rfl
  | _, _, .cons _ t => congrArg Nat.succ t.length
theorem RepAll.append : ∀ {vs ws : List V} {ds es : List D}, RepAll K γ vs ds → RepAll K γ ws es → RepAll K γ (vs ++ ws) (ds ++ es)
  | _, _, _, _, .nil, t => t
  | _, _, _, _, .cons r t, u => .cons r (t.append u)
theorem RepAll.get : ∀ {vs : List V} {ds : List D} {i : Nat} {d : D}, RepAll K γ vs ds → ds[i]? = some d → ∃ v, vs[i]? = some v ∧ Rep K γ v d
  | _, _, _, _, .nil, e => by simp at e
  | _, _, 0, _, .cons r _, e => by simp at e; subst e; exact ⟨_, rfl, r⟩
  | _, _, i + 1, d, .cons _ t, e => by
    obtain ⟨v, h1, h2⟩ := t.get (i := i) (d := d) (by simpa using e)
    exact ⟨v, by simpa using h1, h2⟩
theorem RepAll.getV : ∀ {vs : List V} {ds : List D} {i : Nat} {v : V}, RepAll K γ vs ds → vs[i]? = some v → ∃ d, ds[i]? = some d ∧ Rep K γ v d
  | _, _, _, _, .nil, e => by simp at e
  | _, _, 0, _, .cons r _, e => by simp at e; subst e; exact ⟨_, rfl, r⟩
  | _, _, i + 1, d, .cons _ t, e => by
    obtain ⟨v, h1, h2⟩ := t.getV (i := i) (v := d) (by simpa using e)
    exact ⟨v, by simpa using h1, h2⟩
theorem RepAll.take : ∀ {vs : List V} {ds : List D} (n : Nat), RepAll K γ vs ds → RepAll K γ (vs.take n) (ds.take n)
  | _, _, 0, _ => .nil
  | _, _, _ + 1, .nil => .nil
  | _, _, n + 1, .cons r t => .cons r (t.take n)
theorem RepAll.drop : ∀ {vs : List V} {ds : List D} (n : Nat), RepAll K γ vs ds → RepAll K γ (vs.drop n) (ds.drop n)
  | _, _, 0, r => r
  | _, _, _ + 1, .nil => .nil
  | _, _, n + 1, .cons _ t => t.drop n
theorem RepAll.set : ∀ {vs : List V} {ds : List D} {v : V} {d : D} (i : Nat), RepAll K γ vs ds → Rep K γ v d → RepAll K γ (vs.set i v) (ds.set i d)
  | _, _, _, _, _, .nil, _ => .nil
  | _, _, _, _, 0, .cons _ t, q => .cons q t
  | _, _, _, _, i + 1, .cons r t, q => .cons r (t.set i q)
theorem RepAll.reverse {vs : List V} {ds : List D} (h : RepAll K γ vs ds) : RepAll K γ vs.reverse ds.reverse := by
  induction ds generalizing vs with
  | nil => cases h; exact .nil
  | cons d ds ih =>
    cases h with
    | cons h1 h2 =>
      rw [List.reverse_cons, List.reverse_cons]
      exact (ih h2).append (.cons h1 .nil)
theorem RepAll.ints : ∀ {ns : List Int}, RepAll K γ (ns.map V.int) (ns.map D.int)
  | [] => .nil
  | _ :: _ => .cons (.int _) RepAll.ints
theorem RepAll.ints_of : ∀ {ns : List Int} {vs : List V}, RepAll K γ vs (ns.map D.int) → vs = ns.map V.int
  | [], _, h => by cases h; rfl
  | n :: ns, _, h => by
    cases h with
    | cons h1 h2 => cases h1; rw [RepAll.ints_of h2]; rfl
end

/-! ### the heap and its ghost -/
def cellsKey : Str := "cells"
def deckKv (c : Addr) (fs : List (Str × Int)) : List (Key × V) := (Sum.inr cellsKey, V.ref c) :: fs.map fun p => (Sum.inr p.1, V.int p.2)
structure GWf (H : Hp) (γ : Gh) (s : DS) : Prop where
  le : Same γ.F H
  off : γ.Δ = none → s = none
  dk : ∀ a c, γ.Δ = some (a, c) → γ.F a = none ∧ γ.F c = none ∧ a ≠ c ∧ ∃ k, s = some k ∧ H a = some (.dK (deckKv c k.flds)) ∧ H c = some (.lst (k.cells.map V.int))
/-- a is no part of the deck -/
def OffDk (γ : Gh) (a : Addr) : Prop := ∀ x, γ.Δ = some x → a ≠ x.1 ∧ a ≠ x.2
structure Step (γ : Gh) (H : Hp) (γ' : Gh) (H' : Hp) : Prop where
  g : GLe γ γ'
  keep : ∀ a o, H a = some o → OffDk γ a → H' a = some o
  fz : ∀ a o, H a = some o → γ.F a = none → γ'.F a = none
  new : γ.Δ = none → ∀ x, γ'.Δ = some x → H x.1 = none ∧ H x.2 = none
  dom : ∀ a, H a ≠ none → H' a ≠ none
theorem Step.refl (γ : Gh) (H : Hp) : Step γ H γ H := ⟨GLe.refl _, fun _ _ h _ => h, fun _ _ _ h => h, fun h x e => (by rw [h] at e; cases e), fun _ h => h⟩
theorem offDk_of {γ : Gh} {a : Addr} (h : γ.Δ = none) : OffDk γ a := fun x e => by rw [h] at e; cases e
theorem ne_none {α : Type} {o : Option α} {a : α} (h : o = some a) : o ≠ none := by rw [h]; exact fun e => nomatch e
theorem Step.off {γ γ' : Gh} {H H' : Hp} (x : Step γ H γ' H') {a : Addr} (h : H a ≠ none) (o : OffDk γ a) : OffDk γ' a := fun z e => by
  cases q : γ.Δ with
  | none =>
    obtain ⟨n1, n2⟩ := x.new q z e
    exact ⟨fun w => h (w ▸ n1), fun w => h (w ▸ n2)⟩
  | some y =>
    have e2 := x.g.Δ _ q
    rw [e2] at e
    cases e
    exact o _ q
theorem Step.trans {γ γ1 γ2 : Gh} {H H1 H2 : Hp} (x : Step γ H γ1 H1) (y : Step γ1 H1 γ2 H2) : Step γ H γ2 H2 := by
  refine ⟨x.g.trans y.g, fun a o h od => y.keep a o (x.keep a o h od) (x.off (ne_none h) od), fun a o h f => ?_, fun n z e => ?_, fun a h => y.dom a (x.dom a h)⟩
  · cases q : H1 a with
    | none => exact absurd q (x.dom a (ne_none h))
    | some o1 => exact y.fz a o1 q (x.fz a o h f)
  · cases q : γ1.Δ with
    | none =>
      obtain ⟨n1, n2⟩ := y.new q z e
      exact ⟨Classical.byContradiction fun w => x.dom _ w n1, Classical.byContradiction fun w => x.dom _ w n2⟩
    | some w =>
      have e2 := y.g.Δ _ q
      rw [e2] at e
      cases e
      exact x.new n _ q
/-- a new object, frozen at once -/
theorem Step.put {γ : Gh} {H : Hp} {s : DS} {p : Addr} {o : HO} (g : GWf H γ s) (h : H p = none) : GWf (upd H p o) (γ.put p o) s ∧ Step γ H (γ.put p o) (upd H p o) := by
  have hf : γ.F p = none := by
    cases q : γ.F p with
    | none => rfl
    | some u => rw [g.le _ _ q] at h; cases h
  refine ⟨⟨fun a u e => ?_, g.off, fun a c e => ?_⟩, ⟨⟨fun a u e => ?_, fun _ e => e⟩, fun a u e _ => ?_, fun a u e f => ?_, fun n x e => ?_, fun a e => ?_⟩⟩
  · by_cases z : a = p
    · subst z
      have e1 : upd γ.F a o a = some u := e
      rw [upd_same] at e1 ⊢
      exact e1
    · have e1 : upd γ.F p o a = some u := e
      rw [upd_ne z] at e1 ⊢
      exact g.le _ _ e1
  · obtain ⟨f1, f2, ne, k, e1, e2, e3⟩ := g.dk a c e
    have za : a ≠ p := ne_of_none e2 h
    have zc : c ≠ p := ne_of_none e3 h
    refine ⟨?_, ?_, ne, k, e1, by rw [upd_ne za]; exact e2, by rw [upd_ne zc]; exact e3⟩
    · show upd γ.F p o a = none
      rw [upd_ne za]; exact f1
    · show upd γ.F p o c = none
      rw [upd_ne zc]; exact f2
  · show upd γ.F p o a = some u
    rw [upd_ne (ne_of_none e hf)]; exact e
  · rw [upd_ne (ne_of_none e h)]; exact e
  · show upd γ.F p o a = none
    rw [upd_ne (ne_of_none e h)]; exact f
  · have e1 : γ.Δ = some x := e
    rw [n] at e1; cases e1
  · by_cases z : a = p
    · subst z; rw [upd_same]; exact fun w => nomatch w
    · rw [upd_ne z]; exact e
/-- a new object, not frozen -/
theorem Step.add {γ : Gh} {H : Hp} {s : DS} {p : Addr} {o : HO} (g : GWf H γ s) (h : H p = none) : GWf (upd H p o) γ s ∧ Step γ H γ (upd H p o) := by
  refine ⟨⟨fun a u e => ?_, g.off, fun a c e => ?_⟩, ⟨GLe.refl _, fun a u e _ => ?_, fun a u e f => f, fun n x e => ?_, fun a e => ?_⟩⟩
  · rw [upd_ne (ne_of_none (g.le _ _ e) h)]; exact g.le _ _ e
  · obtain ⟨f1, f2, ne, k, e1, e2, e3⟩ := g.dk a c e
    exact ⟨f1, f2, ne, k, e1, by rw [upd_ne (ne_of_none e2 h)]; exact e2, by rw [upd_ne (ne_of_none e3 h)]; exact e3⟩
  · rw [upd_ne (ne_of_none e h)]; exact e
  · rw [n] at e; cases e
  · by_cases z : a = p
    · subst z; rw [upd_same]; exact fun w => nomatch w
    · rw [upd_ne z]; exact e
/-- what stands is frozen -/
theorem GWf.freeze {γ : Gh} {H : Hp} {s : DS} {p : Addr} {o : HO} (g : GWf H γ s) (h : H p = some o) (hf : γ.F p = none) (od : OffDk γ p) : GWf H (γ.put p o) s ∧ GLe γ (γ.put p o) := by
  refine ⟨⟨fun a u e => ?_, g.off, fun a c e => ?_⟩, ⟨fun a u e => ?_, fun _ e => e⟩⟩
  · have e1 : upd γ.F p o a = some u := e
    by_cases z : a = p
    · subst z; rw [upd_same] at e1; rw [h]; exact e1
    · rw [upd_ne z] at e1; exact g.le _ _ e1
  · obtain ⟨f1, f2, ne, k⟩ := g.dk a c e
    obtain ⟨o1, o2⟩ := od _ e
    refine ⟨?_, ?_, ne, k⟩
    · show upd γ.F p o a = none
      rw [upd_ne (Ne.symm o1)]; exact f1
    · show upd γ.F p o c = none
      rw [upd_ne (Ne.symm o2)]; exact f2
  · show upd γ.F p o a = some u
    rw [upd_ne (ne_of_none e hf)]; exact e
/-- an object that is not frozen is changed -/
theorem GWf.write {γ : Gh} {H : Hp} {s : DS} {p : Addr} {o : HO} (g : GWf H γ s) (hf : γ.F p = none) (od : OffDk γ p) : GWf (upd H p o) γ s := by
  refine ⟨fun a u e => ?_, g.off, fun a c e => ?_⟩
  · rw [upd_ne (ne_of_none e hf)]; exact g.le _ _ e
  · obtain ⟨f1, f2, ne, k, e1, e2, e3⟩ := g.dk a c e
    obtain ⟨o1, o2⟩ := od _ e
    exact ⟨f1, f2, ne, k, e1, by rw [upd_ne (Ne.symm o1)]; exact e2, by rw [upd_ne (Ne.symm o2)]; exact e3⟩

/-! ### own lists and dicts -/
inductive OwnAt (K : PySem.W.Frag) (H : Hp) (γ : Gh) (p : Addr) : D → Prop
  | lst {vs : List V} {ds : List D} : H p = some (.lst vs) → RepAll K γ vs ds → OwnAt K H γ p (.lst ds)
  | dic {kvs : List (Key × V)} {ds : List (D × D)} : H p = some (.dK kvs) → RepKv K γ kvs ds → OwnAt K H γ p (.dic ds)
theorem OwnAt.there {K : PySem.W.Frag} {H : Hp} {γ : Gh} {p : Addr} {d : D} (h : OwnAt K H γ p d) : ∃ o, H p = some o := by
  cases h with
  | lst e _ => exact ⟨_, e⟩
  | dic e _ => exact ⟨_, e⟩
theorem OwnAt.step {K : PySem.W.Frag} {H H' : Hp} {γ γ' : Gh} {p : Addr} {d : D} (h : OwnAt K H γ p d) (g : GLe γ γ') (k : ∀ o, H p = some o → H' p = some o) : OwnAt K H' γ' p d := by
  cases h with
  | lst e r => exact .lst (k _ e) (r.le g)
  | dic e r => exact .dic (k _ e) (r.le g)
/-- loosely: frozen, or an own one as it stands -/
inductive RepL (K : PySem.W.Frag) (H : Hp) (γ : Gh) : V → D → Prop
  | rep {v : V} {d : D} : Rep K γ v d → RepL K H γ v d
  | own {p : Addr} {d : D} : OwnAt K H γ p d → OffDk γ p → RepL K H γ (.ref p) d
theorem RepL.step {K : PySem.W.Frag} {H H' : Hp} {γ γ' : Gh} {v : V} {d : D} (h : RepL K H γ v d) (x : Step γ H γ' H') : RepL K H' γ' v d := by
  cases h with
  | rep r => exact .rep (r.le x.g)
  | own o od =>
    obtain ⟨ob, e⟩ := o.there
    exact .own (o.step x.g fun o e => x.keep _ o e od) (x.off (ne_none e) od)
theorem RepL.lst {K : PySem.W.Frag} {H : Hp} {γ : Gh} {s : DS} {v : V} {ds : List D} (g : GWf H γ s) (h : RepL K H γ v (.lst ds)) : ∃ p vs, v = .ref p ∧ H p = some (.lst vs) ∧ RepAll K γ vs ds := by
  cases h with
  | rep r =>
    cases r with
    | lst e q => exact ⟨_, _, rfl, g.le _ _ e, q⟩
  | own o od =>
    cases o with
    | lst e q => exact ⟨_, _, rfl, e, q⟩
theorem RepL.tup {K : PySem.W.Frag} {H : Hp} {γ : Gh} {s : DS} {v : V} {ds : List D} (g : GWf H γ s) (h : RepL K H γ v (.tup ds)) : ∃ p vs, v = .ref p ∧ SqT K H p vs ∧ RepAll K γ vs ds := by
  cases h with
  | rep r =>
    cases r with
    | tup e q => exact ⟨_, _, rfl, g.le.tupT e, q⟩
  | own o od => cases o
theorem RepL.dic {K : PySem.W.Frag} {H : Hp} {γ : Gh} {s : DS} {v : V} {ds : List (D × D)} (g : GWf H γ s) (h : RepL K H γ v (.dic ds)) : ∃ p vs, v = .ref p ∧ Rd H p (.dK vs) ∧ RepKv K γ vs ds := by
  cases h with
  | rep r =>
    cases r with
    | dic e q => exact ⟨_, _, rfl, .inr ⟨_, g.le _ _ e⟩, q⟩
  | own o od =>
    cases o with
    | dic e q => exact ⟨_, _, rfl, .inl e, q⟩
theorem RepL.scr {K : PySem.W.Frag} {H : Hp} {γ : Gh} {s : DS} {v : V} {ns : List Int} (g : GWf H γ s) (h : RepL K H γ v (.scr ns)) : ∃ p, v = .ref p ∧ SqL K H p (ns.map V.int) := by
  cases h with
  | rep r =>
    cases r with
    | scr e => exact ⟨_, rfl, g.le.seq e⟩
  | own o od => cases o
theorem RepL.int {K : PySem.W.Frag} {H : Hp} {γ : Gh} {v : V} {i : Int} (h : RepL K H γ v (.int i)) : v = .int i := by
  cases h with
  | rep r => cases r; rfl
  | own o od => cases o
theorem RepL.str {K : PySem.W.Frag} {H : Hp} {γ : Gh} {v : V} {i : Str} (h : RepL K H γ v (.str i)) : v = .str i := by
  cases h with
  | rep r => cases r; rfl
  | own o od => cases o
theorem RepL.bl {K : PySem.W.Frag} {H : Hp} {γ : Gh} {v : V} {i : Bool} (h : RepL K H γ v (.bl i)) : v = .bl i := by
  cases h with
  | rep r => cases r; rfl
  | own o od => cases o
theorem RepL.non {K : PySem.W.Frag} {H : Hp} {γ : Gh} {v : V} (h : RepL K H γ v .non) : v = .non := by
  cases h with
  | rep r => cases r; rfl
  | own o od => cases o

/-! ### a frame's state -/
structure SR (K : PySem.W.Frag) (H0 : Hp) (σ : L2.St) (H : Hp) (γ : Gh) (ρ : Env) (s : DS) : Prop where
  g : GWf H γ s
  len : ρ.length = σ.length
  val : ∀ (i : Nat) (d : D), ρ[i]? = some (some (Sl.val d)) → ∃ v, σ[i]? = some (some v) ∧ Rep K γ v d
  own : ∀ (i : Nat) (d : D), ρ[i]? = some (some (Sl.own d)) → ∃ p, σ[i]? = some (some (V.ref p)) ∧ OwnAt K H γ p d ∧ OffDk γ p ∧ H0 p = none ∧ γ.F p = none
  sep : ∀ (i j : Nat) (d e : D) (p : Addr), ρ[i]? = some (some (Sl.own d)) → ρ[j]? = some (some (Sl.own e)) → σ[i]? = some (some (V.ref p)) → σ[j]? = some (some (V.ref p)) → i = j
theorem SR.step {K : PySem.W.Frag} {H0 : Hp} {σ : L2.St} {H H' : Hp} {γ γ' : Gh} {ρ : Env} {s s' : DS} (r : SR K H0 σ H γ ρ s) (x : Step γ H γ' H') (g : GWf H' γ' s') : SR K H0 σ H' γ' ρ s' := by
  refine ⟨g, r.len, fun i d e => ?_, fun i d e => ?_, r.sep⟩
  · obtain ⟨v, h1, h2⟩ := r.val i d e
    exact ⟨v, h1, h2.le x.g⟩
  · obtain ⟨p, h1, h2, h3, h4, h5⟩ := r.own i d e
    obtain ⟨o, ho⟩ := h2.there
    exact ⟨p, h1, h2.step x.g fun o e => x.keep _ o e h3, x.off (ne_none ho) h3, h4, x.fz _ _ ho h5⟩

/-! ### readings by an evaluator -/
/-- an exception of the class named c that bears x flies from H -/
def Flies (K : PySem.W.Frag) (mg : Str → Option Value) (γ : Gh) (H : Hp) (EX : XK) (c : Str) (x : Option (Str × D)) (s : DS) : Prop :=
  ∀ (C : Addr) (d : Option Addr) (H' : Hp) (γ' : Gh), mg c = some (.ref C) → Step γ H γ' H' → GWf H' γ' s → (match x with
    | none => d = none
    | some (f, e) => ∃ a v, d = some a ∧ H' a = some (.xd [(f, v)]) ∧ Rep K γ' v e) → EX (.ref C) d H'
theorem Flies.step {K : PySem.W.Frag} {mg : Str → Option Value} {γ γ' : Gh} {H H' : Hp} {EX : XK} {c : Str} {x : Option (Str × D)} {s : DS} (f : Flies K mg γ H EX c x s) (st : Step γ H γ' H') : Flies K mg γ' H' EX c x s :=
  fun C d H2 γ2 h1 h2 h3 h4 => f C d H2 γ2 h1 (st.trans h2) h3 h4
/-- what a run of m from here is to reach -/
def Goes {α : Type} (K : PySem.W.Frag) (mg : Str → Option Value) (EX : XK) (γ : Gh) (H : Hp) (r : R α) (P : α → DS → Hp → Gh → Prop) : Prop :=
  match r with
  | .ok a s' => ∀ H' γ', Step γ H γ' H' → GWf H' γ' s' → P a s' H' γ'
  | .exc c x s' => Flies K mg γ H EX c x s'
  | .stuck => False
abbrev GP (K : PySem.W.Frag) (mg : Str → Option Value) (H0 : Hp) (EX : XK) {α : Type} (m : Env → M α) (σ : L2.St) (H : Hp) (P : α → Hp → Gh → Prop) : Prop :=
  ∃ γ ρ s, SR K H0 σ H γ ρ s ∧ Goes K mg EX γ H (m ρ s) fun a _ H' γ' => P a H' γ'
structure CxI where
  K : PySem.W.Frag
  mg : Str → Option Value
  H0 : Hp
  EX : XK
/-- an expression whose value is frozen; loosely; a new list -/
def tE (c : CxI) (m : Env → M D) : TE := fun σ H Q => ∃ γ ρ s, SR c.K c.H0 σ H γ ρ s ∧ Goes c.K c.mg c.EX γ H (m ρ s) fun d _ H' γ' => ∀ v, Rep c.K γ' v d → Q v H'
def tO (c : CxI) (m : Env → M D) : TE := fun σ H Q => ∃ γ ρ s, SR c.K c.H0 σ H γ ρ s ∧ Goes c.K c.mg c.EX γ H (m ρ s) fun d _ H' γ' => ∀ v, RepL c.K H' γ' v d → Q v H'
def tF (c : CxI) (m : Env → M (List D)) : TE := fun σ H Q => ∃ γ ρ s, SR c.K c.H0 σ H γ ρ s ∧ Goes c.K c.mg c.EX γ H (m ρ s) fun ds _ H' γ' => ∀ p vs, H' p = some (.lst vs) → RepAll c.K γ' vs ds → γ'.F p = none → H p = none → OffDk γ' p → Q (.ref p) H'
def tB (c : CxI) (m : Env → M Bool) : TT := fun σ H Q => ∃ γ ρ s, SR c.K c.H0 σ H γ ρ s ∧ Goes c.K c.mg c.EX γ H (m ρ s) fun b _ H' _ => Q b H'
def tEs (c : CxI) (m : Env → M (List D)) : TA := fun σ H Q => ∃ γ ρ s, SR c.K c.H0 σ H γ ρ s ∧ Goes c.K c.mg c.EX γ H (m ρ s) fun ds _ H' γ' => ∀ vs, RepAll c.K γ' vs ds → Q vs H'
/-- one step behind another -/
theorem Goes.imp {α : Type} {K : PySem.W.Frag} {mg : Str → Option Value} {EX : XK} {γ : Gh} {H : Hp} {r : R α} {P P' : α → DS → Hp → Gh → Prop} (h : Goes K mg EX γ H r P) (i : ∀ a s' H' γ', Step γ H γ' H' → GWf H' γ' s' → P a s' H' γ' → P' a s' H' γ') : Goes K mg EX γ H r P' := by
  unfold Goes at h ⊢
  cases r with
  | ok a s' => exact fun H' γ' x g => i a s' H' γ' x g (h H' γ' x g)
  | exc c x s' => exact h
  | stuck => exact h
theorem Goes.bind {α β : Type} {K : PySem.W.Frag} {mg : Str → Option Value} {EX : XK} {γ : Gh} {H : Hp} {m : M α} {f : α → M β} {s : DS} {P : β → DS → Hp → Gh → Prop} (h : Goes K mg EX γ H ((m >>= f) s) P) :
    Goes K mg EX γ H (m s) fun a s' H' γ' => Goes K mg EX γ' H' (f a s') P := by
  have h' : Goes K mg EX γ H (M.bnd m f s) P := h
  unfold M.bnd at h'
  unfold Goes
  cases e : m s with
  | ok a s' =>
    rw [e] at h'
    intro H' γ' x g
    have h2 : Goes K mg EX γ H (f a s') P := h'
    unfold Goes at h2
    show Goes K mg EX γ' H' (f a s') P
    unfold Goes
    cases e2 : f a s' with
    | ok b s2 => rw [e2] at h2; exact fun H2 γ2 x2 g2 => h2 H2 γ2 (x.trans x2) g2
    | exc c y s2 => rw [e2] at h2; exact Flies.step h2 x
    | stuck => rw [e2] at h2; exact h2
  | exc c x s' => rw [e] at h'; exact h'
  | stuck => rw [e] at h'; exact h'
theorem Goes.pure {α : Type} {K : PySem.W.Frag} {mg : Str → Option Value} {EX : XK} {γ : Gh} {H : Hp} {a : α} {s : DS} {P : α → DS → Hp → Gh → Prop} (h : Goes K mg EX γ H ((Pure.pure a : M α) s) P) (g : GWf H γ s) : P a s H γ :=
  (show ∀ H' γ', Step γ H γ' H' → GWf H' γ' s → P a s H' γ' from h) H γ (Step.refl _ _) g
end RS

namespace RS
open PySem PySem.Spec PyProof.Rows L2
section
variable {prog : Program} {w : World} {A : Around} {E : Value → Shared → Prop} {s : Shared} {p : Bool} {a : Int} {t : Tok} {Q : Value → Shared → Prop}
theorem isSub_int_bool : isSubtype (.type "int") (.type "bool") = pure false := by kernel_rfl
theorem gives_add_bi (p : Bool) (a : Int) (t : Tok) : Gives (Builtin.«int.__add__» ⟨[.bool p, .int a t], []⟩) (.int ((if p = true then (1 : Int) else 0) + a)) :=
  .of_wp fun M A E s Q h => by obtain ⟨hp, g, d, tk, os⟩ := s; wp_walk; exact ⟨_, rfl, h⟩
theorem gives_sub_bi (p : Bool) (a : Int) (t : Tok) : Gives (Builtin.«int.__sub__» ⟨[.bool p, .int a t], []⟩) (.int ((if p = true then (1 : Int) else 0) - a)) :=
  .of_wp fun M A E s Q h => by obtain ⟨hp, g, d, tk, os⟩ := s; wp_walk; exact ⟨_, rfl, h⟩
theorem add_bool_int (h : Q (.int (b2i p + a) s.toks) { s with toks := s.toks + 1 }) : wpAny (model prog w) A (binaryOp .Add (.bool p) (.int a t)) Q E s :=
  binaryOp_left_gives (op := .Add) (T := "bool") (U := "int") (by decide) (typeIs_bool' s p) (fun s' => typeIs_int s' a t) F.fills_bool_add F.fills_int_add isSub_int_bool F.slot_bool_add F.slot_int_radd F.entry_int_add (F.args_int_add_2 _ _) (gives_add_bi p a t) trivial h
theorem sub_bool_int (h : Q (.int (b2i p - a) s.toks) { s with toks := s.toks + 1 }) : wpAny (model prog w) A (binaryOp .Sub (.bool p) (.int a t)) Q E s :=
  binaryOp_left_gives (op := .Sub) (T := "bool") (U := "int") (by decide) (typeIs_bool' s p) (fun s' => typeIs_int s' a t) F.fills_bool_sub F.fills_int_sub isSub_int_bool F.slot_bool_sub F.slot_int_rsub F.entry_int_sub (F.args_int_sub_2 _ _) (gives_sub_bi p a t) trivial h
theorem same_refl_int_bool_sub : reflectedDiffers (.type "int") (.type "bool") "sub" = pure false := by
  unfold reflectedDiffers
  show (typeLookup (.type "bool") (dunderR "sub") >>= fun rb => typeLookup (.type "int") (dunderR "sub") >>= fun ra => pure (rb.isSome && rb != ra)) = pure false
  rw [typeLookup_type, typeLookup_type, builtinLookup_eq_fast]; kernel_rfl
theorem sub_int_bool (h : Q (.int (a - b2i p) s.toks) { s with toks := s.toks + 1 }) : wpAny (model prog w) A (binaryOp .Sub (.int a t) (.bool p)) Q E s :=
  binaryOp_sub_gives (op := .Sub) (T := "int") (U := "bool") (by decide) (typeIs_int s a t) rfl F.fills_int_sub F.fills_bool_sub isSubtype_bool_int same_refl_int_bool_sub F.slot_int_sub F.entry_int_sub (F.args_int_sub_2 _ _)
    (AutoIntG7.int___sub___int_bool_0 a t p) trivial h
end
section
variable {X : Cx}
theorem op_add_bi : OpR X (binaryOp .Add) (fun x y H Q => ∃ k i, x = .bl k ∧ y = .int i ∧ Q (.int (b2i k + i)) H) := by
  intro pins s σ H x y v u Q I rx ry h
  obtain ⟨k, i, rfl, rfl, q⟩ := h
  cases rx
  obtain ⟨t, rfl⟩ := ry
  exact add_bool_int ⟨.int (b2i k + i), H, I.tok _, ⟨_, rfl⟩, q⟩
theorem op_add_bb : OpR X (binaryOp .Add) (fun x y H Q => ∃ k i, x = .bl k ∧ y = .bl i ∧ Q (.int (b2i k + b2i i)) H) := by
  intro pins s σ H x y v u Q I rx ry h
  obtain ⟨k, i, rfl, rfl, q⟩ := h
  cases rx
  cases ry
  exact add_bool ⟨.int (b2i k + b2i i), H, I.tok _, ⟨_, rfl⟩, q⟩
theorem op_sub_bi : OpR X (binaryOp .Sub) (fun x y H Q => ∃ k i, x = .bl k ∧ y = .int i ∧ Q (.int (b2i k - i)) H) := by
  intro pins s σ H x y v u Q I rx ry h
  obtain ⟨k, i, rfl, rfl, q⟩ := h
  cases rx
  obtain ⟨t, rfl⟩ := ry
  exact sub_bool_int ⟨.int (b2i k - i), H, I.tok _, ⟨_, rfl⟩, q⟩
theorem op_sub_ib : OpR X (binaryOp .Sub) (fun x y H Q => ∃ i k, x = .int i ∧ y = .bl k ∧ Q (.int (i - b2i k)) H) := by
  intro pins s σ H x y v u Q I rx ry h
  obtain ⟨i, k, rfl, rfl, q⟩ := h
  obtain ⟨t, rfl⟩ := rx
  cases ry
  exact sub_int_bool ⟨.int (i - b2i k), H, I.tok _, ⟨_, rfl⟩, q⟩
end
section
variable {X : Cx}
theorem call_str_bl : CallR X (.type "str") (fun xs H Q => ∃ b, xs = [.bl b] ∧ Q (.str (if b then "True" else "False")) H) := by
  intro pins s σ H xs us Q I r h
  obtain ⟨b, rfl, q⟩ := h
  cases r with
  | cons a t =>
    cases t
    cases a
    exact PySem.P.str_of_bool ⟨.str _, H, I.tok _, ⟨_, rfl⟩, q⟩
end
end RS

/-! == and != with the empty list, the empty tuple, whatever stands in the other one -/
namespace RS
open PySem PySem.Spec PyProof.Rows L2
theorem vals_nil {us : List Value} (h : Vals [] us) : us = [] := by cases h; rfl
section
variable {X : Cx}
theorem op_eqNilL (hu : X.A.units + 64 < cLine) : OpR X (compareOp .Eq) (fun x y H Q => ∃ a b xs, x = .ref a ∧ y = .ref b ∧ SqL X.K H a xs ∧ SqL X.K H b [] ∧ Q (.bl xs.isEmpty) H) := by
  intro pins s σ H x y v u Q I rx ry h
  obtain ⟨a, b, xs, rfl, rfl, ha, hb, q⟩ := h
  cases rx; cases ry
  obtain ⟨its, rv, hl, _⟩ := I.list ha
  obtain ⟨its2, rv2, hl2, _⟩ := I.list hb
  cases vals_nil rv2
  have hlen := rv.length
  cases xs with
  | nil =>
    cases vals_nil rv
    exact SeqAt.RcAt.lists (e := fun _ => true) hl.isList hl2.isList rfl (by omega) (fun j h1 _ => by simp at h1) _ _ _ _ ⟨.bl _, H, I, rfl, q⟩
  | cons z zs =>
    refine SeqAt.RcAt.lists_lengths hl.isList hl2.isList ?_ (by omega) _ _ _ _ ⟨.bl _, H, I, rfl, q⟩
    simp at hlen
    simp [← hlen]
theorem op_neNilL (hu : X.A.units + 64 < cLine) : OpR X (compareOp .NotEq) (fun x y H Q => ∃ a b xs, x = .ref a ∧ y = .ref b ∧ SqL X.K H a xs ∧ SqL X.K H b [] ∧ Q (.bl (!xs.isEmpty)) H) := by
  intro pins s σ H x y v u Q I rx ry h
  obtain ⟨a, b, xs, rfl, rfl, ha, hb, q⟩ := h
  cases rx; cases ry
  obtain ⟨its, rv, hl, _⟩ := I.list ha
  obtain ⟨its2, rv2, hl2, _⟩ := I.list hb
  cases vals_nil rv2
  have hlen := rv.length
  cases xs with
  | nil =>
    cases vals_nil rv
    exact SeqAt.RcNeAt.lists (e := fun _ => true) hl.isList hl2.isList rfl (by omega) (fun j h1 _ => by simp at h1) _ _ _ _ ⟨.bl _, H, I, rfl, q⟩
  | cons z zs =>
    refine SeqAt.RcNeAt.lists_lengths hl.isList hl2.isList ?_ (by omega) _ _ _ _ ⟨.bl _, H, I, rfl, q⟩
    simp at hlen
    simp [← hlen]
theorem op_eqNilT (hu : X.A.units + 64 < cLine) : OpR X (compareOp .Eq) (fun x y H Q => ∃ a b xs, x = .ref a ∧ y = .ref b ∧ SqT X.K H a xs ∧ SqT X.K H b [] ∧ Q (.bl xs.isEmpty) H) := by
  intro pins s σ H x y v u Q I rx ry h
  obtain ⟨a, b, xs, rfl, rfl, ha, hb, q⟩ := h
  cases rx; cases ry
  obtain ⟨its, rv, hl, _⟩ := I.tuple ha
  obtain ⟨its2, rv2, hl2, _⟩ := I.tuple hb
  cases vals_nil rv2
  have hlen := rv.length
  refine SeqAt.RcAt.tuples (e := fun _ => true) hl hl2 (by omega) (fun j _ h2 => by simp at h2) _ _ _ _ ⟨.bl xs.isEmpty, H, I, ?_, q⟩
  cases xs with
  | nil => cases vals_nil rv; rfl
  | cons z zs =>
    cases its with
    | nil => simp at hlen
    | cons _ _ => simp [L2.RelV]
theorem op_neNilT (hu : X.A.units + 64 < cLine) : OpR X (compareOp .NotEq) (fun x y H Q => ∃ a b xs, x = .ref a ∧ y = .ref b ∧ SqT X.K H a xs ∧ SqT X.K H b [] ∧ Q (.bl (!xs.isEmpty)) H) := by
  intro pins s σ H x y v u Q I rx ry h
  obtain ⟨a, b, xs, rfl, rfl, ha, hb, q⟩ := h
  cases rx; cases ry
  obtain ⟨its, rv, hl, _⟩ := I.tuple ha
  obtain ⟨its2, rv2, hl2, _⟩ := I.tuple hb
  cases vals_nil rv2
  have hlen := rv.length
  refine SeqAt.RcNeAt.tuples (e := fun _ => true) hl hl2 (by omega) (fun j _ h2 => by simp at h2) _ _ _ _ ⟨.bl (!xs.isEmpty), H, I, ?_, q⟩
  cases xs with
  | nil => cases vals_nil rv; rfl
  | cons z zs =>
    cases its with
    | nil => simp at hlen
    | cons _ _ => simp [L2.RelV]
end
end RS

namespace RS
open PySem PySem.Spec PyProof.Rows L2

/-! ### weakening, steps in a row -/
theorem _root_.L2.PE.weak {X : Cx} {e : Expr} {t t' : TE} (h : PE X e t) (w : ∀ σ H Q, t' σ H Q → t σ H Q) : PE X e t' := ⟨fun pins s σ H Q I q => h.run pins s σ H Q I (w _ _ _ q)⟩
theorem _root_.L2.PT.weak {X : Cx} {e : Expr} {t t' : TT} (h : PT X e t) (w : ∀ σ H Q, t' σ H Q → t σ H Q) : PT X e t' := ⟨fun pins s σ H Q I q => h.run pins s σ H Q I (w _ _ _ q)⟩
theorem _root_.L2.PW.weak {X : Cx} {e : Expr} {t t' : TT} (h : PW X e t) (w : ∀ σ H Q, t' σ H Q → t σ H Q) : PW X e t' := ⟨fun wh pins s σ H Q I q => h.run wh pins s σ H Q I (w _ _ _ q)⟩
theorem _root_.L2.PA.weak {X : Cx} {e : List Expr} {t t' : TA} (h : PA X e t) (w : ∀ σ H Q, t' σ H Q → t σ H Q) : PA X e t' := ⟨fun pos pins s σ H Q I q => h.run pos pins s σ H Q I (w _ _ _ q)⟩
theorem _root_.L2.PK.weak {X : Cx} {e : List Keyword} {t t' : TA} (h : PK X e t) (w : ∀ σ H Q, t' σ H Q → t σ H Q) : PK X e t' := ⟨fun pos pins s σ H Q I q => h.run pos pins s σ H Q I (w _ _ _ q)⟩
theorem _root_.L2.PS.weak {X : Cx} {e : Stmt} {t t' : TS} (h : PS X e t) (w : ∀ D σ H, t' D σ H → t D σ H) : PS X e t' := ⟨fun pins s σ H Q I q => h.run pins s σ H Q I (w _ _ _ q)⟩
theorem _root_.L2.PSs.weak {X : Cx} {e : List Stmt} {t t' : TS} (h : PSs X e t) (w : ∀ D σ H, t' D σ H → t D σ H) : PSs X e t' := ⟨fun pins s σ H Q I q => h.run pins s σ H Q I (w _ _ _ q)⟩

/-- loosely, several -/
inductive RepLs (K : PySem.W.Frag) (H : Hp) (γ : Gh) : List V → List D → Prop
  | nil : RepLs K H γ [] []
  | cons {v : V} {vs : List V} {d : D} {ds : List D} : RepL K H γ v d → RepLs K H γ vs ds → RepLs K H γ (v :: vs) (d :: ds)
theorem RepLs.step {K : PySem.W.Frag} {H H' : Hp} {γ γ' : Gh} (x : Step γ H γ' H') : ∀ {vs : List V} {ds : List D}, RepLs K H γ vs ds → RepLs K H' γ' vs ds
  | _, _, .nil => .nil
  | _, _, .cons r t => .cons (r.step x) (t.step x)
theorem RepLs.one {K : PySem.W.Frag} {H : Hp} {γ : Gh} {vs : List V} {d : D} (h : RepLs K H γ vs [d]) : ∃ v, vs = [v] ∧ RepL K H γ v d := by
  cases h with
  | cons a b => cases b; exact ⟨_, rfl, a⟩
theorem RepLs.two {K : PySem.W.Frag} {H : Hp} {γ : Gh} {vs : List V} {d e : D} (h : RepLs K H γ vs [d, e]) : ∃ v u, vs = [v, u] ∧ RepL K H γ v d ∧ RepL K H γ u e := by
  cases h with
  | cons a b =>
    cases b with
    | cons b c => cases c; exact ⟨_, _, rfl, a, b⟩
theorem RepAll.loose {K : PySem.W.Frag} {H : Hp} {γ : Gh} : ∀ {vs : List V} {ds : List D}, RepAll K γ vs ds → RepLs K H γ vs ds
  | _, _, .nil => .nil
  | _, _, .cons r t => .cons (.rep r) t.loose
def tOs (c : CxI) (m : Env → M (List D)) : TA := fun σ H Q => ∃ γ ρ s, SR c.K c.H0 σ H γ ρ s ∧ Goes c.K c.mg c.EX γ H (m ρ s) fun ds _ H' γ' => ∀ vs, RepLs c.K H' γ' vs ds → Q vs H'

section
variable {c : CxI} {σ : L2.St} {H : Hp} {γ : Gh} {ρ : Env} {s : DS}
theorem tE.mono {m : Env → M D} {Q Q' : VK} (h : tE c m σ H Q) (w : ∀ v H', Q v H' → Q' v H') : tE c m σ H Q' := by
  obtain ⟨γ, ρ, s, r, g⟩ := h
  exact ⟨γ, ρ, s, r, g.imp fun d s' H' γ' _ _ k v hv => w _ _ (k v hv)⟩
theorem tO.mono {m : Env → M D} {Q Q' : VK} (h : tO c m σ H Q) (w : ∀ v H', Q v H' → Q' v H') : tO c m σ H Q' := by
  obtain ⟨γ, ρ, s, r, g⟩ := h
  exact ⟨γ, ρ, s, r, g.imp fun d s' H' γ' _ _ k v hv => w _ _ (k v hv)⟩
theorem tF.mono {m : Env → M (List D)} {Q Q' : VK} (h : tF c m σ H Q) (w : ∀ v H', Q v H' → Q' v H') : tF c m σ H Q' := by
  obtain ⟨γ, ρ, s, r, g⟩ := h
  exact ⟨γ, ρ, s, r, g.imp fun d s' H' γ' _ _ k p vs h1 h2 h3 h4 h5 => w _ _ (k p vs h1 h2 h3 h4 h5)⟩
theorem tB.mono {m : Env → M Bool} {Q Q' : Bool → Hp → Prop} (h : tB c m σ H Q) (w : ∀ v H', Q v H' → Q' v H') : tB c m σ H Q' := by
  obtain ⟨γ, ρ, s, r, g⟩ := h
  exact ⟨γ, ρ, s, r, g.imp fun d s' H' γ' _ _ k => w _ _ k⟩
theorem tEs.mono {m : Env → M (List D)} {Q Q' : List V → Hp → Prop} (h : tEs c m σ H Q) (w : ∀ v H', Q v H' → Q' v H') : tEs c m σ H Q' := by
  obtain ⟨γ, ρ, s, r, g⟩ := h
  exact ⟨γ, ρ, s, r, g.imp fun d s' H' γ' _ _ k v hv => w _ _ (k v hv)⟩
theorem tOs.mono {m : Env → M (List D)} {Q Q' : List V → Hp → Prop} (h : tOs c m σ H Q) (w : ∀ v H', Q v H' → Q' v H') : tOs c m σ H Q' := by
  obtain ⟨γ, ρ, s, r, g⟩ := h
  exact ⟨γ, ρ, s, r, g.imp fun d s' H' γ' _ _ k v hv => w _ _ (k v hv)⟩
/-- m, then f of what it gave, from a state -/
theorem tE.then {α : Type} {m : Env → M D} {f : D → M α} {P : α → DS → Hp → Gh → Prop} (r : SR c.K c.H0 σ H γ ρ s) (h : Goes c.K c.mg c.EX γ H ((m ρ >>= f) s) P) {Q : VK}
    (k : ∀ v d s1 H1 γ1, SR c.K c.H0 σ H1 γ1 ρ s1 → Step γ H γ1 H1 → Rep c.K γ1 v d → Goes c.K c.mg c.EX γ1 H1 (f d s1) P → Q v H1) : tE c m σ H Q :=
  ⟨γ, ρ, s, r, h.bind.imp fun d s1 H1 γ1 x g q v hv => k v d s1 H1 γ1 (r.step x g) x hv q⟩
theorem tO.then {α : Type} {m : Env → M D} {f : D → M α} {P : α → DS → Hp → Gh → Prop} (r : SR c.K c.H0 σ H γ ρ s) (h : Goes c.K c.mg c.EX γ H ((m ρ >>= f) s) P) {Q : VK}
    (k : ∀ v d s1 H1 γ1, SR c.K c.H0 σ H1 γ1 ρ s1 → Step γ H γ1 H1 → RepL c.K H1 γ1 v d → Goes c.K c.mg c.EX γ1 H1 (f d s1) P → Q v H1) : tO c m σ H Q :=
  ⟨γ, ρ, s, r, h.bind.imp fun d s1 H1 γ1 x g q v hv => k v d s1 H1 γ1 (r.step x g) x hv q⟩
theorem tF.then {α : Type} {m : Env → M (List D)} {f : List D → M α} {P : α → DS → Hp → Gh → Prop} (r : SR c.K c.H0 σ H γ ρ s) (h : Goes c.K c.mg c.EX γ H ((m ρ >>= f) s) P) {Q : VK}
    (k : ∀ p vs ds s1 H1 γ1, SR c.K c.H0 σ H1 γ1 ρ s1 → Step γ H γ1 H1 → H1 p = some (.lst vs) → RepAll c.K γ1 vs ds → γ1.F p = none → H p = none → OffDk γ1 p → Goes c.K c.mg c.EX γ1 H1 (f ds s1) P → Q (.ref p) H1) : tF c m σ H Q :=
  ⟨γ, ρ, s, r, h.bind.imp fun d s1 H1 γ1 x g q p vs h1 h2 h3 h4 h5 => k p vs d s1 H1 γ1 (r.step x g) x h1 h2 h3 h4 h5 q⟩
theorem tB.then {α : Type} {m : Env → M Bool} {f : Bool → M α} {P : α → DS → Hp → Gh → Prop} (r : SR c.K c.H0 σ H γ ρ s) (h : Goes c.K c.mg c.EX γ H ((m ρ >>= f) s) P) {Q : Bool → Hp → Prop}
    (k : ∀ b s1 H1 γ1, SR c.K c.H0 σ H1 γ1 ρ s1 → Step γ H γ1 H1 → Goes c.K c.mg c.EX γ1 H1 (f b s1) P → Q b H1) : tB c m σ H Q :=
  ⟨γ, ρ, s, r, h.bind.imp fun d s1 H1 γ1 x g q => k d s1 H1 γ1 (r.step x g) x q⟩
theorem tEs.then {α : Type} {m : Env → M (List D)} {f : List D → M α} {P : α → DS → Hp → Gh → Prop} (r : SR c.K c.H0 σ H γ ρ s) (h : Goes c.K c.mg c.EX γ H ((m ρ >>= f) s) P) {Q : List V → Hp → Prop}
    (k : ∀ vs ds s1 H1 γ1, SR c.K c.H0 σ H1 γ1 ρ s1 → Step γ H γ1 H1 → RepAll c.K γ1 vs ds → Goes c.K c.mg c.EX γ1 H1 (f ds s1) P → Q vs H1) : tEs c m σ H Q :=
  ⟨γ, ρ, s, r, h.bind.imp fun d s1 H1 γ1 x g q v hv => k v d s1 H1 γ1 (r.step x g) x hv q⟩
theorem tOs.then {α : Type} {m : Env → M (List D)} {f : List D → M α} {P : α → DS → Hp → Gh → Prop} (r : SR c.K c.H0 σ H γ ρ s) (h : Goes c.K c.mg c.EX γ H ((m ρ >>= f) s) P) {Q : List V → Hp → Prop}
    (k : ∀ vs ds s1 H1 γ1, SR c.K c.H0 σ H1 γ1 ρ s1 → Step γ H γ1 H1 → RepLs c.K H1 γ1 vs ds → Goes c.K c.mg c.EX γ1 H1 (f ds s1) P → Q vs H1) : tOs c m σ H Q :=
  ⟨γ, ρ, s, r, h.bind.imp fun d s1 H1 γ1 x g q v hv => k v d s1 H1 γ1 (r.step x g) x hv q⟩
/-- the end: a value that the evaluator reckons -/
theorem Goes.optE {K : PySem.W.Frag} {mg : Str → Option Value} {EX : XK} {α : Type} {o : Option α} {P : α → DS → Hp → Gh → Prop} (h : Goes K mg EX γ H (M.opt o s) P) : ∃ a, o = some a ∧ ∀ H' γ', Step γ H γ' H' → GWf H' γ' s → P a s H' γ' := by
  cases o with
  | none => exact False.elim h
  | some a => exact ⟨a, rfl, h⟩
end

section
variable {X : Cx} {c : CxI}
theorem _root_.L2.PE.loose {e : Expr} {m : Env → M D} (h : PE X e (tE c m)) : PE X e (tO c m) := h.weak fun σ H Q q => by
  obtain ⟨γ, ρ, s, r, g⟩ := q
  exact ⟨γ, ρ, s, r, g.imp fun d s' H' γ' _ _ k v hv => k v (.rep hv)⟩
/-- what is new since H may be frozen -/
theorem Step.frz {γ γ1 : Gh} {H H1 : Hp} {p : Addr} {o : HO} {s : DS} (x : Step γ H γ1 H1) (g : GWf H1 γ1 s) (h1 : H1 p = some o) (h3 : γ1.F p = none) (h4 : H p = none) (h5 : OffDk γ1 p) : GWf H1 (γ1.put p o) s ∧ Step γ H (γ1.put p o) H1 := by
  obtain ⟨g2, le⟩ := g.freeze h1 h3 h5
  refine ⟨g2, x.g.trans le, x.keep, fun a u e f => ?_, x.new, x.dom⟩
  show upd γ1.F p o a = none
  rw [upd_ne (ne_of_none e h4)]
  exact x.fz a u e f
theorem Goes.split {α β : Type} {K : PySem.W.Frag} {mg : Str → Option Value} {EX : XK} {γ : Gh} {H : Hp} {m : M α} {f : α → M β} {s : DS} {P : β → DS → Hp → Gh → Prop} {P' : α → DS → Hp → Gh → Prop} (h : Goes K mg EX γ H ((m >>= f) s) P)
    (k : ∀ a s' H' γ', Step γ H γ' H' → GWf H' γ' s' → Goes K mg EX γ H (f a s') P → P' a s' H' γ') : Goes K mg EX γ H (m s) P' := by
  cases e : m s with
  | ok a s' =>
    rw [bnd_ok e] at h
    exact fun H' γ' x g => k a s' H' γ' x g h
  | exc c x s' => rw [bnd_exc e] at h; exact h
  | stuck => rw [bnd_stuck e] at h; exact h
theorem _root_.L2.PE.frozen {e : Expr} {m : Env → M (List D)} (h : PE X e (tF c m)) : PE X e (tE c fun ρ => m ρ >>= fun ds => pure (.lst ds)) := h.weak fun σ H Q q => by
  obtain ⟨γ, ρ, s, r, g⟩ := q
  refine ⟨γ, ρ, s, r, Goes.split g fun ds s' H1 γ1 x gw k p vs h1 h2 h3 h4 h5 => ?_⟩
  obtain ⟨g2, x2⟩ := x.frz gw h1 h3 h4 h5
  have hp : (γ1.put p (.lst vs)).F p = some (.lst vs) := upd_same
  have le : GLe γ1 (γ1.put p (.lst vs)) := (gw.freeze h1 h3 h5).2
  exact k H1 _ x2 g2 _ (.lst hp (h2.le le))
theorem _root_.L2.PE.looseF {e : Expr} {m : Env → M (List D)} (h : PE X e (tF c m)) : PE X e (tO c fun ρ => m ρ >>= fun ds => pure (.lst ds)) := h.frozen.loose
end
end RS

namespace RS
open PySem PySem.Spec PyProof.Rows L2

abbrev lim : Nat := 16777216
theorem lim_eq : lim = sizeLine := sizeLine_eq.symm

/-! ### data as the library's data -/
mutual
def D.py : D → PyData
  | .non => .none
  | .bl b => .bool b
  | .int i => .int i
  | .str s => .str s
  | .tup xs => .tuple (D.pys xs)
  | .lst xs => .list (D.pys xs)
  | .dic kvs => .dict (D.pykv kvs)
  | .scr _ => .none
  | .deck => .none
  | .err _ _ => .none
  | .lam _ _ => .none
def D.pys : List D → List PyData
  | [] => []
  | d :: ds => D.py d :: D.pys ds
def D.pykv : List (D × D) → List (PyData × PyData)
  | [] => []
  | (k, d) :: ds => (D.py k, D.py d) :: D.pykv ds
end
mutual
/-- without a dict within -/
def D.flat : D → Bool
  | .non | .bl _ | .int _ | .str _ => true
  | .tup xs | .lst xs => D.flats xs
  | _ => false
def D.flats : List D → Bool
  | [] => true
  | d :: ds => D.flat d && D.flats ds
end
theorem pys_map : ∀ ds : List D, D.pys ds = ds.map D.py
  | [] => rfl
  | d :: ds => by rw [D.pys, pys_map ds]; rfl
section
variable {K : PySem.W.Frag} {H : Hp} {γ : Gh}
mutual
theorem Rep.dp (le : Same γ.F H) : ∀ (d : D) (v : V), Rep K γ v d → d.flat = true → Dp K H v d.py
  | .non, _, h, _ => by cases h; exact .non
  | .bl _, _, h, _ => by cases h; exact .bl _
  | .int _, _, h, _ => by cases h; exact .int _
  | .str _, _, h, _ => by cases h; exact .str _
  | .tup ds, _, h, f => by
    cases h with
    | tup h1 h2 => exact .tup (le.tupT h1) (RepAll.dp le ds _ h2 f)
  | .lst ds, _, h, f => by
    cases h with
    | lst h1 h2 => exact .lst (SqL.of (le _ _ h1)) (RepAll.dp le ds _ h2 f)
  | .dic _, _, _, f => by cases f
  | .scr _, _, _, f => by cases f
  | .deck, _, _, f => by cases f
  | .err _ _, _, _, f => by cases f
  | .lam _ _, _, _, f => by cases f
theorem RepAll.dp (le : Same γ.F H) : ∀ (ds : List D) (vs : List V), RepAll K γ vs ds → D.flats ds = true → DpAll K H vs (D.pys ds)
  | [], _, h, _ => by cases h; exact .nil
  | d :: ds, _, h, f => by
    have f' : (d.flat && D.flats ds) = true := f
    obtain ⟨f1, f2⟩ := Bool.and_eq_true_iff.mp f'
    cases h with
    | cons h1 h2 => exact .cons (Rep.dp le d _ h1 f1) (RepAll.dp le ds _ h2 f2)
end
theorem RepL.dp {s : DS} (g : GWf H γ s) {d : D} {v : V} (h : RepL K H γ v d) (f : d.flat = true) : Dp K H v d.py := by
  cases h with
  | rep r => exact Rep.dp g.le d v r f
  | own o od =>
    cases o with
    | lst e q => exact .lst (SqL.of e) (RepAll.dp g.le _ _ q f)
    | dic e q => cases f
theorem RepL.repT {d : List D} {v : V} (h : RepL K H γ v (.tup d)) : Rep K γ v (.tup d) := by
  cases h with
  | rep r => exact r
  | own o od => cases o
end

/-! ### two-place operations on data -/
def r2 (K : PySem.W.Frag) (op : D → D → Option D) : R2 := fun x y H Q => ∃ γ s d e r, GWf H γ s ∧ RepL K H γ x d ∧ RepL K H γ y e ∧ op d e = some r ∧ ∀ H' γ', Step γ H γ' H' → GWf H' γ' s → ∀ w, Rep K γ' w r → Q w H'
section
variable {K : PySem.W.Frag} {H : Hp} {γ : Gh} {s : DS} {Q : VK} {vs : List V} {ds : List D}
theorem put_tup (g : GWf H γ s) (hq : ∀ H' γ', Step γ H γ' H' → GWf H' γ' s → ∀ w, Rep K γ' w (.tup ds) → Q w H') (ra : RepAll K γ vs ds) : ∀ p, H p = none → Q (.ref p) (upd H p (.tup vs)) := fun p hp => by
  obtain ⟨g2, x⟩ := Step.put (o := .tup vs) g hp
  exact hq _ _ x g2 _ (.tup (SqT.of upd_same) (ra.le x.g))
theorem put_lst (g : GWf H γ s) (hq : ∀ H' γ', Step γ H γ' H' → GWf H' γ' s → ∀ w, Rep K γ' w (.lst ds) → Q w H') (ra : RepAll K γ vs ds) : ∀ p, H p = none → Q (.ref p) (upd H p (.lst vs)) := fun p hp => by
  obtain ⟨g2, x⟩ := Step.put (o := .lst vs) g hp
  exact hq _ _ x g2 _ (.lst upd_same (ra.le x.g))
end

def dAdd : D → D → Option D
  | .int i, .int j => some (.int (i + j))
  | .tup xs, .tup ys => if xs.length + ys.length ≤ lim then some (.tup (xs ++ ys)) else none
  | .lst xs, .lst ys => if xs.length + ys.length ≤ lim then some (.lst (xs ++ ys)) else none
  | .str a, .str b => if a.length + b.length ≤ lim then some (.str (a ++ b)) else none
  | .bl a, .int j => some (.int (b2i a + j))
  | .bl a, .bl b => some (.int (b2i a + b2i b))
  | .int i, .bl b => some (.int (i + b2i b))
  | _, _ => none
def dSub : D → D → Option D
  | .int i, .int j => some (.int (i - j))
  | .bl a, .int j => some (.int (b2i a - j))
  | .int i, .bl b => some (.int (i - b2i b))
  | _, _ => none
def dMul : D → D → Option D
  | .int i, .int j => if (-(2 ^ 64) < i ∧ i < 2 ^ 64) ∨ (-(2 ^ 64) < j ∧ j < 2 ^ 64) then some (.int (i * j)) else none
  | .lst xs, .int k => if -(2 ^ 63) ≤ k ∧ k < 2 ^ 63 ∧ xs.length * k.toNat ≤ lim then some (.lst (List.replicate k.toNat xs).flatten) else none
  | .tup xs, .int k => if -(2 ^ 63) < k ∧ k ≤ 1000 ∧ xs.length ≤ 1000 then some (.tup (List.replicate k.toNat xs).flatten) else none
  | _, _ => none
def dMod : D → D → Option D
  | .int i, .int j => if 0 < j then some (.int (i % j)) else none
  | _, _ => none
def dFdiv : D → D → Option D
  | .int i, .int j => if 0 < j ∧ j < 1073741824 then some (.int (i / j)) else none
  | _, _ => none
def dPow : D → D → Option D
  | .int i, .int j => if 0 ≤ j ∧ j ≤ 1000000 ∧ i.natAbs < 2 ^ 64 then some (.int (i ^ j.toNat)) else none
  | _, _ => none
def dAnd : D → D → Option D
  | .int i, .int j => if j = 1 then some (.int (i % 2)) else none
  | _, _ => none
def dBin : Operator → D → D → Option D
  | .Add => dAdd
  | .Sub => dSub
  | .Mult => dMul
  | .Mod => dMod
  | .FloorDiv => dFdiv
  | .Pow => dPow
  | .BitAnd => dAnd
  | _ => fun _ _ => none
theorem RepAll.rep {K : PySem.W.Frag} {γ : Gh} {vs : List V} {ds : List D} (h : RepAll K γ vs ds) : ∀ k : Nat, RepAll K γ (List.replicate k vs).flatten (List.replicate k ds).flatten
  | 0 => .nil
  | k + 1 => by
    rw [List.replicate_succ, List.replicate_succ, List.flatten_cons, List.flatten_cons]
    exact h.append (h.rep k)
section
variable {X : Cx}
theorem op_dAdd : OpR X (binaryOp .Add) (r2 X.K dAdd) := by
  intro pins s σ H x y v u Q I rx ry h
  obtain ⟨γ, sd, d, e, r, g, hx, hy, ho, q⟩ := h
  unfold dAdd at ho
  split at ho
  · rename_i i j
    cases hx.int; cases hy.int
    cases ho
    exact op_add pins s σ H _ _ v u Q I rx ry ⟨i, j, rfl, rfl, q H γ (Step.refl _ _) g _ (.int _)⟩
  · rename_i xs ys
    split at ho
    · rename_i hl
      cases ho
      obtain ⟨a, vs, rfl, ha, ra⟩ := hx.tup g
      obtain ⟨b, ws, rfl, hb, rb⟩ := hy.tup g
      have e1 : xs = [] ↔ vs = [] := by rw [← List.length_eq_zero_iff, ← List.length_eq_zero_iff, ra.length]
      have e2 : ys = [] ↔ ws = [] := by rw [← List.length_eq_zero_iff, ← List.length_eq_zero_iff, rb.length]
      refine op_catA pins s σ H _ _ v u Q I rx ry ⟨a, b, vs, ws, rfl, rfl, ha, hb, by rw [ra.length, rb.length, ← lim_eq]; exact hl, fun z => ?_, fun _ z => ?_, fun _ _ => put_tup g q (ra.append rb)⟩
      · have hz := e1.mpr z
        subst hz
        exact q H γ (Step.refl _ _) g _ hy.repT
      · have hz := e2.mpr z
        subst hz
        refine q H γ (Step.refl _ _) g _ ?_
        rw [List.append_nil]
        exact hx.repT
    · cases ho
  · rename_i xs ys
    split at ho
    · rename_i hl
      cases ho
      obtain ⟨a, vs, rfl, ha, ra⟩ := hx.lst g
      obtain ⟨b, ws, rfl, hb, rb⟩ := hy.lst g
      exact op_cat pins s σ H _ _ v u Q I rx ry ⟨a, b, vs, ws, rfl, rfl, ha, hb, by rw [ra.length, rb.length, ← lim_eq]; exact hl, put_lst g q (ra.append rb)⟩
    · cases ho
  · rename_i a b
    split at ho
    · rename_i hl
      cases hx.str; cases hy.str
      cases ho
      exact op_add_str pins s σ H _ _ v u Q I rx ry ⟨a, b, rfl, rfl, by rw [← lim_eq]; exact hl, q H γ (Step.refl _ _) g _ (.str _)⟩
    · cases ho
  · rename_i a j
    cases hx.bl; cases hy.int
    cases ho
    exact op_add_bi pins s σ H _ _ v u Q I rx ry ⟨a, j, rfl, rfl, q H γ (Step.refl _ _) g _ (.int _)⟩
  · rename_i a b
    cases hx.bl; cases hy.bl
    cases ho
    exact op_add_bb pins s σ H _ _ v u Q I rx ry ⟨a, b, rfl, rfl, q H γ (Step.refl _ _) g _ (.int _)⟩
  · rename_i i b
    cases hx.int; cases hy.bl
    cases ho
    exact op_add_ib pins s σ H _ _ v u Q I rx ry ⟨i, b, rfl, rfl, q H γ (Step.refl _ _) g _ (.int _)⟩
  · cases ho
theorem op_dSub : OpR X (binaryOp .Sub) (r2 X.K dSub) := by
  intro pins s σ H x y v u Q I rx ry h
  obtain ⟨γ, sd, d, e, r, g, hx, hy, ho, q⟩ := h
  unfold dSub at ho
  split at ho
  · rename_i i j
    cases hx.int; cases hy.int
    cases ho
    exact op_sub pins s σ H _ _ v u Q I rx ry ⟨i, j, rfl, rfl, q H γ (Step.refl _ _) g _ (.int _)⟩
  · rename_i a j
    cases hx.bl; cases hy.int
    cases ho
    exact op_sub_bi pins s σ H _ _ v u Q I rx ry ⟨a, j, rfl, rfl, q H γ (Step.refl _ _) g _ (.int _)⟩
  · rename_i i b
    cases hx.int; cases hy.bl
    cases ho
    exact op_sub_ib pins s σ H _ _ v u Q I rx ry ⟨i, b, rfl, rfl, q H γ (Step.refl _ _) g _ (.int _)⟩
  · cases ho
theorem op_dMul : OpR X (binaryOp .Mult) (r2 X.K dMul) := by
  intro pins s σ H x y v u Q I rx ry h
  obtain ⟨γ, sd, d, e, r, g, hx, hy, ho, q⟩ := h
  unfold dMul at ho
  split at ho
  · rename_i i j
    split at ho
    · rename_i hb
      cases hx.int; cases hy.int
      cases ho
      exact op_mul pins s σ H _ _ v u Q I rx ry ⟨i, j, rfl, rfl, hb, q H γ (Step.refl _ _) g _ (.int _)⟩
    · cases ho
  · rename_i xs k
    split at ho
    · rename_i hb
      cases hy.int
      cases ho
      obtain ⟨a, vs, rfl, ha, ra⟩ := hx.lst g
      exact op_rep pins s σ H _ _ v u Q I rx ry ⟨a, k, vs, rfl, rfl, ha, hb.1, hb.2.1, by rw [ra.length, ← lim_eq]; exact hb.2.2, put_lst g q (ra.rep _)⟩
    · cases ho
  · rename_i xs k
    split at ho
    · rename_i hb
      cases hy.int
      cases ho
      obtain ⟨a, vs, rfl, ha, ra⟩ := hx.tup g
      refine op_repA pins s σ H _ _ v u Q I rx ry ⟨a, k, vs, rfl, rfl, ha, hb.1, hb.2.1, by rw [ra.length]; exact hb.2.2, fun z => ?_, fun _ z => ?_, fun _ _ => put_tup g q (ra.rep _)⟩
      · have e : (List.replicate k.toNat xs).flatten = xs := by
          rcases z with z | z
          · have : xs = [] := by rw [← List.length_eq_zero_iff, ← ra.length, z]; rfl
            subst this
            exact List.flatten_replicate_nil
          · subst z
            simp
        rw [e] at q
        exact q H γ (Step.refl _ _) g _ hx.repT
      · have e : (List.replicate k.toNat xs).flatten = [] := by
          rw [show k.toNat = 0 by omega]; rfl
        rw [e] at q
        exact put_tup g q .nil
    · cases ho
  · cases ho
theorem op_dMod : OpR X (binaryOp .Mod) (r2 X.K dMod) := by
  intro pins s σ H x y v u Q I rx ry h
  obtain ⟨γ, sd, d, e, r, g, hx, hy, ho, q⟩ := h
  unfold dMod at ho
  split at ho
  · rename_i i j
    split at ho
    · rename_i hb
      cases hx.int; cases hy.int
      cases ho
      exact op_mod pins s σ H _ _ v u Q I rx ry ⟨i, j, rfl, rfl, hb, q H γ (Step.refl _ _) g _ (.int _)⟩
    · cases ho
  · cases ho
theorem op_dFdiv : OpR X (binaryOp .FloorDiv) (r2 X.K dFdiv) := by
  intro pins s σ H x y v u Q I rx ry h
  obtain ⟨γ, sd, d, e, r, g, hx, hy, ho, q⟩ := h
  unfold dFdiv at ho
  split at ho
  · rename_i i j
    split at ho
    · rename_i hb
      cases hx.int; cases hy.int
      cases ho
      exact op_fdiv pins s σ H _ _ v u Q I rx ry ⟨i, j, rfl, rfl, hb, q H γ (Step.refl _ _) g _ (.int _)⟩
    · cases ho
  · cases ho
theorem op_dPow : OpR X (binaryOp .Pow) (r2 X.K dPow) := by
  intro pins s σ H x y v u Q I rx ry h
  obtain ⟨γ, sd, d, e, r, g, hx, hy, ho, q⟩ := h
  unfold dPow at ho
  split at ho
  · rename_i i j
    split at ho
    · rename_i hb
      cases hx.int; cases hy.int
      cases ho
      exact op_pow pins s σ H _ _ v u Q I rx ry ⟨i, j, rfl, rfl, hb, q H γ (Step.refl _ _) g _ (.int _)⟩
    · cases ho
  · cases ho
theorem op_dAnd : OpR X (binaryOp .BitAnd) (r2 X.K dAnd) := by
  intro pins s σ H x y v u Q I rx ry h
  obtain ⟨γ, sd, d, e, r, g, hx, hy, ho, q⟩ := h
  unfold dAnd at ho
  split at ho
  · rename_i i j
    split at ho
    · rename_i hb
      subst hb
      cases hx.int; cases hy.int
      cases ho
      exact op_andM pins s σ H _ _ v u Q I rx ry ⟨i, 1, rfl, rfl, q H γ (Step.refl _ _) g _ (.int _)⟩
    · cases ho
  · cases ho
theorem op_dBin (op : Operator) : OpR X (binaryOp op) (r2 X.K (dBin op)) := by
  cases op with
  | Add => exact op_dAdd
  | Sub => exact op_dSub
  | Mult => exact op_dMul
  | Mod => exact op_dMod
  | FloorDiv => exact op_dFdiv
  | Pow => exact op_dPow
  | BitAnd => exact op_dAnd
  | _ =>
    intro pins s σ H x y v u Q I rx ry h
    obtain ⟨γ, sd, d, e, r, g, hx, hy, ho, q⟩ := h
    cases ho
end

/-! ### comparisons -/
def D.good (d : D) : Bool := d.flat && SeqAt.shaped d.py
def dEq : D → D → Option Bool
  | .str a, .str b => some (a == b)
  | .lst xs, .lst [] => some xs.isEmpty
  | .tup xs, .tup [] => some xs.isEmpty
  | d, e => if d.good && e.good then some (PyData.eqv d.py e.py) else none
def dLt : D → D → Option Bool
  | .int i, .int j => some (decide (i < j))
  | _, _ => none
def dLe : D → D → Option Bool
  | .int i, .int j => some (decide (i ≤ j))
  | _, _ => none
def dIn : D → D → Option Bool
  | d, .tup es => if d.good && (D.tup es).good then some (es.any fun z => PyData.eqv z.py d.py) else none
  | d, .lst es => if d.good && (D.lst es).good then some (es.any fun z => PyData.eqv z.py d.py) else none
  | _, _ => none
def dIs : D → D → Option Bool
  | .non, .non => some true
  | d, .non => match d with
    | .bl _ | .int _ | .str _ | .tup _ | .lst _ | .dic _ => some false
    | _ => none
  | _, _ => none
def dCmp : CmpOp → D → D → Option Bool
  | .Eq, d, e => dEq d e
  | .NotEq, d, e => (dEq d e).map not
  | .Lt, d, e => dLt d e
  | .LtE, d, e => dLe d e
  | .Gt, d, e => dLt e d
  | .GtE, d, e => dLe e d
  | .In, d, e => dIn d e
  | .NotIn, d, e => (dIn d e).map not
  | .Is, d, e => dIs d e
  | .IsNot, d, e => (dIs d e).map not
def rc2 (K : PySem.W.Frag) (op : D → D → Option Bool) : R2 := fun x y H Q => ∃ γ s d e b, GWf H γ s ∧ RepL K H γ x d ∧ RepL K H γ y e ∧ op d e = some b ∧ Q (.bl b) H
section
variable {X : Cx}
theorem good_ok {d : D} (h : d.good = true) : d.flat = true ∧ SeqAt.shaped d.py = true := Bool.and_eq_true_iff.mp h
theorem RepAll.empty {K : PySem.W.Frag} {γ : Gh} {vs : List V} {ds : List D} (h : RepAll K γ vs ds) : vs.isEmpty = ds.isEmpty := by cases h <;> rfl
theorem op_dEq (hu : X.A.units + 64 < cLine) : OpR X (compareOp .Eq) (rc2 X.K dEq) := by
  intro pins s σ H x y v u Q I rx ry h
  obtain ⟨γ, sd, d, e, b, g, hx, hy, ho, q⟩ := h
  unfold dEq at ho
  split at ho
  · rename_i a c
    cases hx.str; cases hy.str; cases ho
    refine op_eq pins s σ H _ _ v u Q I rx ry ⟨rfl, ?_⟩
    rw [dec_str]; exact q
  · cases ho
    obtain ⟨a, vs, rfl, ha, ra⟩ := hx.lst g
    obtain ⟨b, ws, rfl, hb, rb⟩ := hy.lst g
    cases rb
    exact op_eqNilL hu pins s σ H _ _ v u Q I rx ry ⟨a, b, vs, rfl, rfl, SqL.of ha, SqL.of hb, by rw [ra.empty]; exact q⟩
  · cases ho
    obtain ⟨a, vs, rfl, ha, ra⟩ := hx.tup g
    obtain ⟨b, ws, rfl, hb, rb⟩ := hy.tup g
    cases rb
    exact op_eqNilT hu pins s σ H _ _ v u Q I rx ry ⟨a, b, vs, rfl, rfl, ha, hb, by rw [ra.empty]; exact q⟩
  · split at ho
    · rename_i hg
      obtain ⟨g1, g2⟩ := Bool.and_eq_true_iff.mp hg
      obtain ⟨f1, s1⟩ := good_ok g1
      obtain ⟨f2, s2⟩ := good_ok g2
      cases ho
      exact op_eqD hu pins s σ H x y v u Q I rx ry ⟨_, _, hx.dp g f1, hy.dp g f2, s1, s2, q⟩
    · cases ho
theorem op_dNe (hu : X.A.units + 64 < cLine) : OpR X (compareOp .NotEq) (rc2 X.K (dCmp .NotEq)) := by
  intro pins s σ H x y v u Q I rx ry h
  obtain ⟨γ, sd, d, e, b, g, hx, hy, ho, q⟩ := h
  obtain ⟨b', ho2, rfl⟩ := Option.map_eq_some_iff.mp (show (dEq d e).map not = some b from ho)
  clear ho
  have ho := ho2
  clear ho2
  unfold dEq at ho
  split at ho
  · rename_i a c
    cases hx.str; cases hy.str; cases ho
    refine op_ne pins s σ H _ _ v u Q I rx ry ⟨rfl, ?_⟩
    rw [dec_str]; exact q
  · cases ho
    obtain ⟨a, vs, rfl, ha, ra⟩ := hx.lst g
    obtain ⟨b, ws, rfl, hb, rb⟩ := hy.lst g
    cases rb
    exact op_neNilL hu pins s σ H _ _ v u Q I rx ry ⟨a, b, vs, rfl, rfl, SqL.of ha, SqL.of hb, by rw [ra.empty]; exact q⟩
  · cases ho
    obtain ⟨a, vs, rfl, ha, ra⟩ := hx.tup g
    obtain ⟨b, ws, rfl, hb, rb⟩ := hy.tup g
    cases rb
    exact op_neNilT hu pins s σ H _ _ v u Q I rx ry ⟨a, b, vs, rfl, rfl, ha, hb, by rw [ra.empty]; exact q⟩
  · split at ho
    · rename_i hg
      obtain ⟨g1, g2⟩ := Bool.and_eq_true_iff.mp hg
      obtain ⟨f1, s1⟩ := good_ok g1
      obtain ⟨f2, s2⟩ := good_ok g2
      cases ho
      exact op_neD hu pins s σ H x y v u Q I rx ry ⟨_, _, hx.dp g f1, hy.dp g f2, s1, s2, q⟩
    · cases ho
theorem any_pys (d : PyData) : ∀ es : List D, (es.any fun z => PyData.eqv z.py d) = (D.pys es).any fun z => PyData.eqv z d
  | [] => rfl
  | e :: es => by rw [D.pys, List.any_cons, List.any_cons, any_pys d es]
theorem op_dIn (neg : Bool) (hu : X.A.units + 65 < cLine) : OpR X (compareOp (if neg then .NotIn else .In)) (rc2 X.K (dCmp (if neg then .NotIn else .In))) := by
  intro pins s σ H x y v u Q I rx ry h
  obtain ⟨γ, sd, d, e, b, g, hx, hy, ho, q⟩ := h
  have ho0 : (dIn d e).map (fun b => if neg then !b else b) = some b := by
    cases neg with
    | true => exact ho
    | false =>
      have h1 : dIn d e = some b := ho
      rw [h1]; rfl
  clear ho
  obtain ⟨b', ho, hb⟩ := Option.map_eq_some_iff.mp ho0
  clear ho0
  unfold dIn at ho
  split at ho
  · rename_i es
    split at ho
    · rename_i hg
      obtain ⟨g1, g2⟩ := Bool.and_eq_true_iff.mp hg
      obtain ⟨f1, s1⟩ := good_ok g1
      obtain ⟨f2, s2⟩ := good_ok g2
      cases ho
      obtain ⟨as, r1⟩ := Dp.reads I _ x v (hx.dp g f1) rx
      obtain ⟨bs, r2⟩ := Dp.reads I _ y u (hy.dp g f2) ry
      have lay : PyData.canLayAll0 (D.pys es) = true := SeqAt.canLay_of_shaped s2
      rw [any_pys] at hb
      subst hb
      cases neg with
      | false => exact SeqAt.in_tuple_reads r2 r1 lay (SeqAt.canLay_of_shaped s1) (room_in_shaped s1 hu) ⟨.bl _, H, I, rfl, q⟩
      | true => exact SeqAt.notIn_tuple_reads r2 r1 lay (SeqAt.canLay_of_shaped s1) (room_in_shaped s1 hu) ⟨.bl _, H, I, rfl, q⟩
    · cases ho
  · rename_i es
    split at ho
    · rename_i hg
      obtain ⟨g1, g2⟩ := Bool.and_eq_true_iff.mp hg
      obtain ⟨f1, s1⟩ := good_ok g1
      obtain ⟨f2, s2⟩ := good_ok g2
      cases ho
      obtain ⟨as, r1⟩ := Dp.reads I _ x v (hx.dp g f1) rx
      obtain ⟨bs, r2⟩ := Dp.reads I _ y u (hy.dp g f2) ry
      have lay : PyData.canLayAll0 (D.pys es) = true := SeqAt.canLay_of_shaped s2
      rw [any_pys] at hb
      subst hb
      cases neg with
      | false => exact SeqAt.in_list_reads r2 r1 lay (SeqAt.canLay_of_shaped s1) (room_in_shaped s1 hu) ⟨.bl _, H, I, rfl, q⟩
      | true => exact SeqAt.notIn_list_reads r2 r1 lay (SeqAt.canLay_of_shaped s1) (room_in_shaped s1 hu) ⟨.bl _, H, I, rfl, q⟩
    · cases ho
  · cases ho
theorem dIs_ok {K : PySem.W.Frag} {H : Hp} {γ : Gh} {x y : V} {d e : D} {b : Bool} (hx : RepL K H γ x d) (hy : RepL K H γ y e) (h : dIs d e = some b) : y = .non ∧ b = decide (x = .non) := by
  unfold dIs at h
  split at h
  · cases hx.non; cases hy.non; cases h; exact ⟨rfl, by simp⟩
  · have ey := hy.non
    refine ⟨ey, ?_⟩
    split at h <;> first
      | (cases h
         have n : x ≠ .non := fun z => by
           subst z
           cases hx with
           | rep r => cases r
         simp [n])
      | cases h
  · cases h
theorem op_dCmp (op : CmpOp) (hu : X.A.units + 65 < cLine) : OpR X (compareOp op) (rc2 X.K (dCmp op)) := by
  cases op with
  | Eq => exact op_dEq (by omega)
  | NotEq => exact op_dNe (by omega)
  | In => exact op_dIn false hu
  | NotIn => exact op_dIn true hu
  | Is =>
    intro pins s σ H x y v u Q I rx ry h
    obtain ⟨γ, sd, d, e, b, g, hx, hy, ho, q⟩ := h
    obtain ⟨rfl, rfl⟩ := dIs_ok hx hy ho
    exact op_isN pins s σ H _ _ v u Q I rx ry ⟨rfl, q⟩
  | IsNot =>
    intro pins s σ H x y v u Q I rx ry h
    obtain ⟨γ, sd, d, e, b, g, hx, hy, ho, q⟩ := h
    obtain ⟨b', ho2, rfl⟩ := Option.map_eq_some_iff.mp (show (dIs d e).map not = some b from ho)
    obtain ⟨rfl, rfl⟩ := dIs_ok hx hy ho2
    exact op_notN pins s σ H _ _ v u Q I rx ry ⟨rfl, q⟩
  | Lt =>
    intro pins s σ H x y v u Q I rx ry h
    obtain ⟨γ, sd, d, e, b, g, hx, hy, ho, q⟩ := h
    have ho : dLt d e = some b := ho
    unfold dLt at ho
    split at ho
    · cases hx.int; cases hy.int; cases ho
      exact op_lt pins s σ H _ _ v u Q I rx ry ⟨_, _, rfl, rfl, q⟩
    · cases ho
  | LtE =>
    intro pins s σ H x y v u Q I rx ry h
    obtain ⟨γ, sd, d, e, b, g, hx, hy, ho, q⟩ := h
    have ho : dLe d e = some b := ho
    unfold dLe at ho
    split at ho
    · cases hx.int; cases hy.int; cases ho
      exact op_le pins s σ H _ _ v u Q I rx ry ⟨_, _, rfl, rfl, q⟩
    · cases ho
  | Gt =>
    intro pins s σ H x y v u Q I rx ry h
    obtain ⟨γ, sd, d, e, b, g, hx, hy, ho, q⟩ := h
    have ho : dLt e d = some b := ho
    unfold dLt at ho
    split at ho
    · cases hx.int; cases hy.int; cases ho
      exact op_gt pins s σ H _ _ v u Q I rx ry ⟨_, _, rfl, rfl, q⟩
    · cases ho
  | GtE =>
    intro pins s σ H x y v u Q I rx ry h
    obtain ⟨γ, sd, d, e, b, g, hx, hy, ho, q⟩ := h
    have ho : dLe e d = some b := ho
    unfold dLe at ho
    split at ho
    · cases hx.int; cases hy.int; cases ho
      exact op_ge pins s σ H _ _ v u Q I rx ry ⟨_, _, rfl, rfl, q⟩
    · cases ho
end
end RS

namespace RS
open PySem PySem.Spec PyProof.Rows L2

theorem M.assoc {α β δ : Type} (m : M α) (f : α → M β) (g : β → M δ) : (m >>= f) >>= g = m >>= fun x => f x >>= g := by
  funext s
  show M.bnd (M.bnd m f) g s = M.bnd m (fun x => M.bnd (f x) g) s
  unfold M.bnd
  cases m s <;> rfl
/-! ### what is known of a place in the text -/
structure Ctx where
  N : List Str
  sc : Scope
  /-- the names that may be stored here -/
  sto : List Str
structure StX (X : Cx) (c : Ctx) : Prop where
  hN : X.N = c.N
  hs : X.env.scope = c.sc
  nd : c.N.Nodup
  kind : c.sc.kind = .function
  calm : X.calm = true
  sto : ∀ x ∈ c.sto, Loc c.sc x ∧ (X.fn x = true ∨ c.sc.names.lookup x = some .local)
  hu : X.A.units + 100 < cLine
  guards : X.A.guards = some []
  sys : ∃ o, X.K.lookup sysModules = some o
abbrev _root_.L2.Cx.ci (X : Cx) (H0 : Hp) (EX : XK) : CxI := ⟨X.K, X.mg, H0, EX⟩

/-! ### names and constants -/
def mVar (i : Nat) : Env → M D := fun ρ => match ρ[i]? with
  | some (some (.val d)) => pure d
  | _ => M.stop
def mPeek (i : Nat) : Env → M D := fun ρ => match ρ[i]? with
  | some (some (.val d)) => pure d
  | some (some (.own d)) => pure d
  | _ => M.stop
def mC (d : D) : Env → M D := fun _ => pure d
def visB (sc : Scope) (x : Str) : Bool := match sc.names.lookup x with
  | some .local | some .cell | some .free => true
  | _ => false
theorem vis_of {sc : Scope} {x : Str} (h : visB sc x = true) : Vis sc x := by
  unfold visB at h
  split at h <;> first
    | exact .inl (by assumption)
    | exact .inr (.inl (by assumption))
    | exact .inr (.inr (by assumption))
    | cases h
def okName (x : Str) : Bool := !(x == ("__debug__" : Str)) && !(x == ("__classdict__" : Str)) && !(x == ("__name__" : Str))
theorem okName_of {x : Str} (h : okName x = true) : (x == ("__debug__" : Str)) = false ∧ (x == ("__classdict__" : Str)) = false ∧ x ≠ "__name__" := by
  unfold okName at h
  simp only [Bool.and_eq_true, Bool.not_eq_true'] at h
  refine ⟨h.1.1, h.1.2, fun e => ?_⟩
  subst e
  have := h.2
  simp at this
section
variable {X : Cx} {c : Ctx} {H0 : Hp} {EX : XK}
theorem goes_stop {K : PySem.W.Frag} {mg : Str → Option Value} {EX : XK} {γ : Gh} {H : Hp} {s : DS} {α : Type} {P : α → DS → Hp → Gh → Prop} (h : Goes K mg EX γ H ((M.stop : M α) s) P) : False := h
theorem pe_dvar (T : StX X c) {i : Nat} {x : Str} {pos : Pos} (hi : c.N[i]? = some x) (hv : visB c.sc x = true) (ho : okName x = true) : PE X (.Name x pos) (tE (X.ci H0 EX) (mVar i)) := by
  obtain ⟨h1, h2, _⟩ := okName_of ho
  refine (pe_var (i := i) (by rw [T.hN]; exact hi) (by rw [T.hs]; exact vis_of hv) h1 h2).weak fun σ H Q q => ?_
  obtain ⟨γ, ρ, s, r, g⟩ := q
  unfold mVar at g
  rcases e : ρ[i]? with _ | (_ | (d | d))
  · simp only [e] at g; exact (goes_stop g).elim
  · simp only [e] at g; exact (goes_stop g).elim
  · simp only [e] at g
    obtain ⟨v, e1, e2⟩ := r.val i d e
    exact ⟨v, e1, g.pure r.g v e2⟩
  · simp only [e] at g; exact (goes_stop g).elim
theorem pe_dpeek (T : StX X c) {i : Nat} {x : Str} {pos : Pos} (hi : c.N[i]? = some x) (hv : visB c.sc x = true) (ho : okName x = true) : PE X (.Name x pos) (tO (X.ci H0 EX) (mPeek i)) := by
  obtain ⟨h1, h2, _⟩ := okName_of ho
  refine (pe_var (i := i) (by rw [T.hN]; exact hi) (by rw [T.hs]; exact vis_of hv) h1 h2).weak fun σ H Q q => ?_
  obtain ⟨γ, ρ, s, r, g⟩ := q
  unfold mPeek at g
  rcases e : ρ[i]? with _ | (_ | (d | d))
  · simp only [e] at g; exact (goes_stop g).elim
  · simp only [e] at g; exact (goes_stop g).elim
  · simp only [e] at g
    obtain ⟨v, e1, e2⟩ := r.val i d e
    exact ⟨v, e1, g.pure r.g v (.rep e2)⟩
  · simp only [e] at g
    obtain ⟨p, e1, e2, e3, _⟩ := r.own i d e
    exact ⟨_, e1, g.pure r.g _ (.own e2 e3)⟩
theorem const_rd {d : D} {v : V} (hv : ∀ γ, Rep X.K γ v d) : ∀ σ H Q, tE (X.ci H0 EX) (mC d) σ H Q → tC v σ H Q := fun σ H Q q => by
  obtain ⟨γ, ρ, s, r, g⟩ := q
  exact g.pure r.g v (hv γ)
theorem pe_dint {i j pos} : PE X (.Constant (.int i) j pos) (tE (X.ci H0 EX) (mC (.int i))) := pe_int.weak (const_rd fun _ => .int i)
theorem pe_dbl {i j pos} : PE X (.Constant (.bool i) j pos) (tE (X.ci H0 EX) (mC (.bl i))) := pe_bl.weak (const_rd fun _ => .bl i)
theorem pe_dnon {j pos} : PE X (.Constant .none j pos) (tE (X.ci H0 EX) (mC .non)) := pe_non.weak (const_rd fun _ => .non)
theorem pe_dstr {i j pos} : PE X (.Constant (.str i) j pos) (tE (X.ci H0 EX) (mC (.str i))) := pe_str.weak (const_rd fun _ => .str i)
/-- a constant of the module -/
def GlobD (X : Cx) (x : Str) (d : D) : Prop := ∃ u v, X.mg x = some u ∧ RelV v u ∧ ∀ γ, Rep X.K γ v d
theorem kind_of (T : StX X c) {x : Str} {k : NameKind} (h : c.sc.names.lookup x = some k) : X.env.kindOf x = some k := by
  unfold Env.kindOf
  rw [T.hs]
  exact h
theorem pe_dglob (T : StX X c) {x : Str} {d : D} {pos : Pos} (hg : c.sc.names.lookup x = some .globalImplicit) (ho : okName x = true) (h : GlobD X x d) : PE X (.Name x pos) (tE (X.ci H0 EX) (mC d)) := by
  obtain ⟨u, v, h1, h2, h3⟩ := h
  exact (pe_glob (kind_of T hg) h1 h2 (okName_of ho).1).weak (const_rd h3)

/-! ### operators -/
def mBin (op : Operator) (a b : Env → M D) : Env → M D := fun ρ => a ρ >>= fun x => b ρ >>= fun y => M.opt (dBin op x y)
theorem pe_dbin (T : StX X c) {op : Operator} {a b : Expr} {ma mb : Env → M D} {pos : Pos} (ha : PE X a (tO (X.ci H0 EX) ma)) (hb : PE X b (tO (X.ci H0 EX) mb)) : PE X (.BinOp a op b pos) (tE (X.ci H0 EX) (mBin op ma mb)) := by
  refine (pe_op (op_dBin op) ha hb).weak fun σ H Q q => ?_
  obtain ⟨γ, ρ, s, r, g⟩ := q
  refine tO.then r g fun x d s1 H1 γ1 r1 _ hx g1 => tO.then r1 g1 fun y e s2 H2 γ2 r2 x2 hy g2 => ?_
  obtain ⟨z, e1, k⟩ := g2.optE
  exact ⟨γ2, s2, d, e, z, r2.g, hx.step x2, hy, e1, k⟩
def dNeg : D → Option D
  | .int i => some (.int (-i))
  | _ => none
def mNeg (a : Env → M D) : Env → M D := fun ρ => a ρ >>= fun x => M.opt (dNeg x)
theorem pe_dneg (T : StX X c) {a : Expr} {ma : Env → M D} {pos : Pos} (ha : PE X a (tO (X.ci H0 EX) ma)) : PE X (.UnaryOp .USub a pos) (tE (X.ci H0 EX) (mNeg ma)) := by
  refine (pe_un un_neg ha).weak fun σ H Q q => ?_
  obtain ⟨γ, ρ, s, r, g⟩ := q
  refine tO.then r g fun x d s1 H1 γ1 r1 _ hx g1 => ?_
  obtain ⟨z, e1, k⟩ := g1.optE
  unfold dNeg at e1
  split at e1
  · cases e1; cases hx.int
    exact ⟨_, rfl, k _ _ (Step.refl _ _) r1.g _ (.int _)⟩
  · cases e1
/-- a comparison -/
def mCmpB (op : CmpOp) (a b : Env → M D) : Env → M Bool := fun ρ => a ρ >>= fun x => b ρ >>= fun y => M.opt (dCmp op x y)
def mBl (m : Env → M Bool) : Env → M D := fun ρ => m ρ >>= fun b => pure (.bl b)
def noSet : Expr → Bool
  | .Set .. => false
  | _ => true
theorem behind_no {op : CmpOp} {b : Expr} (h : noSet b = true) : behindInMarks op b = false := by
  cases b <;> first | rfl | cases h
theorem cmp_rd (T : StX X c) {op : CmpOp} {ma mb : Env → M D} {σ : L2.St} {H : Hp} {Q : VK} (q : tE (X.ci H0 EX) (mBl (mCmpB op ma mb)) σ H Q) : tOp (rc2 X.K (dCmp op)) (tO (X.ci H0 EX) ma) (tO (X.ci H0 EX) mb) σ H Q := by
  obtain ⟨γ, ρ, s, r, g⟩ := q
  have g : Goes X.K X.mg EX γ H ((ma ρ >>= fun x => mb ρ >>= fun y => M.opt (dCmp op x y) >>= fun b => pure (D.bl b)) s) fun d _ H' γ' => ∀ v, Rep X.K γ' v d → Q v H' := by
    have e : (mBl (mCmpB op ma mb) ρ : M D) = (ma ρ >>= fun x => mb ρ >>= fun y => M.opt (dCmp op x y) >>= fun b => pure (D.bl b)) := by
      unfold mBl mCmpB
      rw [M.assoc]
      congr 1
      funext x
      rw [M.assoc]
    rw [← e]; exact g
  refine tO.then (c := X.ci H0 EX) r g fun x d s1 H1 γ1 r1 _ hx g1 => tO.then (c := X.ci H0 EX) r1 g1 fun y e s2 H2 γ2 r2 x2 hy g2 => ?_
  obtain ⟨z, e1, k⟩ := (g2.bind).optE
  have k1 := k H2 γ2 (Step.refl _ _) r2.g
  exact ⟨γ2, s2, d, e, z, r2.g, hx.step x2, hy, e1, k1.pure r2.g _ (.bl z)⟩
theorem pe_dcmp (T : StX X c) {op : CmpOp} {a b : Expr} {ma mb : Env → M D} {pos : Pos} (ha : PE X a (tO (X.ci H0 EX) ma)) (hb : PE X b (tO (X.ci H0 EX) mb)) (hs : noSet b = true) : PE X (.Compare a [op] [b] pos) (tE (X.ci H0 EX) (mBl (mCmpB op ma mb))) :=
  (pe_cmpR (op_dCmp op (by have := T.hu; omega)) ha hb (behind_no hs)).weak fun σ H Q q => cmp_rd T q
theorem tB_of_tE {m : Env → M Bool} {σ : L2.St} {H : Hp} {Q : Bool → Hp → Prop} (q : tB (X.ci H0 EX) m σ H Q) : tE (X.ci H0 EX) (mBl m) σ H fun x H' => ∃ k, x = .bl k ∧ Q k H' := by
  obtain ⟨γ, ρ, s, r, g⟩ := q
  refine ⟨γ, ρ, s, r, ?_⟩
  have g1 : Goes X.K X.mg EX γ H (m ρ s) fun b _ H' _ => Q b H' := g
  show Goes X.K X.mg EX γ H ((m ρ >>= fun b => pure (D.bl b)) s) fun d _ H' γ' => ∀ v, Rep X.K γ' v d → ∃ k, v = .bl k ∧ Q k H'
  cases e : m ρ s with
  | ok b s' =>
    rw [e] at g1
    rw [bnd_ok e]
    exact fun H' γ' x gw v hv => by cases hv; exact ⟨b, rfl, g1 H' γ' x gw⟩
  | exc c x s' =>
    rw [e] at g1
    rw [bnd_exc e]
    exact g1
  | stuck =>
    rw [e] at g1
    exact g1.elim
theorem pt_dcmp (T : StX X c) {op : CmpOp} {a b : Expr} {ma mb : Env → M D} {pos : Pos} (ha : PE X a (tO (X.ci H0 EX) ma)) (hb : PE X b (tO (X.ci H0 EX) mb)) (hs : noSet b = true) : PT X (.Compare a [op] [b] pos) (tB (X.ci H0 EX) (mCmpB op ma mb)) :=
  (pt_cmpR (op_dCmp op (by have := T.hu; omega)) ha hb (behind_no hs)).weak fun σ H Q q => cmp_rd T (tB_of_tE q)
end
end RS

namespace RS
open PySem PySem.Spec PyProof.Rows L2

/-- if by a Bool -/
def mIf {α : Type} (t : Env → M Bool) (a b : Env → M α) : Env → M α := fun ρ => t ρ >>= fun k => if k then a ρ else b ρ
def mAndB (a b : Env → M Bool) : Env → M Bool := mIf a b fun _ => pure false
def mOrB (a b : Env → M Bool) : Env → M Bool := mIf a (fun _ => pure true) b
def mNotB (a : Env → M Bool) : Env → M Bool := fun ρ => a ρ >>= fun k => pure (!k)
/-- a op1 b op2 c -/
def mChain (op op' : CmpOp) (a b e : Env → M D) : Env → M Bool := fun ρ => a ρ >>= fun x => b ρ >>= fun y => M.opt (dCmp op x y) >>= fun k => if k then e ρ >>= fun z => M.opt (dCmp op' y z) else pure false
theorem mBl_if {t a b : Env → M Bool} : mBl (mIf t a b) = mIf t (mBl a) (mBl b) := by
  funext ρ
  unfold mBl mIf
  rw [M.assoc]
  congr 1
  funext k
  cases k <;> rfl
theorem if_ok {α : Type} {k : Bool} {m : α} {n : α} : (if k = true then m else n) = (if k then m else n) := rfl
section
variable {X : Cx} {c : Ctx} {H0 : Hp} {EX : XK}
theorem tB.pure {b : Bool} {σ : L2.St} {H : Hp} {Q : Bool → Hp → Prop} (q : tB (X.ci H0 EX) (fun _ => Pure.pure b) σ H Q) : Q b H := by
  obtain ⟨γ, ρ, s, r, g⟩ := q
  exact Goes.pure (K := X.K) (mg := X.mg) (EX := EX) (P := fun b _ H' _ => Q b H') g r.g
/-- from a state -/
theorem tE.at {m : Env → M D} {σ : L2.St} {H : Hp} {γ : Gh} {ρ : Env} {s : DS} {Q : VK} {c : CxI} (r : SR c.K c.H0 σ H γ ρ s) (g : Goes c.K c.mg c.EX γ H (m ρ s) fun d _ H' γ' => ∀ v, Rep c.K γ' v d → Q v H') : tE c m σ H Q := ⟨γ, ρ, s, r, g⟩
theorem tO.at {m : Env → M D} {σ : L2.St} {H : Hp} {γ : Gh} {ρ : Env} {s : DS} {Q : VK} {c : CxI} (r : SR c.K c.H0 σ H γ ρ s) (g : Goes c.K c.mg c.EX γ H (m ρ s) fun d _ H' γ' => ∀ v, RepL c.K H' γ' v d → Q v H') : tO c m σ H Q := ⟨γ, ρ, s, r, g⟩
theorem tB.at {m : Env → M Bool} {σ : L2.St} {H : Hp} {γ : Gh} {ρ : Env} {s : DS} {Q : Bool → Hp → Prop} {c : CxI} (r : SR c.K c.H0 σ H γ ρ s) (g : Goes c.K c.mg c.EX γ H (m ρ s) fun b _ H' _ => Q b H') : tB c m σ H Q := ⟨γ, ρ, s, r, g⟩
theorem pe_difExp (T : StX X c) {t a b : Expr} {mt : Env → M Bool} {ma mb : Env → M D} {pos : Pos} (ht : PT X t (tB (X.ci H0 EX) mt)) (ha : PE X a (tE (X.ci H0 EX) ma)) (hb : PE X b (tE (X.ci H0 EX) mb)) : PE X (.IfExp t a b pos) (tE (X.ci H0 EX) (mIf mt ma mb)) := by
  refine (pe_ifExp ht ha hb).weak fun σ H Q q => ?_
  obtain ⟨γ, ρ, s, r, g⟩ := q
  refine tB.then (c := X.ci H0 EX) r g fun k s1 H1 γ1 r1 _ g1 => ?_
  cases k with
  | true => exact tE.at (c := X.ci H0 EX) r1 g1
  | false => exact tE.at (c := X.ci H0 EX) r1 g1
/-- and, or, not as tests -/
theorem pw_dand1 {a : Expr} {ma : Env → M Bool} {pos : Pos} (ha : PT X a (tB (X.ci H0 EX) ma)) : PW X (.BoolOp .And [a] pos) (tB (X.ci H0 EX) ma) := pw_and1 ha
theorem pw_dor1 {a : Expr} {ma : Env → M Bool} {pos : Pos} (ha : PT X a (tB (X.ci H0 EX) ma)) : PW X (.BoolOp .Or [a] pos) (tB (X.ci H0 EX) ma) := pw_or1 ha
theorem pw_dand {a b : Expr} {rest : List Expr} {ma mb : Env → M Bool} {pos : Pos} (ha : PT X a (tB (X.ci H0 EX) ma)) (hb : PW X (.BoolOp .And (b :: rest) pos) (tB (X.ci H0 EX) mb)) : PW X (.BoolOp .And (a :: b :: rest) pos) (tB (X.ci H0 EX) (mAndB ma mb)) := by
  refine (pw_and ha hb).weak fun σ H Q q => ?_
  obtain ⟨γ, ρ, s, r, g⟩ := q
  refine tB.then (c := X.ci H0 EX) r g fun k s1 H1 γ1 r1 _ g1 => ?_
  cases k with
  | true => exact tB.at (c := X.ci H0 EX) r1 g1
  | false => exact Goes.pure (P := fun b _ H' _ => Q b H') g1 r1.g
theorem pw_dor {a b : Expr} {rest : List Expr} {ma mb : Env → M Bool} {pos : Pos} (ha : PT X a (tB (X.ci H0 EX) ma)) (hb : PW X (.BoolOp .Or (b :: rest) pos) (tB (X.ci H0 EX) mb)) : PW X (.BoolOp .Or (a :: b :: rest) pos) (tB (X.ci H0 EX) (mOrB ma mb)) := by
  refine (pw_or ha hb).weak fun σ H Q q => ?_
  obtain ⟨γ, ρ, s, r, g⟩ := q
  refine tB.then (c := X.ci H0 EX) r g fun k s1 H1 γ1 r1 _ g1 => ?_
  cases k with
  | false => exact tB.at (c := X.ci H0 EX) r1 g1
  | true => exact Goes.pure (P := fun b _ H' _ => Q b H') g1 r1.g
theorem pt_dnot {a : Expr} {ma : Env → M Bool} {pos : Pos} (ha : PT X a (tB (X.ci H0 EX) ma)) : PT X (.UnaryOp .Not a pos) (tB (X.ci H0 EX) (mNotB ma)) := by
  refine (pt_not ha).weak fun σ H Q q => ?_
  obtain ⟨γ, ρ, s, r, g⟩ := q
  refine tB.then (c := X.ci H0 EX) r g fun k s1 H1 γ1 r1 _ g1 => ?_
  exact Goes.pure (P := fun b _ H' _ => Q b H') g1 r1.g
/-- .. as values, of bools -/
theorem bl_rd {m : Env → M Bool} {σ : L2.St} {H : Hp} {Q : VK} (q : tE (X.ci H0 EX) (mBl m) σ H Q) : tB (X.ci H0 EX) m σ H fun b H' => Q (.bl b) H' := by
  obtain ⟨γ, ρ, s, r, g⟩ := q
  refine ⟨γ, ρ, s, r, Goes.split (P := fun d _ H' γ' => ∀ v, Rep X.K γ' v d → Q v H') g fun b s' H' γ' x gw k => ?_⟩
  exact k H' γ' x gw _ (.bl b)
theorem pe_done {op} {a : Expr} {ma : Env → M D} {pos : Pos} (ha : PE X a (tE (X.ci H0 EX) ma)) : PE X (.BoolOp op [a] pos) (tE (X.ci H0 EX) ma) := pe_one ha
/-- a value that is a bool, by the test's run: what a test reads is a value -/
def mAsB (m : Env → M D) : Env → M Bool := fun ρ => m ρ >>= fun d => match d with
  | .bl b => pure b
  | _ => M.stop
theorem asB_rd {m : Env → M D} {σ : L2.St} {H : Hp} {γ : Gh} {ρ : Env} {s : DS} {α : Type} {f : Bool → M α} {P : α → DS → Hp → Gh → Prop} {c : CxI} (r : SR c.K c.H0 σ H γ ρ s) (g : Goes c.K c.mg c.EX γ H ((mAsB m ρ >>= f) s) P) {Q : VK}
    (k : ∀ b s1 H1 γ1, SR c.K c.H0 σ H1 γ1 ρ s1 → Step γ H γ1 H1 → Goes c.K c.mg c.EX γ1 H1 (f b s1) P → Q (.bl b) H1) : tE c m σ H Q := by
  have g' : Goes c.K c.mg c.EX γ H ((m ρ >>= fun d => (match d with | .bl b => pure b | _ => M.stop : M Bool) >>= f) s) P := by
    rw [← M.assoc]; exact g
  refine tE.then (c := c) r g' fun v d s1 H1 γ1 r1 x hv g1 => ?_
  cases d with
  | bl b =>
    cases hv
    exact k b s1 H1 γ1 r1 x g1
  | _ => exact (goes_stop (α := Bool) (P := fun _ _ _ _ => True) (show Goes c.K c.mg c.EX γ1 H1 ((M.stop : M Bool) s1) _ from g1)).elim
theorem pe_dand {a b : Expr} {rest : List Expr} {ma mb : Env → M D} {pos : Pos} (ha : PE X a (tE (X.ci H0 EX) ma)) (hb : PE X (.BoolOp .And (b :: rest) pos) (tE (X.ci H0 EX) mb)) : PE X (.BoolOp .And (a :: b :: rest) pos) (tE (X.ci H0 EX) (mIf (mAsB ma) mb fun _ => pure (.bl false))) := by
  refine (pe_and ha hb).weak fun σ H Q q => ?_
  obtain ⟨γ, ρ, s, r, g⟩ := q
  refine asB_rd (c := X.ci H0 EX) r g fun k s1 H1 γ1 r1 _ g1 => ⟨k, rfl, ?_⟩
  cases k with
  | true => exact tE.at (c := X.ci H0 EX) r1 g1
  | false => exact Goes.pure (P := fun d _ H' γ' => ∀ v, Rep X.K γ' v d → Q v H') g1 r1.g _ (.bl _)
theorem pe_dor {a b : Expr} {rest : List Expr} {ma mb : Env → M D} {pos : Pos} (ha : PE X a (tE (X.ci H0 EX) ma)) (hb : PE X (.BoolOp .Or (b :: rest) pos) (tE (X.ci H0 EX) mb)) : PE X (.BoolOp .Or (a :: b :: rest) pos) (tE (X.ci H0 EX) (mIf (mAsB ma) (fun _ => pure (.bl true)) mb)) := by
  refine (pe_or ha hb).weak fun σ H Q q => ?_
  obtain ⟨γ, ρ, s, r, g⟩ := q
  refine asB_rd (c := X.ci H0 EX) r g fun k s1 H1 γ1 r1 _ g1 => ⟨k, rfl, ?_⟩
  cases k with
  | false => exact tE.at (c := X.ci H0 EX) r1 g1
  | true => exact Goes.pure (P := fun d _ H' γ' => ∀ v, Rep X.K γ' v d → Q v H') g1 r1.g _ (.bl _)
theorem pe_dnot {a : Expr} {ma : Env → M D} {pos : Pos} (ha : PE X a (tE (X.ci H0 EX) ma)) : PE X (.UnaryOp .Not a pos) (tE (X.ci H0 EX) (mBl (mNotB (mAsB ma)))) := by
  refine (pe_not ha).weak fun σ H Q q => ?_
  obtain ⟨γ, ρ, s, r, g⟩ := q
  have g' : Goes X.K X.mg EX γ H ((mAsB ma ρ >>= fun k => pure (D.bl (!k))) s) fun d _ H' γ' => ∀ v, Rep X.K γ' v d → Q v H' := by
    have e : mBl (mNotB (mAsB ma)) ρ = (mAsB ma ρ >>= fun k => pure (D.bl (!k))) := by
      unfold mBl mNotB
      rw [M.assoc]
      congr 1
    rw [← e]; exact g
  refine asB_rd (c := X.ci H0 EX) r g' fun k s1 H1 γ1 r1 _ g1 => ⟨k, rfl, ?_⟩
  exact Goes.pure (P := fun d _ H' γ' => ∀ v, Rep X.K γ' v d → Q v H') g1 r1.g _ (.bl _)
/-- a chain -/
theorem chain_rd (T : StX X c) {op op' : CmpOp} {ma mb me : Env → M D} {σ : L2.St} {H : Hp} {Q : VK} (q : tB (X.ci H0 EX) (mChain op op' ma mb me) σ H fun b H' => Q (.bl b) H') :
    tChain (rc2 X.K (dCmp op)) (rc2 X.K (dCmp op')) (tO (X.ci H0 EX) ma) (tO (X.ci H0 EX) mb) (tO (X.ci H0 EX) me) σ H Q := by
  obtain ⟨γ, ρ, s, r, g⟩ := q
  refine tO.then (c := X.ci H0 EX) r g fun x d s1 H1 γ1 r1 _ hx g1 => tO.then (c := X.ci H0 EX) r1 g1 fun y e s2 H2 γ2 r2 x2 hy g2 => ?_
  obtain ⟨z, e1, k⟩ := (g2.bind).optE
  have k1 := k H2 γ2 (Step.refl _ _) r2.g
  refine ⟨γ2, s2, d, e, z, r2.g, hx.step x2, hy, e1, z, rfl, ?_⟩
  cases z with
  | false => exact Goes.pure (P := fun b _ H' _ => Q (.bl b) H') k1 r2.g
  | true =>
    refine tO.then (c := X.ci H0 EX) r2 k1 fun w f s3 H3 γ3 r3 x3 hw g3 => ?_
    obtain ⟨b, e2, kb⟩ := g3.optE
    exact ⟨γ3, s3, e, f, b, r3.g, hy.step x3, hw, e2, kb H3 γ3 (Step.refl _ _) r3.g⟩
theorem last_no {op op' : CmpOp} {b e : Expr} (h : noSet e = true) : lastMarks [op, op'] [b, e] = false := by
  show behindInMarks op' e = false
  exact behind_no h
theorem pe_dchain (T : StX X c) {op op' : CmpOp} {a b e : Expr} {ma mb me : Env → M D} {pos : Pos} (ha : PE X a (tO (X.ci H0 EX) ma)) (hb : PE X b (tO (X.ci H0 EX) mb)) (he : PE X e (tO (X.ci H0 EX) me)) (hs : noSet e = true) :
    PE X (.Compare a [op, op'] [b, e] pos) (tE (X.ci H0 EX) (mBl (mChain op op' ma mb me))) := by
  have hu := T.hu
  exact (pe_chain (op_dCmp op (by omega)) (op_dCmp op' (by omega)) ha hb he (last_no hs)).weak fun σ H Q q => chain_rd T (bl_rd q)
theorem pt_dchain (T : StX X c) {op op' : CmpOp} {a b e : Expr} {ma mb me : Env → M D} {pos : Pos} (ha : PE X a (tO (X.ci H0 EX) ma)) (hb : PE X b (tO (X.ci H0 EX) mb)) (he : PE X e (tO (X.ci H0 EX) me)) (hs : noSet e = true) :
    PT X (.Compare a [op, op'] [b, e] pos) (tB (X.ci H0 EX) (mChain op op' ma mb me)) := by
  have hu := T.hu
  exact (pt_chain (op_dCmp op (by omega)) (op_dCmp op' (by omega)) ha hb he (last_no hs)).weak fun σ H Q q => chain_rd T (tB.mono q fun b H' h => ⟨b, rfl, h⟩)

/-! ### truth -/
def dTru : D → Option Bool
  | .non => some false
  | .bl b => some b
  | .int i => some (i != 0)
  | .tup xs => some (!xs.isEmpty)
  | .lst xs => some (!xs.isEmpty)
  | _ => none
def mTru (m : Env → M D) : Env → M Bool := fun ρ => m ρ >>= fun d => M.opt (dTru d)
/-- an expression that isTrue asks by its value alone -/
def plainT : Expr → Bool
  | .UnaryOp .Not _ _ => false
  | .BoolOp .. => false
  | .IfExp .. => false
  | .Compare .. => false
  | _ => true
theorem plainT_ok {a : Expr} {env : PySem.Env} (h : plainT a = true) : ∀ whole, isTrue a env whole = (do let v ← whole; standAt a.pos; holding [v] (truthy v)) := by
  intro whole
  cases a with
  | UnaryOp op x p => cases op <;> first | rfl | cases h
  | BoolOp _ _ _ => cases h
  | IfExp _ _ _ _ => cases h
  | Compare _ _ _ _ => cases h
  | _ => rfl
theorem isEmpty_rep {K : PySem.W.Frag} {γ : Gh} {vs : List V} {ds : List D} (h : RepAll K γ vs ds) : ds.isEmpty = vs.isEmpty := by
  cases h <;> rfl
theorem pt_dtru (T : StX X c) {a : Expr} {ma : Env → M D} (ha : PE X a (tO (X.ci H0 EX) ma)) (hp : plainT a = true) : PT X a (tB (X.ci H0 EX) (mTru ma)) := by
  refine (pt_truth ha (plainT_ok hp)).weak fun σ H Q q => ?_
  obtain ⟨γ, ρ, s, r, g⟩ := q
  refine tO.then (c := X.ci H0 EX) r g fun x d s1 H1 γ1 r1 _ hx g1 => ?_
  obtain ⟨b, e1, k⟩ := g1.optE
  refine ⟨b, ?_, k H1 γ1 (Step.refl _ _) r1.g⟩
  unfold dTru at e1
  split at e1
  · cases hx.non; cases e1; exact rfl
  · cases hx.bl; cases e1; exact rfl
  · cases hx.int; cases e1; exact rfl
  · obtain ⟨p, vs, rfl, hp, ra⟩ := hx.tup r1.g
    cases e1
    exact .inr (.inl ⟨vs, hp, by rw [isEmpty_rep ra]⟩)
  · obtain ⟨p, vs, rfl, hp, ra⟩ := hx.lst r1.g
    cases e1
    exact .inl ⟨vs, SqL.of hp, by rw [isEmpty_rep ra]⟩
  · cases e1
end
end RS

namespace RS
open PySem PySem.Spec PyProof.Rows L2

/-! ### argument lists, displays -/
def mNil : Env → M (List D) := fun _ => pure []
def mCons (a : Env → M D) (r : Env → M (List D)) : Env → M (List D) := fun ρ => a ρ >>= fun x => r ρ >>= fun xs => pure (x :: xs)
def isStar : Expr → Bool
  | .Starred .. => true
  | _ => false
theorem star_no {e : Expr} {es : List Expr} {env : PySem.Env} (h : isStar e = false) : starEach (e :: es) env = (false, eval e env) :: starEach es env := by
  cases e <;> first | rfl | cases h
def noStars (es : List Expr) : Bool := es.all fun e => !isStar e
theorem stars_no {env : PySem.Env} {pos : Pos} : ∀ {es : List Expr}, noStars es = true → (backTo pos (starEach es env)).any (·.1) = false
  | [], _ => rfl
  | e :: es, h => by
    have h' : ((!isStar e) && noStars es) = true := h
    obtain ⟨h1, h2⟩ := Bool.and_eq_true_iff.mp h'
    rw [star_no (by simpa using h1)]
    show (false || (backTo pos (starEach es env)).any (·.1)) = false
    rw [stars_no h2]; rfl
def mTup (m : Env → M (List D)) : Env → M D := fun ρ => m ρ >>= fun xs => if xs.length ≤ lim then pure (.tup xs) else M.stop
def mLst (m : Env → M (List D)) : Env → M (List D) := fun ρ => m ρ >>= fun xs => if xs.length ≤ lim then pure xs else M.stop
section
variable {X : Cx} {c : Ctx} {H0 : Hp} {EX : XK}
theorem pa_dnil : PA X [] (tEs (X.ci H0 EX) mNil) := pa_nil.weak fun σ H Q q => by
  obtain ⟨γ, ρ, s, r, g⟩ := q
  exact Goes.pure (P := fun ds _ H' γ' => ∀ vs, RepAll X.K γ' vs ds → Q vs H') g r.g [] .nil
theorem pa_onil : PA X [] (tOs (X.ci H0 EX) mNil) := pa_nil.weak fun σ H Q q => by
  obtain ⟨γ, ρ, s, r, g⟩ := q
  exact Goes.pure (P := fun ds _ H' γ' => ∀ vs, RepLs X.K H' γ' vs ds → Q vs H') g r.g [] .nil
theorem tEs.at {m : Env → M (List D)} {σ : L2.St} {H : Hp} {γ : Gh} {ρ : Env} {s : DS} {Q : List V → Hp → Prop} {c : CxI} (r : SR c.K c.H0 σ H γ ρ s) (g : Goes c.K c.mg c.EX γ H (m ρ s) fun d _ H' γ' => ∀ v, RepAll c.K γ' v d → Q v H') : tEs c m σ H Q := ⟨γ, ρ, s, r, g⟩
theorem pa_dcons {e : Expr} {es : List Expr} {me : Env → M D} {ms : Env → M (List D)} (he : PE X e (tE (X.ci H0 EX) me)) (hs : PA X es (tEs (X.ci H0 EX) ms)) (hn : isStar e = false) : PA X (e :: es) (tEs (X.ci H0 EX) (mCons me ms)) := by
  refine (pa_cons he hs (star_no hn)).weak fun σ H Q q => ?_
  obtain ⟨γ, ρ, s, r, g⟩ := q
  refine tE.then (c := X.ci H0 EX) r g fun v d s1 H1 γ1 r1 x1 hv g1 => tEs.then (c := X.ci H0 EX) r1 g1 fun vs ds s2 H2 γ2 r2 x2 hvs g2 => ?_
  exact Goes.pure (P := fun ds _ H' γ' => ∀ vs, RepAll X.K γ' vs ds → Q vs H') g2 r2.g _ (.cons (hv.le x2.g) hvs)
theorem pa_ocons {e : Expr} {es : List Expr} {me : Env → M D} {ms : Env → M (List D)} (he : PE X e (tO (X.ci H0 EX) me)) (hs : PA X es (tOs (X.ci H0 EX) ms)) (hn : isStar e = false) : PA X (e :: es) (tOs (X.ci H0 EX) (mCons me ms)) := by
  refine (pa_cons he hs (star_no hn)).weak fun σ H Q q => ?_
  obtain ⟨γ, ρ, s, r, g⟩ := q
  refine tO.then (c := X.ci H0 EX) r g fun v d s1 H1 γ1 r1 x1 hv g1 => tOs.then (c := X.ci H0 EX) r1 g1 fun vs ds s2 H2 γ2 r2 x2 hvs g2 => ?_
  exact Goes.pure (P := fun ds _ H' γ' => ∀ vs, RepLs X.K H' γ' vs ds → Q vs H') g2 r2.g _ (.cons (hv.step x2) hvs)
theorem pe_dtup {es : List Expr} {m : Env → M (List D)} {x1} {pos : Pos} (h : PA X es (tEs (X.ci H0 EX) m)) : PE X (.Tuple es x1 pos) (tE (X.ci H0 EX) (mTup m)) := by
  refine (pe_tup h).weak fun σ H Q q => ?_
  obtain ⟨γ, ρ, s, r, g⟩ := q
  refine tEs.then (c := X.ci H0 EX) r g fun vs ds s1 H1 γ1 r1 x1 hv g1 => ?_
  by_cases hl : ds.length ≤ lim
  · rw [if_pos hl] at g1
    exact ⟨by rw [hv.length, ← lim_eq]; exact hl, put_tup r1.g (fun H' γ' x g w hw => (show ∀ H' γ', Step γ1 H1 γ' H' → GWf H' γ' s1 → ∀ v, Rep X.K γ' v (.tup ds) → Q v H' from g1) H' γ' x g w hw) hv⟩
  · rw [if_neg hl] at g1; exact (goes_stop g1).elim
/-- a new list: from a place p that was free -/
theorem put_new {K : PySem.W.Frag} {H H1 : Hp} {γ γ1 : Gh} {s : DS} {Q : VK} {vs : List V} {ds : List D} (g : GWf H1 γ1 s) (x : Step γ H γ1 H1)
    (hq : ∀ H' γ', Step γ1 H1 γ' H' → GWf H' γ' s → ∀ p vs, H' p = some (.lst vs) → RepAll K γ' vs ds → γ'.F p = none → H p = none → OffDk γ' p → Q (.ref p) H') (ra : RepAll K γ1 vs ds) : ∀ p, H1 p = none → Q (.ref p) (upd H1 p (.lst vs)) := fun p hp => by
  obtain ⟨g2, x2⟩ := Step.add (o := .lst vs) g hp
  refine hq _ _ x2 g2 p vs upd_same ra ?_ (Classical.byContradiction fun w => x.dom p w hp) fun z e => ?_
  · cases q : γ1.F p with
    | none => rfl
    | some u => rw [g.le _ _ q] at hp; cases hp
  · obtain ⟨_, _, _, k, _, e2, e3⟩ := g.dk z.1 z.2 e
    exact ⟨fun w => (by rw [w, e2] at hp; cases hp), fun w => (by rw [w, e3] at hp; cases hp)⟩
theorem pe_dlst {es : List Expr} {m : Env → M (List D)} {pos : Pos} (h : PA X es (tEs (X.ci H0 EX) m)) : PE X (.List es pos) (tF (X.ci H0 EX) (mLst m)) := by
  refine (pe_lst h).weak fun σ H Q q => ?_
  obtain ⟨γ, ρ, s, r, g⟩ := q
  refine tEs.then (c := X.ci H0 EX) r g fun vs ds s1 H1 γ1 r1 x1 hv g1 => ?_
  by_cases hl : ds.length ≤ lim
  · rw [if_pos hl] at g1
    exact ⟨by rw [hv.length, ← lim_eq]; exact hl, put_new r1.g x1 g1 hv⟩
  · rw [if_neg hl] at g1; exact (goes_stop g1).elim

/-! ### subscripts -/
def keyOf : D → Option Key
  | .int i => some (.inl i)
  | .str x => some (.inr x)
  | _ => none
def dLook (kvs : List (D × D)) (k : Key) : Option D := (kvs.find? fun p => match keyOf p.1 with
  | some j => decide (j = k)
  | none => false).map (·.2)
theorem keyOf_keyD (k : Key) : keyOf (keyD k) = some k := by cases k <;> rfl
theorem look_rep {K : PySem.W.Frag} {γ : Gh} {k : Key} : ∀ {kvs : List (Key × V)} {ds : List (D × D)}, RepKv K γ kvs ds → match dLook ds k with
    | some d => ∃ v, valV kvs k = some v ∧ Rep K γ v d
    | none => valV kvs k = none
  | _, _, .nil => rfl
  | _, _, .cons (k := j) (v := v) (d := d) (vs := vs) (ds := ds) r t => by
    have ih := look_rep (k := k) t
    unfold dLook at ih ⊢
    rw [List.find?_cons, keyOf_keyD]
    by_cases e : j = k
    · simp only [e, decide_true, Option.map_some]
      exact ⟨v, valV_pos rfl, r⟩
    · simp only [e, decide_false]
      cases q : (List.find? (fun p => match keyOf p.1 with | some j => decide (j = k) | none => false) ds) with
      | none =>
        rw [q] at ih
        simp only [Option.map_none] at ih ⊢
        rw [valV_neg e]; exact ih
      | some p =>
        rw [q] at ih
        simp only [Option.map_some] at ih ⊢
        rw [valV_neg e]; exact ih
def dIx : D → D → Option D
  | .lst xs, .int i => atI xs i
  | .tup xs, .int i => atI xs i
  | .str z, .int i => if z.length ≤ lim then (atI z.cps.toList i).map fun c => .str ⟨#[c]⟩ else none
  | .dic kvs, k => (keyOf k).bind (dLook kvs)
  | _, _ => none
theorem RepAll.atI {K : PySem.W.Frag} {γ : Gh} {vs : List V} {ds : List D} {i : Int} {d : D} (h : RepAll K γ vs ds) (e : L2.atI ds i = some d) : ∃ v, L2.atI vs i = some v ∧ Rep K γ v d := by
  unfold L2.atI at e ⊢
  rw [h.length]
  cases q : ixN ds.length i with
  | none => rw [q] at e; cases e
  | some j =>
    rw [q] at e
    exact h.get e
theorem key_rep {K : PySem.W.Frag} {H : Hp} {γ : Gh} {y : V} {e : D} {k : Key} (hy : RepL K H γ y e) (h : keyOf e = some k) : y = kV k := by
  unfold keyOf at h
  split at h
  · cases hy.int; cases h; rfl
  · cases hy.str; cases h; rfl
  · cases h
theorem ix_dIx (T : StX X c) : IxR X (r2 X.K dIx) := by
  intro value slice pins s σ H x y v u Q I rx ry h hs
  obtain ⟨γ, sd, d, e, r, g, hx, hy, ho, q⟩ := h
  unfold dIx at ho
  split at ho
  · rename_i xs i
    cases hy.int
    obtain ⟨p, vs, rfl, hp, ra⟩ := hx.lst g
    obtain ⟨w, h1, h2⟩ := ra.atI ho
    exact ix_list value slice pins s σ H _ _ v u Q I rx ry ⟨p, vs, i, w, rfl, rfl, SqL.of hp, h1, q _ _ (Step.refl _ _) g _ h2⟩ hs
  · rename_i xs i
    cases hy.int
    obtain ⟨p, vs, rfl, hp, ra⟩ := hx.tup g
    obtain ⟨w, h1, h2⟩ := ra.atI ho
    exact ix_tup value slice pins s σ H _ _ v u Q I rx ry ⟨p, vs, i, w, rfl, rfl, hp, h1, q _ _ (Step.refl _ _) g _ h2⟩ hs
  · rename_i z i
    split at ho
    · rename_i hl
      cases hy.int; cases hx.str
      obtain ⟨ch, h1, h2⟩ := Option.map_eq_some_iff.mp ho
      cases h2
      exact ix_str value slice pins s σ H _ _ v u Q I rx ry ⟨z, i, ch, rfl, rfl, by rw [← lim_eq]; exact hl, h1, q _ _ (Step.refl _ _) g _ (.str _)⟩ hs
    · cases ho
  · rename_i kvs k
    obtain ⟨key, h1, h2⟩ := Option.bind_eq_some_iff.mp ho
    obtain ⟨p, vs, rfl, hp, ra⟩ := hx.dic g
    have hk := key_rep hy h1
    subst hk
    have hl := look_rep (k := key) ra
    rw [h2] at hl
    obtain ⟨w, h3, h4⟩ := hl
    cases rx
    have gd : DGet H p (kV key) (some w) := by rw [← h3]; exact .inl ⟨_, _, hp, rfl, rfl⟩
    exact tail_any (dict_typeIs I gd) PySem.F.slot_dict_getitem.lookup (d_getItem (by have := T.hu; omega) I gd ry fun w' s' I' rw' => ⟨w, H, I', rw', q _ _ (Step.refl _ _) g _ h4⟩) hs
  · cases ho
def isSl : Expr → Bool
  | .Slice .. => true
  | _ => false
theorem plainIx_of {b : Expr} (h : isSl b = false) : PlainIx b := by
  intro o i
  cases b <;> first | rfl | cases h
def mIx (a b : Env → M D) : Env → M D := fun ρ => a ρ >>= fun x => b ρ >>= fun y => M.opt (dIx x y)
theorem pe_dix (T : StX X c) {a b : Expr} {ma mb : Env → M D} {pos : Pos} (ha : PE X a (tO (X.ci H0 EX) ma)) (hb : PE X b (tO (X.ci H0 EX) mb)) (hs : isSl b = false) : PE X (.Subscript a b pos) (tE (X.ci H0 EX) (mIx ma mb)) := by
  refine (pe_ix (ix_dIx T) ha hb (plainIx_of hs)).weak fun σ H Q q => ?_
  obtain ⟨γ, ρ, s, r, g⟩ := q
  refine tO.then (c := X.ci H0 EX) r g fun x d s1 H1 γ1 r1 _ hx g1 => tO.then (c := X.ci H0 EX) r1 g1 fun y e s2 H2 γ2 r2 x2 hy g2 => ?_
  obtain ⟨z, e1, k⟩ := g2.optE
  exact ⟨γ2, s2, d, e, z, r2.g, hx.step x2, hy, e1, k⟩

/-! ### slices -/
def cutD (xs : List D) (lo hi : Option Int) : List D := (xs.drop (HT.sIx xs.length 0 lo)).take (HT.sIx xs.length xs.length hi - HT.sIx xs.length 0 lo)
def dSl : D → Option Int → Option Int → Option D
  | .lst xs, lo, hi => some (.lst (cutD xs lo hi))
  | .tup xs, lo, hi => some (.tup (cutD xs lo hi))
  | .scr ns, lo, hi => some (.lst (cutD (ns.map .int) lo hi))
  | .str z, lo, hi => if z.length ≤ lim then some (.str (cutS z lo hi)) else none
  | _, _, _ => none
theorem RepAll.cut {K : PySem.W.Frag} {γ : Gh} {vs : List V} {ds : List D} {lo hi : Option Int} (h : RepAll K γ vs ds) : RepAll K γ (cutV vs lo hi) (cutD ds lo hi) := by
  unfold cutV cutD
  rw [h.length]
  exact (h.drop _).take _
def rSlD (K : PySem.W.Frag) : V → Option Int → Option Int → Hp → VK → Prop := fun x lo hi H Q => ∃ γ s d r, GWf H γ s ∧ RepL K H γ x d ∧ dSl d lo hi = some r ∧ ∀ H' γ', Step γ H γ' H' → GWf H' γ' s → ∀ w, Rep K γ' w r → Q w H'
theorem cut_whole {xs : List D} {lo hi : Option Int} (h : HT.sIx xs.length 0 lo = 0 ∧ HT.sIx xs.length xs.length hi = xs.length) : cutD xs lo hi = xs := by
  unfold cutD
  rw [h.1, h.2, List.drop_zero, Nat.sub_zero, List.take_length]
theorem sl_d : SlR X (rSlD X.K) := by
  intro pins s σ H x v vl vu lo hi sl Q I rx hs pl pu h
  obtain ⟨γ, sd, d, r, g, hx, ho, q⟩ := h
  unfold dSl at ho
  split at ho
  · rename_i xs
    cases ho
    obtain ⟨p, vs, rfl, hp, ra⟩ := hx.lst g
    exact sl_list pins s σ H _ v vl vu lo hi sl Q I rx hs pl pu ⟨p, vs, rfl, SqL.of hp, put_lst g q ra.cut⟩
  · rename_i xs
    cases ho
    obtain ⟨p, vs, rfl, hp, ra⟩ := hx.tup g
    refine sl_tupA pins s σ H _ v vl vu lo hi sl Q I rx hs pl pu ⟨p, vs, rfl, hp, fun w => ?_, fun _ => put_tup g q ra.cut⟩
    rw [ra.length] at w
    refine q _ _ (Step.refl _ _) g _ ?_
    rw [cut_whole w]
    exact hx.repT
  · rename_i ns
    cases ho
    obtain ⟨p, rfl, hp⟩ := hx.scr g
    exact sl_list pins s σ H _ v vl vu lo hi sl Q I rx hs pl pu ⟨p, _, rfl, hp, put_lst g q RepAll.ints.cut⟩
  · rename_i z
    split at ho
    · rename_i hl
      cases ho
      cases hx.str
      exact sl_str pins s σ H _ v vl vu lo hi sl Q I rx hs pl pu ⟨z, rfl, by rw [← lim_eq]; exact hl, q _ _ (Step.refl _ _) g _ (.str _)⟩
    · cases ho
  · cases ho
/-- a part of a slice -/
def tP (c : CxI) (m : Env → M (Option Int)) : TO := fun σ H Q => ∃ γ ρ s, SR c.K c.H0 σ H γ ρ s ∧ Goes c.K c.mg c.EX γ H (m ρ s) fun o _ H' _ => Q o H'
def mNoP : Env → M (Option Int) := fun _ => pure none
def dInt : D → Option Int
  | .int i => some i
  | _ => none
def mP (m : Env → M D) : Env → M (Option Int) := fun ρ => m ρ >>= fun d => M.opt ((dInt d).map some)
theorem PO.weak {e : Option Expr} {t t' : TO} (h : PO X e t) (w : ∀ σ H Q, t' σ H Q → t σ H Q) : PO X e t' := ⟨fun pins s σ H Q I q => h.run pins s σ H Q I (w _ _ _ q)⟩
theorem po_dnone : PO X none (tP (X.ci H0 EX) mNoP) := PO.weak po_none fun σ H Q q => by
  obtain ⟨γ, ρ, s, r, g⟩ := q
  exact Goes.pure (P := fun o _ H' _ => Q o H') g r.g
theorem po_dsome {e : Expr} {m : Env → M D} (h : PE X e (tO (X.ci H0 EX) m)) : PO X (some e) (tP (X.ci H0 EX) (mP m)) := PO.weak (po_some h) fun σ H Q q => by
  obtain ⟨γ, ρ, s, r, g⟩ := q
  refine tO.then (c := X.ci H0 EX) r g fun v d s1 H1 γ1 r1 x1 hv g1 => ?_
  obtain ⟨o, e1, k⟩ := g1.optE
  obtain ⟨i, e2, rfl⟩ := Option.map_eq_some_iff.mp e1
  unfold dInt at e2
  split at e2
  · cases e2; cases hv.int
    exact ⟨_, rfl, k _ _ (Step.refl _ _) r1.g⟩
  · cases e2
def mSl (a : Env → M D) (lo hi : Env → M (Option Int)) : Env → M D := fun ρ => a ρ >>= fun x => lo ρ >>= fun l => hi ρ >>= fun h => M.opt (dSl x l h)
theorem tP.then {α : Type} {m : Env → M (Option Int)} {f : Option Int → M α} {P : α → DS → Hp → Gh → Prop} {c : CxI} {σ : L2.St} {H : Hp} {γ : Gh} {ρ : Env} {s : DS} (r : SR c.K c.H0 σ H γ ρ s) (h : Goes c.K c.mg c.EX γ H ((m ρ >>= f) s) P) {Q : Option Int → Hp → Prop}
    (k : ∀ b s1 H1 γ1, SR c.K c.H0 σ H1 γ1 ρ s1 → Step γ H γ1 H1 → Goes c.K c.mg c.EX γ1 H1 (f b s1) P → Q b H1) : tP c m σ H Q :=
  ⟨γ, ρ, s, r, h.bind.imp fun d s1 H1 γ1 x g q => k d s1 H1 γ1 (r.step x g) x q⟩
theorem pe_dsl {a : Expr} {lo hi : Option Expr} {ma : Env → M D} {ml mh : Env → M (Option Int)} {p2 pos : Pos} (ha : PE X a (tO (X.ci H0 EX) ma)) (hl : PO X lo (tP (X.ci H0 EX) ml)) (hh : PO X hi (tP (X.ci H0 EX) mh)) :
    PE X (.Subscript a (.Slice lo hi none p2) pos) (tE (X.ci H0 EX) (mSl ma ml mh)) := by
  refine (pe_slice sl_d ha hl hh).weak fun σ H Q q => ?_
  obtain ⟨γ, ρ, s, r, g⟩ := q
  refine tO.then (c := X.ci H0 EX) r g fun v d s1 H1 γ1 r1 x1 hv g1 => tP.then (c := X.ci H0 EX) r1 g1 fun l s2 H2 γ2 r2 x2 g2 => tP.then (c := X.ci H0 EX) r2 g2 fun h s3 H3 γ3 r3 x3 g3 => ?_
  obtain ⟨o, e1, k⟩ := g3.optE
  exact ⟨γ3, s3, d, o, r3.g, (hv.step x2).step x3, e1, k⟩
end
end RS

namespace RS
open PySem PySem.Spec PyProof.Rows L2 PySem.W
theorem reads_ints {h : Heap} : ∀ {ns : List Int} {us : List Value}, Vals (ns.map V.int) us → ∃ as, ReadsAll h us (ns.map PyData.int) as
  | [], us, r => by
    cases r
    exact ⟨_, .nil⟩
  | n :: ns, us, r => by
    cases r with
    | cons a t =>
      obtain ⟨k, rfl⟩ := a
      obtain ⟨as, z⟩ := reads_ints t
      exact ⟨_, .cons (.int _ _) z⟩
theorem depth_ints : ∀ ns : List Int, PyData.depthAll (ns.map PyData.int) ≤ 1
  | [] => by simp [PyData.depthAll]
  | n :: ns => by
    have := depth_ints ns
    simp [PyData.depthAll, PyData.depth]
    omega
theorem alike_all (ns : List Int) : AlikeAll (ns.map PyData.int) := by
  refine ⟨fun x hx y hy => ?_, fun x hx => ?_⟩
  · obtain ⟨a, _, rfl⟩ := List.mem_map.mp hx
    obtain ⟨b, _, rfl⟩ := List.mem_map.mp hy
    simp [alike]
  · obtain ⟨a, _, rfl⟩ := List.mem_map.mp hx
    exact fun e => nomatch e
theorem fold_max : ∀ (ns : List Int) (n : Int), (ns.foldl max n ∈ n :: ns) ∧ ∀ y ∈ n :: ns, y ≤ ns.foldl max n
  | [], n => by simp
  | a :: ns, n => by
    obtain ⟨h1, h2⟩ := fold_max ns (max n a)
    have h3 := h2 (max n a) List.mem_cons_self
    show (ns.foldl max (max n a) ∈ _) ∧ ∀ y ∈ n :: a :: ns, y ≤ ns.foldl max (max n a)
    refine ⟨?_, fun y hy => ?_⟩
    · rcases List.mem_cons.mp h1 with e | e
      · rw [e]
        rcases Int.le_total n a with k | k
        · simp [Int.max_eq_right k]
        · simp [Int.max_eq_left k]
      · exact List.mem_cons_of_mem _ (List.mem_cons_of_mem _ e)
    · rcases List.mem_cons.mp hy with e | e
      · subst e; omega
      · rcases List.mem_cons.mp e with e | e
        · subst e; omega
        · exact h2 y (List.mem_cons_of_mem _ e)
theorem fold_min : ∀ (ns : List Int) (n : Int), (ns.foldl min n ∈ n :: ns) ∧ ∀ y ∈ n :: ns, ns.foldl min n ≤ y
  | [], n => by simp
  | a :: ns, n => by
    obtain ⟨h1, h2⟩ := fold_min ns (min n a)
    have h3 := h2 (min n a) List.mem_cons_self
    show (ns.foldl min (min n a) ∈ _) ∧ ∀ y ∈ n :: a :: ns, ns.foldl min (min n a) ≤ y
    refine ⟨?_, fun y hy => ?_⟩
    · rcases List.mem_cons.mp h1 with e | e
      · rw [e]
        rcases Int.le_total n a with k | k
        · simp [Int.min_eq_left k]
        · simp [Int.min_eq_right k]
      · exact List.mem_cons_of_mem _ (List.mem_cons_of_mem _ e)
    · rcases List.mem_cons.mp hy with e | e
      · subst e; omega
      · rcases List.mem_cons.mp e with e | e
        · subst e; omega
        · exact h2 y (List.mem_cons_of_mem _ e)
section
variable {X : Cx}
/-- max of a tuple of ints -/
theorem cr_maxT (hc : X.calm = true) (hu : X.A.units + 64 < cLine) : CallR X (.builtin "max") (fun vs H Q => ∃ (a : Addr) (n : Int) (ns : List Int), vs = [V.ref a] ∧ SqT X.K H a ((n :: ns).map V.int) ∧ ∀ m, m ∈ n :: ns → (∀ y ∈ n :: ns, y ≤ m) → Q (.int m) H) := by
  intro pins s σ H vs us Q I r h
  obtain ⟨a, n, ns, rfl, hs, q⟩ := h
  obtain ⟨its, rv, hl, _⟩ := I.tuple hs
  rw [Vals.ref1 r]
  obtain ⟨as, ra⟩ := reads_ints (h := s.heap) rv
  have hd := depth_ints (n :: ns)
  refine max_tuple_data (x := .int n) (xs := ns.map .int) (I.ok.hd hc) hl ra (alike_all (n :: ns)) (by
    have : PyData.depthAll (.int n :: ns.map .int) ≤ 1 := hd
    omega) fun i v h' tk bs hv rd hk => ?_
  rw [maxD_ints] at rd
  cases rd
  obtain ⟨h1, h2⟩ := fold_max ns n
  exact ⟨.int _, H, I.kept hk, ⟨_, rfl⟩, q _ h1 h2⟩
/-- min of a tuple of ints -/
theorem cr_minT (hc : X.calm = true) (hu : X.A.units + 64 < cLine) : CallR X (.builtin "min") (fun vs H Q => ∃ (a : Addr) (n : Int) (ns : List Int), vs = [V.ref a] ∧ SqT X.K H a ((n :: ns).map V.int) ∧ ∀ m, m ∈ n :: ns → (∀ y ∈ n :: ns, m ≤ y) → Q (.int m) H) := by
  intro pins s σ H vs us Q I r h
  obtain ⟨a, n, ns, rfl, hs, q⟩ := h
  obtain ⟨its, rv, hl, _⟩ := I.tuple hs
  rw [Vals.ref1 r]
  obtain ⟨as, ra⟩ := reads_ints (h := s.heap) rv
  have hd := depth_ints (n :: ns)
  refine min_tuple_data (x := .int n) (xs := ns.map .int) (I.ok.hd hc) hl ra (alike_all (n :: ns)) (by
    have : PyData.depthAll (.int n :: ns.map .int) ≤ 1 := hd
    omega) fun i v h' tk bs hv rd hk => ?_
  rw [minD_ints] at rd
  cases rd
  obtain ⟨h1, h2⟩ := fold_min ns n
  exact ⟨.int _, H, I.kept hk, ⟨_, rfl⟩, q _ h1 h2⟩
/-- sum of a tuple of ints -/
theorem cr_sumT (hc : X.calm = true) : CallR X (.builtin "sum") (fun vs H Q => ∃ (a : Addr) (ns : List Int), vs = [V.ref a] ∧ SqT X.K H a (ns.map V.int) ∧ Q (.int ns.sum) H) := by
  intro pins s σ H vs us Q I r h
  obtain ⟨a, ns, rfl, hs, q⟩ := h
  obtain ⟨its, rv, hl, _⟩ := I.tuple hs
  rw [Vals.ref1 r]
  have hi := intsAre_of rv
  obtain ⟨xs, e⟩ := hi.allInts.items
  have hn : numsOf (intItems xs).toList = ns := by rw [← e]; exact hi.numsOf
  rw [nums_intItems] at hn
  rw [e] at hl
  refine ktm_sumG (I.ok.hd hc) hl fun h' tk t' hk => ?_
  have h2 : preSum (numAt xs) xs.size = ns.sum := by rw [preSum_eq, List.take_of_length_le (by simp), hn]
  rw [h2]
  exact ⟨.int _, H, I.kept hk, ⟨_, rfl⟩, q⟩
end
end RS

namespace RS
open PySem PySem.Spec PyProof.Rows L2

/-! ### built-ins by their name -/
def rL (K : PySem.W.Frag) (op : List D → Option D) : List V → Hp → VK → Prop := fun xs H Q => ∃ γ s ds r, GWf H γ s ∧ RepLs K H γ xs ds ∧ op ds = some r ∧ ∀ H' γ', Step γ H γ' H' → GWf H' γ' s → ∀ w, Rep K γ' w r → Q w H'
def rLF (K : PySem.W.Frag) (op : List D → Option (List D)) : List V → Hp → VK → Prop := fun xs H Q => ∃ γ s ds r, GWf H γ s ∧ RepLs K H γ xs ds ∧ op ds = some r ∧
  ∀ H' γ', Step γ H γ' H' → GWf H' γ' s → ∀ p vs, H' p = some (.lst vs) → RepAll K γ' vs r → γ'.F p = none → H p = none → OffDk γ' p → Q (.ref p) H'
def mCall (op : List D → Option D) (m : Env → M (List D)) : Env → M D := fun ρ => m ρ >>= fun ds => M.opt (op ds)
def mCallF (op : List D → Option (List D)) (m : Env → M (List D)) : Env → M (List D) := fun ρ => m ρ >>= fun ds => M.opt (op ds)
section
variable {X : Cx} {c : Ctx} {H0 : Hp} {EX : XK}
theorem call_rd {op : List D → Option D} {m : Env → M (List D)} {σ : L2.St} {H : Hp} {Q : VK} (q : tE (X.ci H0 EX) (mCall op m) σ H Q) : tCB (rL X.K op) (tOs (X.ci H0 EX) m) σ H Q := by
  obtain ⟨γ, ρ, s, r, g⟩ := q
  refine tOs.then (c := X.ci H0 EX) r g fun vs ds s1 H1 γ1 r1 x1 hv g1 => ?_
  obtain ⟨o, e1, k⟩ := g1.optE
  exact ⟨γ1, s1, ds, o, r1.g, hv, e1, k⟩
theorem callF_rd {op : List D → Option (List D)} {m : Env → M (List D)} {σ : L2.St} {H : Hp} {Q : VK} (q : tF (X.ci H0 EX) (mCallF op m) σ H Q) : tCB (rLF X.K op) (tOs (X.ci H0 EX) m) σ H Q := by
  obtain ⟨γ, ρ, s, r, g⟩ := q
  refine tOs.then (c := X.ci H0 EX) r g fun vs ds s1 H1 γ1 r1 x1 hv g1 => ?_
  obtain ⟨o, e1, k⟩ := g1.optE
  exact ⟨γ1, s1, ds, o, r1.g, hv, e1, fun H' γ' x gw p vs h1 h2 h3 h4 h5 => k H' γ' x gw p vs h1 h2 h3 (Classical.byContradiction fun w => x1.dom p w h4) h5⟩
theorem pe_dcallB (T : StX X c) {id : String} {x : Str} {op : List D → Option D} {e : Expr} {es : List Expr} {m : Env → M (List D)} {p pos : Pos} (hc : CallR X (.builtin id) (rL X.K op)) (hg : c.sc.names.lookup x = some .globalImplicit) (ho : okName x = true)
    (hm : X.mg x = none) (hv : bootBuiltins x = some (.builtin id)) (hn : noStars (e :: es) = true) (ha : PA X (e :: es) (tOs (X.ci H0 EX) m)) : PE X (.Call (.Name x p) (e :: es) [] pos) (tE (X.ci H0 EX) (mCall op m)) := by
  obtain ⟨o1, o2, o3⟩ := okName_of ho
  obtain ⟨n1, n2⟩ := Bool.and_eq_true_iff.mp (show ((!isStar e) && noStars es) = true from hn)
  exact (pe_callB hc (kind_of T hg) hm hv ha o3 o1 (star_no (by simpa using n1)) (stars_no n2)).weak fun σ H Q q => call_rd q
theorem pe_dcallTy (T : StX X c) {id : String} {x : Str} {op : List D → Option D} {e : Expr} {es : List Expr} {m : Env → M (List D)} {p pos : Pos} (hc : CallR X (.type id) (rL X.K op)) (hg : c.sc.names.lookup x = some .globalImplicit) (ho : okName x = true)
    (hm : X.mg x = none) (hv : bootBuiltins x = some (.type id)) (hn : noStars (e :: es) = true) (ha : PA X (e :: es) (tOs (X.ci H0 EX) m)) : PE X (.Call (.Name x p) (e :: es) [] pos) (tE (X.ci H0 EX) (mCall op m)) := by
  obtain ⟨o1, o2, o3⟩ := okName_of ho
  obtain ⟨n1, n2⟩ := Bool.and_eq_true_iff.mp (show ((!isStar e) && noStars es) = true from hn)
  exact (pe_callTy hc (kind_of T hg) hm hv ha o3 o1 (star_no (by simpa using n1)) (stars_no n2)).weak fun σ H Q q => call_rd q
theorem pe_dcallBF (T : StX X c) {id : String} {x : Str} {op : List D → Option (List D)} {e : Expr} {es : List Expr} {m : Env → M (List D)} {p pos : Pos} (hc : CallR X (.builtin id) (rLF X.K op)) (hg : c.sc.names.lookup x = some .globalImplicit) (ho : okName x = true)
    (hm : X.mg x = none) (hv : bootBuiltins x = some (.builtin id)) (hn : noStars (e :: es) = true) (ha : PA X (e :: es) (tOs (X.ci H0 EX) m)) : PE X (.Call (.Name x p) (e :: es) [] pos) (tF (X.ci H0 EX) (mCallF op m)) := by
  obtain ⟨o1, o2, o3⟩ := okName_of ho
  obtain ⟨n1, n2⟩ := Bool.and_eq_true_iff.mp (show ((!isStar e) && noStars es) = true from hn)
  exact (pe_callB hc (kind_of T hg) hm hv ha o3 o1 (star_no (by simpa using n1)) (stars_no n2)).weak fun σ H Q q => callF_rd q
theorem pe_dcallTyF (T : StX X c) {id : String} {x : Str} {op : List D → Option (List D)} {e : Expr} {es : List Expr} {m : Env → M (List D)} {p pos : Pos} (hc : CallR X (.type id) (rLF X.K op)) (hg : c.sc.names.lookup x = some .globalImplicit) (ho : okName x = true)
    (hm : X.mg x = none) (hv : bootBuiltins x = some (.type id)) (hn : noStars (e :: es) = true) (ha : PA X (e :: es) (tOs (X.ci H0 EX) m)) : PE X (.Call (.Name x p) (e :: es) [] pos) (tF (X.ci H0 EX) (mCallF op m)) := by
  obtain ⟨o1, o2, o3⟩ := okName_of ho
  obtain ⟨n1, n2⟩ := Bool.and_eq_true_iff.mp (show ((!isStar e) && noStars es) = true from hn)
  exact (pe_callTy hc (kind_of T hg) hm hv ha o3 o1 (star_no (by simpa using n1)) (stars_no n2)).weak fun σ H Q q => callF_rd q
end

/-! ### what they do on data -/
def bLen : List D → Option D
  | [.lst xs] => some (.int xs.length)
  | [.tup xs] => some (.int xs.length)
  | [.dic xs] => some (.int xs.length)
  | [.str z] => if z.length ≤ lim then some (.int z.length) else none
  | _ => none
def blsOf : List D → Option (List Bool)
  | [] => some []
  | .bl b :: r => (blsOf r).map (b :: ·)
  | _ :: _ => none
def intsOf : List D → Option (List Int)
  | [] => some []
  | .int b :: r => (intsOf r).map (b :: ·)
  | _ :: _ => none
def bAll : List D → Option D
  | [.lst xs] => (blsOf xs).map fun bs => .bl (bs.all id)
  | _ => none
def bAny : List D → Option D
  | [.lst xs] => (blsOf xs).map fun bs => .bl (bs.any id)
  | _ => none
def bSum : List D → Option D
  | [.lst xs] => (intsOf xs).map fun bs => .int bs.sum
  | [.tup xs] => (intsOf xs).map fun bs => .int bs.sum
  | _ => none
def bAbs : List D → Option D
  | [.int i] => some (.int (if i < 0 then -i else i))
  | _ => none
def listMax : List Int → Option Int
  | [] => none
  | [x] => some x
  | x :: r => (listMax r).map fun y => if x < y then y else x
def listMin : List Int → Option Int
  | [] => none
  | [x] => some x
  | x :: r => (listMin r).map fun y => if y < x then y else x
def bMax : List D → Option D
  | [.int i, .int j] => some (.int (if j > i then j else i))
  | [.lst xs] => (intsOf xs).bind fun ns => (listMax ns).map .int
  | [.tup xs] => (intsOf xs).bind fun ns => (listMax ns).map .int
  | _ => none
def bMin : List D → Option D
  | [.int i, .int j] => some (.int (if j < i then j else i))
  | [.lst xs] => (intsOf xs).bind fun ns => (listMin ns).map .int
  | [.tup xs] => (intsOf xs).bind fun ns => (listMin ns).map .int
  | _ => none
def bInt : List D → Option D
  | [.int i] => some (.int i)
  | [.bl b] => some (.int (if b then 1 else 0))
  | _ => none
def bStr : List D → Option D
  | [.int i] => if i.natAbs.log2 < 1920 then some (.str (toString i)) else none
  | [.bl b] => some (.str (if b then "True" else "False"))
  | _ => none
def bTuple : List D → Option D
  | [.lst xs] => some (.tup xs)
  | [.tup xs] => some (.tup xs)
  | _ => none
def bList : List D → Option (List D)
  | [.lst xs] => some xs
  | [.tup xs] => some xs
  | [.dic kvs] => some (kvs.map (·.1))
  | _ => none
theorem RepKv.length {K : PySem.W.Frag} {γ : Gh} : ∀ {vs : List (Key × V)} {ds : List (D × D)}, RepKv K γ vs ds → vs.length = ds.length
  | _, _, .nil => rfl
  | _, _, .cons _ t => congrArg Nat.succ t.length
theorem RepKv.keys {K : PySem.W.Frag} {γ : Gh} : ∀ {vs : List (Key × V)} {ds : List (D × D)}, RepKv K γ vs ds → RepAll K γ (vs.map fun kv => kV kv.1) (ds.map (·.1))
  | _, _, .nil => .nil
  | _, _, .cons (k := k) _ t => .cons (by cases k with
    | inl i => exact .int i
    | inr x => exact .str x) t.keys
theorem bls_rep {K : PySem.W.Frag} {γ : Gh} : ∀ {vs : List V} {ds : List D} {bs : List Bool}, RepAll K γ vs ds → blsOf ds = some bs → vs = bs.map V.bl
  | _, _, _, .nil, e => by cases e; rfl
  | _, d :: ds, bs, .cons r t, e => by
    cases d <;> first
      | (obtain ⟨b2, e1, e2⟩ := Option.map_eq_some_iff.mp (show (blsOf ds).map _ = some bs from e)
         cases r
         cases e2
         rw [bls_rep t e1]; rfl)
      | cases e
theorem ints_rep {K : PySem.W.Frag} {γ : Gh} : ∀ {vs : List V} {ds : List D} {bs : List Int}, RepAll K γ vs ds → intsOf ds = some bs → vs = bs.map V.int
  | _, _, _, .nil, e => by cases e; rfl
  | _, d :: ds, bs, .cons r t, e => by
    cases d <;> first
      | (obtain ⟨b2, e1, e2⟩ := Option.map_eq_some_iff.mp (show (intsOf ds).map _ = some bs from e)
         cases r
         cases e2
         rw [ints_rep t e1]; rfl)
      | cases e
theorem listMax_ok : ∀ {ns : List Int} {m : Int}, listMax ns = some m → 0 < ns.length ∧ m ∈ ns ∧ ∀ y ∈ ns, y ≤ m
  | [], _, e => by cases e
  | [x], m, e => by
    cases e
    exact ⟨by simp, by simp, fun y h => by simp at h; omega⟩
  | x :: z :: r, m, e => by
    obtain ⟨y, e1, e2⟩ := Option.map_eq_some_iff.mp (show (listMax (z :: r)).map _ = some m from e)
    obtain ⟨_, h2, h3⟩ := listMax_ok e1
    refine ⟨by simp, ?_, fun w hw => ?_⟩
    · by_cases h : x < y
      · rw [if_pos h] at e2; subst e2; exact List.mem_cons_of_mem _ h2
      · rw [if_neg h] at e2; subst e2; exact List.mem_cons_self
    · rcases List.mem_cons.mp hw with rfl | hw
      · by_cases h : w < y
        · rw [if_pos h] at e2; omega
        · rw [if_neg h] at e2; omega
      · have := h3 w hw
        by_cases h : x < y
        · rw [if_pos h] at e2; omega
        · rw [if_neg h] at e2; omega
theorem listMin_ok : ∀ {ns : List Int} {m : Int}, listMin ns = some m → 0 < ns.length ∧ m ∈ ns ∧ ∀ y ∈ ns, m ≤ y
  | [], _, e => by cases e
  | [x], m, e => by
    cases e
    exact ⟨by simp, by simp, fun y h => by simp at h; omega⟩
  | x :: z :: r, m, e => by
    obtain ⟨y, e1, e2⟩ := Option.map_eq_some_iff.mp (show (listMin (z :: r)).map _ = some m from e)
    obtain ⟨_, h2, h3⟩ := listMin_ok e1
    refine ⟨by simp, ?_, fun w hw => ?_⟩
    · by_cases h : y < x
      · rw [if_pos h] at e2; subst e2; exact List.mem_cons_of_mem _ h2
      · rw [if_neg h] at e2; subst e2; exact List.mem_cons_self
    · rcases List.mem_cons.mp hw with rfl | hw
      · by_cases h : y < w
        · rw [if_pos h] at e2; omega
        · rw [if_neg h] at e2; omega
      · have := h3 w hw
        by_cases h : y < x
        · rw [if_pos h] at e2; omega
        · rw [if_neg h] at e2; omega
section
variable {X : Cx} {c : Ctx}
theorem call_dLen (T : StX X c) : CallR X (.builtin "len") (rL X.K bLen) := by
  intro pins s σ H xs us Q I rx h
  obtain ⟨γ, sd, ds, r, g, hx, ho, q⟩ := h
  unfold bLen at ho
  split at ho
  · obtain ⟨v, rfl, hv⟩ := hx.one
    cases ho
    obtain ⟨p, vs, rfl, hp, ra⟩ := hv.lst g
    exact call_len_seq pins s σ H _ us Q I rx ⟨p, vs, rfl, .inl (SqL.of hp), q _ _ (Step.refl _ _) g _ (by rw [ra.length]; exact .int _)⟩
  · obtain ⟨v, rfl, hv⟩ := hx.one
    cases ho
    obtain ⟨p, vs, rfl, hp, ra⟩ := hv.tup g
    exact call_len_seq pins s σ H _ us Q I rx ⟨p, vs, rfl, .inr hp, q _ _ (Step.refl _ _) g _ (by rw [ra.length]; exact .int _)⟩
  · rename_i kvs
    obtain ⟨v, rfl, hv⟩ := hx.one
    cases ho
    obtain ⟨p, vs, rfl, hp, ra⟩ := hv.dic g
    obtain ⟨u, rfl, ru⟩ := vals1 rx
    cases ru
    have hl : vs.length = kvs.length := ra.length
    refine d_len I hp fun t s' I' => ⟨.int vs.length, H, I', ⟨t, rfl⟩, q _ _ (Step.refl _ _) g _ (by rw [hl]; exact .int _)⟩
  · rename_i z
    obtain ⟨v, rfl, hv⟩ := hx.one
    split at ho
    · rename_i hl
      cases ho
      cases hv.str
      exact call_len_str pins s σ H _ us Q I rx ⟨z, rfl, by rw [← lim_eq]; exact hl, q _ _ (Step.refl _ _) g _ (.int _)⟩
    · cases ho
  · cases ho
theorem call_dAll (T : StX X c) : CallR X (.builtin "all") (rL X.K bAll) := by
  intro pins s σ H xs us Q I rx h
  obtain ⟨γ, sd, ds, r, g, hx, ho, q⟩ := h
  unfold bAll at ho
  split at ho
  · obtain ⟨v, rfl, hv⟩ := hx.one
    obtain ⟨bs, e1, e2⟩ := Option.map_eq_some_iff.mp ho
    cases e2
    obtain ⟨p, vs, rfl, hp, ra⟩ := hv.lst g
    rw [bls_rep ra e1] at hp
    exact cr_all T.calm pins s σ H _ us Q I rx ⟨p, bs, rfl, SqL.of hp, q _ _ (Step.refl _ _) g _ (.bl _)⟩
  · cases ho
theorem call_dAny (T : StX X c) : CallR X (.builtin "any") (rL X.K bAny) := by
  intro pins s σ H xs us Q I rx h
  obtain ⟨γ, sd, ds, r, g, hx, ho, q⟩ := h
  unfold bAny at ho
  split at ho
  · obtain ⟨v, rfl, hv⟩ := hx.one
    obtain ⟨bs, e1, e2⟩ := Option.map_eq_some_iff.mp ho
    cases e2
    obtain ⟨p, vs, rfl, hp, ra⟩ := hv.lst g
    rw [bls_rep ra e1] at hp
    exact cr_any T.calm pins s σ H _ us Q I rx ⟨p, bs, rfl, SqL.of hp, q _ _ (Step.refl _ _) g _ (.bl _)⟩
  · cases ho
theorem call_dSum (T : StX X c) : CallR X (.builtin "sum") (rL X.K bSum) := by
  intro pins s σ H xs us Q I rx h
  obtain ⟨γ, sd, ds, r, g, hx, ho, q⟩ := h
  unfold bSum at ho
  split at ho
  · obtain ⟨v, rfl, hv⟩ := hx.one
    obtain ⟨bs, e1, e2⟩ := Option.map_eq_some_iff.mp ho
    cases e2
    obtain ⟨p, vs, rfl, hp, ra⟩ := hv.lst g
    rw [ints_rep ra e1] at hp
    exact cr_sum T.calm pins s σ H _ us Q I rx ⟨p, bs, rfl, SqL.of hp, q _ _ (Step.refl _ _) g _ (.int _)⟩
  · obtain ⟨v, rfl, hv⟩ := hx.one
    obtain ⟨bs, e1, e2⟩ := Option.map_eq_some_iff.mp ho
    cases e2
    obtain ⟨p, vs, rfl, hp, ra⟩ := hv.tup g
    rw [ints_rep ra e1] at hp
    exact cr_sumT T.calm pins s σ H _ us Q I rx ⟨p, bs, rfl, hp, q _ _ (Step.refl _ _) g _ (.int _)⟩
  · cases ho
theorem call_dAbs (T : StX X c) : CallR X (.builtin "abs") (rL X.K bAbs) := by
  intro pins s σ H xs us Q I rx h
  obtain ⟨γ, sd, ds, r, g, hx, ho, q⟩ := h
  unfold bAbs at ho
  split at ho
  · obtain ⟨v, rfl, hv⟩ := hx.one
    cases ho
    cases hv.int
    exact call_abs pins s σ H _ us Q I rx ⟨_, rfl, q _ _ (Step.refl _ _) g _ (.int _)⟩
  · cases ho
theorem call_dMax (T : StX X c) : CallR X (.builtin "max") (rL X.K bMax) := by
  intro pins s σ H xs us Q I rx h
  obtain ⟨γ, sd, ds, r, g, hx, ho, q⟩ := h
  unfold bMax at ho
  split at ho
  · obtain ⟨v, w, rfl, hv, hw⟩ := hx.two
    cases ho
    cases hv.int; cases hw.int
    exact call_max2 T.calm pins s σ H _ us Q I rx ⟨_, _, rfl, q _ _ (Step.refl _ _) g _ (.int _)⟩
  · obtain ⟨v, rfl, hv⟩ := hx.one
    obtain ⟨bs, e1, e2⟩ := Option.bind_eq_some_iff.mp ho
    obtain ⟨m, e3, e4⟩ := Option.map_eq_some_iff.mp e2
    cases e4
    obtain ⟨p, vs, rfl, hp, ra⟩ := hv.lst g
    rw [ints_rep ra e1] at hp
    obtain ⟨h1, h2, h3⟩ := listMax_ok e3
    exact cr_max T.calm pins s σ H _ us Q I rx ⟨p, bs, rfl, SqL.of hp, h1, fun m' h4 h5 => q _ _ (Step.refl _ _) g _ (by
      have e : m' = m := by have := h3 m' h4; have := h5 m h2; omega
      rw [e]; exact .int _)⟩
  · obtain ⟨v, rfl, hv⟩ := hx.one
    obtain ⟨bs, e1, e2⟩ := Option.bind_eq_some_iff.mp ho
    obtain ⟨m, e3, e4⟩ := Option.map_eq_some_iff.mp e2
    cases e4
    obtain ⟨p, vs, rfl, hp, ra⟩ := hv.tup g
    rw [ints_rep ra e1] at hp
    obtain ⟨h1, h2, h3⟩ := listMax_ok e3
    cases bs with
    | nil => simp at h1
    | cons n ns =>
      exact cr_maxT T.calm (by have := T.hu; omega) pins s σ H _ us Q I rx ⟨p, n, ns, rfl, hp, fun m' h4 h5 => q _ _ (Step.refl _ _) g _ (by
        have e : m' = m := by have := h3 m' h4; have := h5 m h2; omega
        rw [e]; exact .int _)⟩
  · cases ho
theorem call_dMin (T : StX X c) : CallR X (.builtin "min") (rL X.K bMin) := by
  intro pins s σ H xs us Q I rx h
  obtain ⟨γ, sd, ds, r, g, hx, ho, q⟩ := h
  unfold bMin at ho
  split at ho
  · obtain ⟨v, w, rfl, hv, hw⟩ := hx.two
    cases ho
    cases hv.int; cases hw.int
    exact call_min2 T.calm pins s σ H _ us Q I rx ⟨_, _, rfl, q _ _ (Step.refl _ _) g _ (.int _)⟩
  · obtain ⟨v, rfl, hv⟩ := hx.one
    obtain ⟨bs, e1, e2⟩ := Option.bind_eq_some_iff.mp ho
    obtain ⟨m, e3, e4⟩ := Option.map_eq_some_iff.mp e2
    cases e4
    obtain ⟨p, vs, rfl, hp, ra⟩ := hv.lst g
    rw [ints_rep ra e1] at hp
    obtain ⟨h1, h2, h3⟩ := listMin_ok e3
    exact cr_min T.calm pins s σ H _ us Q I rx ⟨p, bs, rfl, SqL.of hp, h1, fun m' h4 h5 => q _ _ (Step.refl _ _) g _ (by
      have e : m' = m := by have := h3 m' h4; have := h5 m h2; omega
      rw [e]; exact .int _)⟩
  · obtain ⟨v, rfl, hv⟩ := hx.one
    obtain ⟨bs, e1, e2⟩ := Option.bind_eq_some_iff.mp ho
    obtain ⟨m, e3, e4⟩ := Option.map_eq_some_iff.mp e2
    cases e4
    obtain ⟨p, vs, rfl, hp, ra⟩ := hv.tup g
    rw [ints_rep ra e1] at hp
    obtain ⟨h1, h2, h3⟩ := listMin_ok e3
    cases bs with
    | nil => simp at h1
    | cons n ns =>
      exact cr_minT T.calm (by have := T.hu; omega) pins s σ H _ us Q I rx ⟨p, n, ns, rfl, hp, fun m' h4 h5 => q _ _ (Step.refl _ _) g _ (by
        have e : m' = m := by have := h3 m' h4; have := h5 m h2; omega
        rw [e]; exact .int _)⟩
  · cases ho
theorem call_dInt (T : StX X c) : CallR X (.type "int") (rL X.K bInt) := by
  intro pins s σ H xs us Q I rx h
  obtain ⟨γ, sd, ds, r, g, hx, ho, q⟩ := h
  unfold bInt at ho
  split at ho
  · obtain ⟨v, rfl, hv⟩ := hx.one
    cases ho; cases hv.int
    exact call_int1 pins s σ H _ us Q I rx (.inl ⟨_, rfl, q _ _ (Step.refl _ _) g _ (.int _)⟩)
  · obtain ⟨v, rfl, hv⟩ := hx.one
    cases ho; cases hv.bl
    exact call_int1 pins s σ H _ us Q I rx (.inr ⟨_, rfl, q _ _ (Step.refl _ _) g _ (.int _)⟩)
  · cases ho
theorem call_dStr (T : StX X c) : CallR X (.type "str") (rL X.K bStr) := by
  intro pins s σ H xs us Q I rx h
  obtain ⟨γ, sd, ds, r, g, hx, ho, q⟩ := h
  unfold bStr at ho
  split at ho
  · obtain ⟨v, rfl, hv⟩ := hx.one
    split at ho
    · rename_i hl
      cases ho; cases hv.int
      exact call_str_int pins s σ H _ us Q I rx ⟨_, rfl, hl, q _ _ (Step.refl _ _) g _ (.str _)⟩
    · cases ho
  · obtain ⟨v, rfl, hv⟩ := hx.one
    cases ho; cases hv.bl
    exact call_str_bl pins s σ H _ us Q I rx ⟨_, rfl, q _ _ (Step.refl _ _) g _ (.str _)⟩
  · cases ho
theorem call_dTuple (T : StX X c) : CallR X (.type "tuple") (rL X.K bTuple) := by
  intro pins s σ H xs us Q I rx h
  obtain ⟨γ, sd, ds, r, g, hx, ho, q⟩ := h
  unfold bTuple at ho
  split at ho
  · obtain ⟨v, rfl, hv⟩ := hx.one
    cases ho
    obtain ⟨p, vs, rfl, hp, ra⟩ := hv.lst g
    exact call_tuple_of pins s σ H _ us Q I rx ⟨p, vs, rfl, .inl ⟨SqL.of hp, put_tup g q ra⟩⟩
  · obtain ⟨v, rfl, hv⟩ := hx.one
    cases ho
    obtain ⟨p, vs, rfl, hp, ra⟩ := hv.tup g
    exact call_tuple_of pins s σ H _ us Q I rx ⟨p, vs, rfl, .inr ⟨hp, q _ _ (Step.refl _ _) g _ hv.repT⟩⟩
  · cases ho
theorem call_dList (T : StX X c) : CallR X (.type "list") (rLF X.K bList) := by
  intro pins s σ H xs us Q I rx h
  obtain ⟨γ, sd, ds, r, g, hx, ho, q⟩ := h
  unfold bList at ho
  split at ho
  · obtain ⟨v, rfl, hv⟩ := hx.one
    cases ho
    obtain ⟨p, vs, rfl, hp, ra⟩ := hv.lst g
    exact call_list_of pins s σ H _ us Q I rx ⟨p, vs, rfl, .inl (SqL.of hp), put_new g (Step.refl _ _) q ra⟩
  · obtain ⟨v, rfl, hv⟩ := hx.one
    cases ho
    obtain ⟨p, vs, rfl, hp, ra⟩ := hv.tup g
    exact call_list_of pins s σ H _ us Q I rx ⟨p, vs, rfl, .inr hp, put_new g (Step.refl _ _) q ra⟩
  · obtain ⟨v, rfl, hv⟩ := hx.one
    cases ho
    obtain ⟨p, vs, rfl, hp, ra⟩ := hv.dic g
    exact call_listD T.calm pins s σ H _ us Q I rx ⟨p, vs, rfl, hp, put_new g (Step.refl _ _) q ra.keys⟩
  · cases ho
end
end RS

namespace RS
open PySem PySem.Spec PyProof.Rows L2

/-! ### statements -/
inductive O where
  | nx (ρ : Env) | rt (d : D) | bk (ρ : Env) | ct (ρ : Env)
abbrev MS := Env → M O
def EndO (c : CxI) (γ0 γ : Gh) (N : Ends) (o : O) (s' : DS) : Prop := match o with
  | .nx ρ => ∀ σ' H' γ', GLe γ γ' → SR c.K c.H0 σ' H' γ' ρ s' → Step γ0 c.H0 γ' H' → N.nx σ' H'
  | .bk ρ => ∀ σ' H' γ', GLe γ γ' → SR c.K c.H0 σ' H' γ' ρ s' → Step γ0 c.H0 γ' H' → N.bk σ' H'
  | .ct ρ => ∀ σ' H' γ', GLe γ γ' → SR c.K c.H0 σ' H' γ' ρ s' → Step γ0 c.H0 γ' H' → N.ct σ' H'
  | .rt d => ∀ v H' γ', GWf H' γ' s' → Step γ0 c.H0 γ' H' → Rep c.K γ' v d → N.rt v H'
/-- what a statement's run is to reach -/
def GoS (c : CxI) (γ0 γ : Gh) (N : Ends) (r : R O) : Prop := match r with
  | .ok o s' => EndO c γ0 γ N o s'
  | .exc cl x s' => Flies c.K c.mg γ0 c.H0 c.EX cl x s'
  | .stuck => False
def tS (c : CxI) (γ0 : Gh) (m : MS) : TS := fun N σ H => ∃ γ ρ s, SR c.K c.H0 σ H γ ρ s ∧ Step γ0 c.H0 γ H ∧ GoS c γ0 γ N (m ρ s)
theorem EndO.mono {c : CxI} {γ0 γ γ' : Gh} {N : Ends} {o : O} {s : DS} (h : EndO c γ0 γ N o s) (g : GLe γ γ') : EndO c γ0 γ' N o s := by
  cases o with
  | nx ρ => exact fun σ' H' γ2 l r x => h σ' H' γ2 (g.trans l) r x
  | bk ρ => exact fun σ' H' γ2 l r x => h σ' H' γ2 (g.trans l) r x
  | ct ρ => exact fun σ' H' γ2 l r x => h σ' H' γ2 (g.trans l) r x
  | rt d => exact h
theorem GoS.mono {c : CxI} {γ0 γ γ' : Gh} {N : Ends} {r : R O} (h : GoS c γ0 γ N r) (g : GLe γ γ') : GoS c γ0 γ' N r := by
  cases r with
  | ok o s => exact EndO.mono h g
  | exc cl x s => exact h
  | stuck => exact h
/-- a run by pieces: exceptions go by, stuck is out -/
theorem GoS.split {c : CxI} {γ0 γ : Gh} {N : Ends} {α : Type} {m : M α} {f : α → M O} {s : DS} {H : Hp} {P : α → DS → Hp → Gh → Prop} (h : GoS c γ0 γ N ((m >>= f) s)) (x0 : Step γ0 c.H0 γ H)
    (k : ∀ a s' H' γ', Step γ H γ' H' → GWf H' γ' s' → GoS c γ0 γ' N (f a s') → P a s' H' γ') : Goes c.K c.mg c.EX γ H (m s) P := by
  cases e : m s with
  | ok a s' =>
    rw [bnd_ok e] at h
    exact fun H' γ' x g => k a s' H' γ' x g (h.mono x.g)
  | exc cl x s' =>
    rw [bnd_exc e] at h
    exact Flies.step h x0
  | stuck => rw [bnd_stuck e] at h; exact h.elim
theorem GoS.optE {c : CxI} {γ0 γ : Gh} {N : Ends} {α : Type} {o : Option α} {f : α → M O} {s : DS} (h : GoS c γ0 γ N ((M.opt o >>= f) s)) : ∃ a, o = some a ∧ GoS c γ0 γ N (f a s) := by
  cases o with
  | none => exact h.elim
  | some a => exact ⟨a, rfl, h⟩
theorem GoS.nx {c : CxI} {γ0 γ : Gh} {N : Ends} {ρ : Env} {s : DS} {σ : L2.St} {H : Hp} (h : GoS c γ0 γ N ((pure (O.nx ρ) : M O) s)) (r : SR c.K c.H0 σ H γ ρ s) (x : Step γ0 c.H0 γ H) : N.nx σ H :=
  (show ∀ σ' H' γ', GLe γ γ' → SR c.K c.H0 σ' H' γ' ρ s → Step γ0 c.H0 γ' H' → N.nx σ' H' from h) σ H γ (GLe.refl _) r x
theorem GoS.bk {c : CxI} {γ0 γ : Gh} {N : Ends} {ρ : Env} {s : DS} {σ : L2.St} {H : Hp} (h : GoS c γ0 γ N ((pure (O.bk ρ) : M O) s)) (r : SR c.K c.H0 σ H γ ρ s) (x : Step γ0 c.H0 γ H) : N.bk σ H :=
  (show ∀ σ' H' γ', GLe γ γ' → SR c.K c.H0 σ' H' γ' ρ s → Step γ0 c.H0 γ' H' → N.bk σ' H' from h) σ H γ (GLe.refl _) r x
theorem GoS.ct {c : CxI} {γ0 γ : Gh} {N : Ends} {ρ : Env} {s : DS} {σ : L2.St} {H : Hp} (h : GoS c γ0 γ N ((pure (O.ct ρ) : M O) s)) (r : SR c.K c.H0 σ H γ ρ s) (x : Step γ0 c.H0 γ H) : N.ct σ H :=
  (show ∀ σ' H' γ', GLe γ γ' → SR c.K c.H0 σ' H' γ' ρ s → Step γ0 c.H0 γ' H' → N.ct σ' H' from h) σ H γ (GLe.refl _) r x
theorem GoS.rt {c : CxI} {γ0 γ γ' : Gh} {N : Ends} {d : D} {s : DS} {v : V} {H : Hp} (h : GoS c γ0 γ N ((pure (O.rt d) : M O) s)) (g : GWf H γ' s) (x : Step γ0 c.H0 γ' H) (r : Rep c.K γ' v d) : N.rt v H :=
  (show ∀ v H' γ', GWf H' γ' s → Step γ0 c.H0 γ' H' → Rep c.K γ' v d → N.rt v H' from h) v H γ' g x r
theorem gos_stop {c : CxI} {γ0 γ : Gh} {N : Ends} {s : DS} (h : GoS c γ0 γ N ((M.stop : M O) s)) : False := h

section
variable {c : CxI} {σ : L2.St} {H : Hp} {γ γ0 : Gh} {ρ : Env} {s : DS} {N : Ends}
/-- an expression, then the statement's rest -/
theorem tE.thenS {m : Env → M D} {f : D → M O} (r : SR c.K c.H0 σ H γ ρ s) (x0 : Step γ0 c.H0 γ H) (h : GoS c γ0 γ N ((m ρ >>= f) s)) {Q : VK}
    (k : ∀ v d s1 H1 γ1, SR c.K c.H0 σ H1 γ1 ρ s1 → Step γ0 c.H0 γ1 H1 → GLe γ γ1 → Rep c.K γ1 v d → GoS c γ0 γ1 N (f d s1) → Q v H1) : tE c m σ H Q :=
  ⟨γ, ρ, s, r, h.split x0 fun d s1 H1 γ1 x g q v hv => k v d s1 H1 γ1 (r.step x g) (x0.trans x) x.g hv q⟩
theorem tO.thenS {m : Env → M D} {f : D → M O} (r : SR c.K c.H0 σ H γ ρ s) (x0 : Step γ0 c.H0 γ H) (h : GoS c γ0 γ N ((m ρ >>= f) s)) {Q : VK}
    (k : ∀ v d s1 H1 γ1, SR c.K c.H0 σ H1 γ1 ρ s1 → Step γ0 c.H0 γ1 H1 → GLe γ γ1 → Step γ H γ1 H1 → RepL c.K H1 γ1 v d → GoS c γ0 γ1 N (f d s1) → Q v H1) : tO c m σ H Q :=
  ⟨γ, ρ, s, r, h.split x0 fun d s1 H1 γ1 x g q v hv => k v d s1 H1 γ1 (r.step x g) (x0.trans x) x.g x hv q⟩
theorem tF.thenS {m : Env → M (List D)} {f : List D → M O} (r : SR c.K c.H0 σ H γ ρ s) (x0 : Step γ0 c.H0 γ H) (h : GoS c γ0 γ N ((m ρ >>= f) s)) {Q : VK}
    (k : ∀ p vs ds s1 H1 γ1, SR c.K c.H0 σ H1 γ1 ρ s1 → Step γ0 c.H0 γ1 H1 → GLe γ γ1 → H1 p = some (.lst vs) → RepAll c.K γ1 vs ds → γ1.F p = none → H p = none → OffDk γ1 p → GoS c γ0 γ1 N (f ds s1) → Q (.ref p) H1) : tF c m σ H Q :=
  ⟨γ, ρ, s, r, h.split x0 fun d s1 H1 γ1 x g q p vs h1 h2 h3 h4 h5 => k p vs d s1 H1 γ1 (r.step x g) (x0.trans x) x.g h1 h2 h3 h4 h5 q⟩
theorem tB.thenS {m : Env → M Bool} {f : Bool → M O} (r : SR c.K c.H0 σ H γ ρ s) (x0 : Step γ0 c.H0 γ H) (h : GoS c γ0 γ N ((m ρ >>= f) s)) {Q : Bool → Hp → Prop}
    (k : ∀ b s1 H1 γ1, SR c.K c.H0 σ H1 γ1 ρ s1 → Step γ0 c.H0 γ1 H1 → GLe γ γ1 → GoS c γ0 γ1 N (f b s1) → Q b H1) : tB c m σ H Q :=
  ⟨γ, ρ, s, r, h.split x0 fun d s1 H1 γ1 x g q => k d s1 H1 γ1 (r.step x g) (x0.trans x) x.g q⟩
theorem tEs.thenS {m : Env → M (List D)} {f : List D → M O} (r : SR c.K c.H0 σ H γ ρ s) (x0 : Step γ0 c.H0 γ H) (h : GoS c γ0 γ N ((m ρ >>= f) s)) {Q : List V → Hp → Prop}
    (k : ∀ vs ds s1 H1 γ1, SR c.K c.H0 σ H1 γ1 ρ s1 → Step γ0 c.H0 γ1 H1 → GLe γ γ1 → RepAll c.K γ1 vs ds → GoS c γ0 γ1 N (f ds s1) → Q vs H1) : tEs c m σ H Q :=
  ⟨γ, ρ, s, r, h.split x0 fun d s1 H1 γ1 x g q v hv => k v d s1 H1 γ1 (r.step x g) (x0.trans x) x.g hv q⟩
end

/-! ### blocks -/
def mNext : MS := fun ρ => pure (.nx ρ)
def mSeq (a b : MS) : MS := fun ρ => a ρ >>= fun o => match o with
  | .nx ρ' => b ρ'
  | o => pure o
def mRet (m : Env → M D) : MS := fun ρ => m ρ >>= fun d => pure (.rt d)
def mBrk : MS := fun ρ => pure (.bk ρ)
def mCnt : MS := fun ρ => pure (.ct ρ)
def mDrop (m : Env → M D) : MS := fun ρ => m ρ >>= fun _ => pure (.nx ρ)
section
variable {X : Cx} {c : Ctx} {H0 : Hp} {EX : XK} {γ0 : Gh} {a b : MS} {pos : Pos}
theorem pss_dnil : PSs X [] (tS (X.ci H0 EX) γ0 mNext) := pss_nil.weak fun N σ H q => by
  obtain ⟨γ, ρ, s, r, x, g⟩ := q
  exact GoS.nx (c := X.ci H0 EX) g r x
theorem pss_dcons {st : Stmt} {rest : List Stmt} (h1 : PS X st (tS (X.ci H0 EX) γ0 a)) (h2 : PSs X rest (tS (X.ci H0 EX) γ0 b)) : PSs X (st :: rest) (tS (X.ci H0 EX) γ0 (mSeq a b)) := (pss_cons h1 h2).weak fun N σ H q => by
  obtain ⟨γ, ρ, s, r, x, g⟩ := q
  refine ⟨γ, ρ, s, r, x, ?_⟩
  unfold mSeq at g
  cases e : a ρ s with
  | ok o s' =>
    rw [bnd_ok e] at g
    cases o with
    | nx ρ' => exact fun σ' H' γ' l r' x' => ⟨γ', ρ', s', r', x', g.mono l⟩
    | rt d => exact g
    | bk ρ' => exact g
    | ct ρ' => exact g
  | exc cl y s' => rw [bnd_exc e] at g; exact g
  | stuck => rw [bnd_stuck e] at g; exact g
theorem pss_done {st : Stmt} (h1 : PS X st (tS (X.ci H0 EX) γ0 a)) : PSs X [st] (tS (X.ci H0 EX) γ0 a) := pss_one h1
theorem ps_dpass : PS X (.Pass pos) (tS (X.ci H0 EX) γ0 mNext) := ps_pass.weak fun N σ H q => by
  obtain ⟨γ, ρ, s, r, x, g⟩ := q
  exact GoS.nx (c := X.ci H0 EX) g r x
theorem ps_dbreak : PS X (.Break pos) (tS (X.ci H0 EX) γ0 mBrk) := ps_break.weak fun N σ H q => by
  obtain ⟨γ, ρ, s, r, x, g⟩ := q
  exact GoS.bk (c := X.ci H0 EX) g r x
theorem ps_dcont : PS X (.Continue pos) (tS (X.ci H0 EX) γ0 mCnt) := ps_continue.weak fun N σ H q => by
  obtain ⟨γ, ρ, s, r, x, g⟩ := q
  exact GoS.ct (c := X.ci H0 EX) g r x
theorem ps_ddoc {x j p p'} : PS X (.Expr (.Constant (.str x) j p) p') (tS (X.ci H0 EX) γ0 mNext) := ps_doc.weak fun N σ H q => by
  obtain ⟨γ, ρ, s, r, x, g⟩ := q
  exact GoS.nx (c := X.ci H0 EX) g r x
theorem ps_dret {e : Expr} {m : Env → M D} (he : PE X e (tE (X.ci H0 EX) m)) : PS X (.Return (some e) pos) (tS (X.ci H0 EX) γ0 (mRet m)) := (ps_ret he).weak fun N σ H q => by
  obtain ⟨γ, ρ, s, r, x, g⟩ := q
  exact tE.thenS (c := X.ci H0 EX) r x g fun v d s1 H1 γ1 r1 x1 _ hv g1 => GoS.rt (c := X.ci H0 EX) g1 r1.g x1 hv
theorem ps_dretN : PS X (.Return none pos) (tS (X.ci H0 EX) γ0 (mRet (mC .non))) := ps_retN.weak fun N σ H q => by
  obtain ⟨γ, ρ, s, r, x, g⟩ := q
  exact GoS.rt (c := X.ci H0 EX) g r.g x .non
theorem ps_dexpr {e : Expr} {m : Env → M D} (he : PE X e (tE (X.ci H0 EX) m)) (hs : swapsWith e none pos.line X.env = pure false) : PS X (.Expr e pos) (tS (X.ci H0 EX) γ0 (mDrop m)) := (ps_expr he hs).weak fun N σ H q => by
  obtain ⟨γ, ρ, s, r, x, g⟩ := q
  exact tE.thenS (c := X.ci H0 EX) r x g fun v d s1 H1 γ1 r1 x1 l hv g1 => GoS.nx (c := X.ci H0 EX) g1 r1 x1
theorem ps_dif {t : Expr} {p q : List Stmt} {mt : Env → M Bool} (ht : PT X t (tB (X.ci H0 EX) mt)) (ha : PSs X p (tS (X.ci H0 EX) γ0 a)) (hb : PSs X q (tS (X.ci H0 EX) γ0 b)) : PS X (.If t p q pos) (tS (X.ci H0 EX) γ0 (mIf mt a b)) := (ps_if ht ha hb).weak fun N σ H q => by
  obtain ⟨γ, ρ, s, r, x, g⟩ := q
  refine tB.thenS (c := X.ci H0 EX) r x g fun k s1 H1 γ1 r1 x1 l g1 => ?_
  cases k with
  | true => exact ⟨γ1, ρ, s1, r1, x1, g1⟩
  | false => exact ⟨γ1, ρ, s1, r1, x1, g1⟩
end

/-! ### targets -/
abbrev Tg := D → Env → Option Env
abbrev Tgs := List D → Env → Option Env
def tG (c : CxI) (is : List Nat) (g : Tg) : TG := fun v σ H Q => ∃ γ ρ s d ρ', SR c.K c.H0 σ H γ ρ s ∧ Rep c.K γ v d ∧ g d ρ = some ρ' ∧ ∀ σ', (∀ j, j ∉ is → σ'[j]? = σ[j]?) → σ'.length = σ.length → SR c.K c.H0 σ' H γ ρ' s → Q σ' H
def tGs (c : CxI) (is : List Nat) (g : Tgs) : TGs := fun vs σ H Q => ∃ γ ρ s ds ρ', SR c.K c.H0 σ H γ ρ s ∧ RepAll c.K γ vs ds ∧ g ds ρ = some ρ' ∧ ∀ σ', (∀ j, j ∉ is → σ'[j]? = σ[j]?) → σ'.length = σ.length → SR c.K c.H0 σ' H γ ρ' s → Q σ' H
theorem PG.weak {X : Cx} {e : Expr} {t t' : TG} (h : PG X e t) (w : ∀ v σ H Q, t' v σ H Q → t v σ H Q) : PG X e t' := ⟨fun pins s σ H v u Q I r q => h.run pins s σ H v u Q I r (w _ _ _ _ q)⟩
theorem PGs.weak {X : Cx} {e : List Expr} {t t' : TGs} (h : PGs X e t) (w : ∀ v σ H Q, t' v σ H Q → t v σ H Q) : PGs X e t' := ⟨fun pins s σ H v u Q I r q => h.run pins s σ H v u Q I r (w _ _ _ _ q)⟩
def gN (i : Nat) : Tg := fun d ρ => if i < ρ.length then some (ρ.set i (some (.val d))) else none
def gNl : Tgs := fun ds ρ => match ds with
  | [] => some ρ
  | _ => none
def gCn (g : Tg) (gs : Tgs) : Tgs := fun ds ρ => match ds with
  | d :: r => (g d ρ).bind (gs r)
  | _ => none
def gTp (gs : Tgs) (n : Nat) : Tg := fun d ρ => match d with
  | .tup ds => if ds.length = n then gs ds ρ else none
  | _ => none
section
variable {K : PySem.W.Frag} {H0 : Hp} {σ : L2.St} {H : Hp} {γ : Gh} {ρ : Env} {s : DS}
theorem SR.setVal {i : Nat} {v : V} {d : D} (r : SR K H0 σ H γ ρ s) (hv : Rep K γ v d) (hi : i < ρ.length) : SR K H0 (σ.set i (some v)) H γ (ρ.set i (some (.val d))) s := by
  have hl := r.len
  refine ⟨r.g, by simp [hl], fun j e h => ?_, fun j e h => ?_, fun j k e f p h1 h2 h3 h4 => ?_⟩
  · by_cases z : i = j
    · subst z
      rw [List.getElem?_set_self hi] at h
      cases h
      exact ⟨v, List.getElem?_set_self (by omega), hv⟩
    · rw [List.getElem?_set_ne z] at h ⊢
      exact r.val j e h
  · by_cases z : i = j
    · subst z
      rw [List.getElem?_set_self hi] at h
      cases h
    · rw [List.getElem?_set_ne z] at h ⊢
      exact r.own j e h
  · have zj : i ≠ j := fun z => by subst z; rw [List.getElem?_set_self hi] at h1; cases h1
    have zk : i ≠ k := fun z => by subst z; rw [List.getElem?_set_self hi] at h2; cases h2
    rw [List.getElem?_set_ne zj] at h1 h3
    rw [List.getElem?_set_ne zk] at h2 h4
    exact r.sep j k e f p h1 h2 h3 h4
theorem SR.setOwn {i : Nat} {p : Addr} {d : D} (r : SR K H0 σ H γ ρ s) (ho : OwnAt K H γ p d) (od : OffDk γ p) (h0 : H0 p = none) (hf : γ.F p = none) (hi : i < ρ.length)
    (new : ∀ (j : Nat) (e : D), j ≠ i → ρ[j]? = some (some (Sl.own e)) → σ[j]? ≠ some (some (V.ref p))) : SR K H0 (σ.set i (some (.ref p))) H γ (ρ.set i (some (.own d))) s := by
  have hl := r.len
  refine ⟨r.g, by simp [hl], fun j e h => ?_, fun j e h => ?_, fun j k e f q h1 h2 h3 h4 => ?_⟩
  · by_cases z : i = j
    · subst z
      rw [List.getElem?_set_self hi] at h
      cases h
    · rw [List.getElem?_set_ne z] at h ⊢
      exact r.val j e h
  · by_cases z : i = j
    · subst z
      rw [List.getElem?_set_self hi] at h
      cases h
      exact ⟨p, List.getElem?_set_self (by omega), ho, od, h0, hf⟩
    · rw [List.getElem?_set_ne z] at h ⊢
      exact r.own j e h
  · by_cases zj : i = j
    · by_cases zk : i = k
      · omega
      · subst zj
        rw [List.getElem?_set_self (by omega)] at h3
        rw [List.getElem?_set_ne zk] at h2 h4
        cases h3
        exact absurd h4 (new k f (fun z => zk z.symm) h2)
    · by_cases zk : i = k
      · subst zk
        rw [List.getElem?_set_self (by omega)] at h4
        rw [List.getElem?_set_ne zj] at h1 h3
        cases h4
        exact absurd h3 (new j e (fun z => zj z.symm) h1)
      · rw [List.getElem?_set_ne zj] at h1 h3
        rw [List.getElem?_set_ne zk] at h2 h4
        exact r.sep j k e f q h1 h2 h3 h4
end
def stoB (c : Ctx) (x : Str) : Bool := c.sto.any fun y => decide (y = x)
section
variable {X : Cx} {c : Ctx} {H0 : Hp} {EX : XK} {γ0 : Gh} {pos : Pos}
theorem StX.stores (T : StX X c) {x : Str} (h : stoB c x = true) : Loc X.env.scope x ∧ (X.fn x = true ∨ X.env.scope.names.lookup x = some .local) := by
  unfold stoB at h
  obtain ⟨y, h1, h2⟩ := List.any_eq_true.mp h
  have e : y = x := of_decide_eq_true h2
  subst e
  rw [T.hs]
  exact T.sto _ h1
theorem pg_dname (T : StX X c) {i : Nat} {x : Str} (hi : c.N[i]? = some x) (hx : stoB c x = true) : PG X (.Name x pos) (tG (X.ci H0 EX) [i] (gN i)) := by
  obtain ⟨hl, hf⟩ := T.stores hx
  refine PG.weak (pg_name (by rw [T.hN]; exact T.nd) (by rw [T.hN]; exact hi) hl hf) fun v σ H Q q => ?_
  obtain ⟨γ, ρ, s, d, ρ', r, hv, e, k⟩ := q
  unfold gN at e
  split at e
  · rename_i hl
    cases e
    exact k _ (fun j hj => List.getElem?_set_ne (fun z => hj (by simp [z]))) (by simp) (r.setVal hv hl)
  · cases e
theorem pgs_dnil : PGs X [] (tGs (X.ci H0 EX) [] gNl) := PGs.weak pgs_nil fun v σ H Q q => by
  obtain ⟨γ, ρ, s, d, ρ', r, hv, e, k⟩ := q
  unfold gNl at e
  split at e
  · cases e; cases hv
    exact ⟨rfl, k σ (fun _ _ => rfl) rfl r⟩
  · cases e
theorem pgs_dcons {e : Expr} {es : List Expr} {is js : List Nat} {g : Tg} {gs : Tgs} (h1 : PG X e (tG (X.ci H0 EX) is g)) (h2 : PGs X es (tGs (X.ci H0 EX) js gs)) (hs : (assignEach (e :: es) X.env).map (·.2) = assign e X.env :: (assignEach es X.env).map (·.2)) :
    PGs X (e :: es) (tGs (X.ci H0 EX) (is ++ js) (gCn g gs)) := PGs.weak (pgs_cons h1 h2 hs) fun v σ H Q q => by
  obtain ⟨γ, ρ, s, ds, ρ', r, hv, e, k⟩ := q
  unfold gCn at e
  split at e
  · obtain ⟨ρ1, e1, e2⟩ := Option.bind_eq_some_iff.mp e
    cases hv with
    | cons hv1 hv2 =>
      refine ⟨_, _, rfl, γ, ρ, s, _, ρ1, r, hv1, e1, fun σ1 d1 l1 r1 => ⟨γ, ρ1, s, _, ρ', r1, hv2, e2, fun σ2 d2 l2 r2 => k σ2 (fun j hj => ?_) (by rw [l2, l1]) r2⟩⟩
      rw [d2 j (fun z => hj (List.mem_append_right _ z)), d1 j (fun z => hj (List.mem_append_left _ z))]
  · cases e
theorem pg_dtup (T : StX X c) {es : List Expr} {n : Nat} {k : Nat} {is : List Nat} {gs : Tgs} (h : PGs X es (tGs (X.ci H0 EX) is gs)) (hn : (assignEach es X.env).length = n) (hst : (assignEach es X.env).findIdx? (·.1) = none) :
    PG X (.Tuple es k pos) (tG (X.ci H0 EX) is (gTp gs n)) := PG.weak (pg_tup T.calm h hn hst) fun v σ H Q q => by
  obtain ⟨γ, ρ, s, d, ρ', r, hv, e, k⟩ := q
  unfold gTp at e
  split at e
  · split at e
    · rename_i hl
      cases hv with
      | tup hp ra =>
        exact ⟨_, _, rfl, r.g.le.tupT hp, by rw [ra.length]; exact hl, γ, ρ, s, _, ρ', r, ra, e, k⟩
    · cases e
  · cases e

/-! ### assignments -/
def mAsg (m : Env → M D) (g : Tg) : MS := fun ρ => m ρ >>= fun d => M.opt (g d ρ) >>= fun ρ' => pure (.nx ρ')
theorem asg_rd {m : Env → M D} {is : List Nat} {g : Tg} {N : Ends} {σ : L2.St} {H : Hp} (q : tS (X.ci H0 EX) γ0 (mAsg m g) N σ H) : tAsg (tE (X.ci H0 EX) m) (tG (X.ci H0 EX) is g) N σ H := by
  obtain ⟨γ, ρ, s, r, x, h⟩ := q
  refine tE.thenS (c := X.ci H0 EX) r x h fun v d s1 H1 γ1 r1 x1 _ hv g1 => ?_
  obtain ⟨ρ', e1, g2⟩ := g1.optE
  exact ⟨γ1, ρ, s1, d, ρ', r1, hv, e1, fun σ' _ _ r2 => GoS.nx (c := X.ci H0 EX) g2 r2 x1⟩
theorem ps_dasg {tg e : Expr} {m : Env → M D} {is : List Nat} {g : Tg} (he : PE X e (tE (X.ci H0 EX) m)) (hg : PG X tg (tG (X.ci H0 EX) is g)) (hs : swapsWithSole [tg] e pos.line X.env = pure false) (hw : swappedStores [tg] e X.env = pure none)
    (h1 : (assignEach [tg] X.env).map (·.2) = [assign tg X.env]) : PS X (.Assign [tg] e pos) (tS (X.ci H0 EX) γ0 (mAsg m g)) := (ps_asg he hg hs hw h1).weak fun N σ H q => asg_rd q
/-- a, b = x, y by plain names: from the right -/
def mPar2 (i j : Nat) (m : Env → M (List D)) : MS := fun ρ => m ρ >>= fun ds => match ds with
  | [d, e] => if i < ρ.length ∧ j < ρ.length then pure (.nx ((ρ.set i (some (.val d))).set j (some (.val e)))) else M.stop
  | _ => M.stop
def mPar3 (i j l : Nat) (m : Env → M (List D)) : MS := fun ρ => m ρ >>= fun ds => match ds with
  | [d, e, f] => if i < ρ.length ∧ j < ρ.length ∧ l < ρ.length then pure (.nx (((ρ.set i (some (.val d))).set j (some (.val e))).set l (some (.val f)))) else M.stop
  | _ => M.stop
theorem ps_dpar2 (T : StX X c) {i j : Nat} {x y : Str} {a b : Expr} {m : Env → M (List D)} {px py pt : Pos} {kt k2 pt2} (hi : c.N[i]? = some x) (hj : c.N[j]? = some y) (hij : i ≠ j) (hx : c.sc.names.lookup x = some .local) (hy : c.sc.names.lookup y = some .local)
    (ha : PA X [a, b] (tEs (X.ci H0 EX) m)) (hw : swappedStores [.Tuple [.Name x px, .Name y py] kt pt] (.Tuple [a, b] k2 pt2) X.env = pure (some [x, y])) (hs : swapsWithSole [.Tuple [.Name x px, .Name y py] kt pt] (.Tuple [a, b] k2 pt2) pos.line X.env = pure false) :
    PS X (.Assign [.Tuple [.Name x px, .Name y py] kt pt] (.Tuple [a, b] k2 pt2) pos) (tS (X.ci H0 EX) γ0 (mPar2 i j m)) := by
  refine (ps_par T.calm (by rw [T.hN]; exact T.nd) (by rw [T.hN]; exact hi) (by rw [T.hN]; exact hj) hij (by rw [T.hs]; exact hx) (by rw [T.hs]; exact hy) ha hw hs).weak fun N σ H q => ?_
  obtain ⟨γ, ρ, s, r, x, h⟩ := q
  refine tEs.thenS (c := X.ci H0 EX) r x h fun vs ds s1 H1 γ1 r1 x1 _ hv g1 => ?_
  split at g1
  · cases hv with
    | cons h1 hv =>
      cases hv with
      | cons h2 hv =>
        cases hv
        split at g1
        · rename_i hl
          exact ⟨_, _, rfl, GoS.nx (c := X.ci H0 EX) g1 ((r1.setVal h1 hl.1).setVal h2 (by simpa using hl.2)) x1⟩
        · exact (gos_stop g1).elim
  · exact (gos_stop g1).elim
theorem ps_dpar3 (T : StX X c) {i j l : Nat} {x y z : Str} {a b e : Expr} {m : Env → M (List D)} {px py pz pt : Pos} {kt k2 pt2} (hi : c.N[i]? = some x) (hj : c.N[j]? = some y) (hl : c.N[l]? = some z) (hij : i ≠ j) (hil : i ≠ l) (hjl : j ≠ l)
    (hx : c.sc.names.lookup x = some .local) (hy : c.sc.names.lookup y = some .local) (hz : c.sc.names.lookup z = some .local)
    (ha : PA X [a, b, e] (tEs (X.ci H0 EX) m)) (hw : swappedStores [.Tuple [.Name x px, .Name y py, .Name z pz] kt pt] (.Tuple [a, b, e] k2 pt2) X.env = pure (some [x, y, z])) (hs : swapsWithSole [.Tuple [.Name x px, .Name y py, .Name z pz] kt pt] (.Tuple [a, b, e] k2 pt2) pos.line X.env = pure false) :
    PS X (.Assign [.Tuple [.Name x px, .Name y py, .Name z pz] kt pt] (.Tuple [a, b, e] k2 pt2) pos) (tS (X.ci H0 EX) γ0 (mPar3 i j l m)) := by
  refine (ps_par3 T.calm (by rw [T.hN]; exact T.nd) (by rw [T.hN]; exact hi) (by rw [T.hN]; exact hj) (by rw [T.hN]; exact hl) hij hil hjl (by rw [T.hs]; exact hx) (by rw [T.hs]; exact hy) (by rw [T.hs]; exact hz) ha hw hs).weak fun N σ H q => ?_
  obtain ⟨γ, ρ, s, r, x, h⟩ := q
  refine tEs.thenS (c := X.ci H0 EX) r x h fun vs ds s1 H1 γ1 r1 x1 _ hv g1 => ?_
  split at g1
  · cases hv with
    | cons h1 hv =>
      cases hv with
      | cons h2 hv =>
        cases hv with
        | cons h3 hv =>
          cases hv
          split at g1
          · rename_i hl
            exact ⟨_, _, _, rfl, GoS.nx (c := X.ci H0 EX) g1 (((r1.setVal h1 hl.1).setVal h2 (by simpa using hl.2.1)).setVal h3 (by simpa using hl.2.2)) x1⟩
          · exact (gos_stop g1).elim
  · exact (gos_stop g1).elim
end
end RS

namespace RS
open PySem PySem.Spec PyProof.Rows L2

/-! ### enumerate(tuple) -/
def ItnT (K : PySem.W.Frag) (a : Addr) : It where
  go i H := ∃ (xs : List V) (x : V), SqT K H a xs ∧ xs[i]? = some x
  yld i H v H' := ∃ T x, v = .ref T ∧ H T = none ∧ H' = upd H T (.tup [.int (i : Nat), x]) ∧ ∀ xs, SqT K H a xs → xs[i]? = some x
  stop i H := ∃ xs : List V, SqT K H a xs ∧ xs.length ≤ i
theorem two_of {b e it : Addr} (h : b ∈ [e, it]) : b = e ∨ b = it := by simpa using h
theorem turn_enumTup {P : Program} {w : World} {K : PySem.W.Frag} {elts : List Expr} {kk : Nat} {tpos : Pos} (a e it : Addr) :
    Turn P w K (.Tuple elts kk tpos) (ItnT K a) [e, it] e fun i h => (∃ old, IsEnum h e it ((i : Nat) : Int) old) ∧ h.IsTupleIter it a i ∧ e ≠ it := by
  refine { mem := List.mem_cons_self, obj := ?_, keep := ?_, item := ?_, done := ?_, self := ?_ }
  · rintro i h ⟨⟨old, he⟩, ⟨o, ho, hc, hd⟩, _⟩ b hb
    rcases two_of hb with rfl | rfl
    · exact ⟨_, he, fun v q => nomatch q⟩
    · exact ⟨o, ho, fun v q => by rw [hd] at q; cases q⟩
  · rintro i h h' ⟨⟨old, he⟩, hi, hne⟩ k
    exact ⟨⟨old, k e (by simp) _ he⟩, hi.at fun o q => k it (by simp) o q, hne⟩
  · intro X hP hw hK hc i pins s σ H E I hf st hg
    subst hP hw hK
    obtain ⟨⟨old, he⟩, hit, hne⟩ := st
    obtain ⟨xs, x, hq, hx⟩ := hg
    obtain ⟨its, rv, p, hz⟩ := I.tuple hq
    obtain ⟨u, hu, ru⟩ := rv.get hx
    have hel : e < s.heap.objs.size := Heap.lt_size he
    have hil : it < s.heap.objs.size := by obtain ⟨_, q, _⟩ := hit; exact Heap.lt_size q
    have pT : s.heap.IsTuple a its.toArray := p
    have hae : a ≠ e := fun z => by
      obtain ⟨o, e1, e2, _⟩ := pT
      rw [z, he] at e1; cases e1
      simp at e2
    have hai : a ≠ it := fun z => by
      obtain ⟨o, e1, e2, _⟩ := pT
      obtain ⟨o', e1', e2', _⟩ := hit
      rw [z, e1'] at e1; cases e1
      rw [e2'] at e2; simp at e2
    have hlt : i < its.toArray.size := by
      have := List.getElem?_eq_some_iff.mp hu
      obtain ⟨h1, _⟩ := this
      simpa using h1
    refine wpAny_pyNext_enum_itemD (Draws.tuple (A := X.A.in1) (I.ok.hd hc) it a hai its.toArray) he ⟨hit, pT⟩ hlt hne (by simp [hne, Ne.symm hae]) fun y h' tk hy ho hst' hT hsz hk => ?_
    have ey : y = u := by
      have h1 : its.toArray[i]? = some y := hy
      have h2 : its.toArray[i]? = some u := by simpa using hu
      rw [h2] at h1; exact (Option.some.inj h1).symm
    subst ey
    obtain ⟨hit', _⟩ := hst'
    refine ⟨_, rfl, wpAny_letOwnedTupleGo_enum (s := { s with heap := h', toks := tk + 1 }) ho fun h'' he' sb => ?_⟩
    have hT2 : h''.get? s.heap.objs.size = some { cls := .type "tuple", data := .seq #[.int i tk, y] } := (sb.2 _ (Nat.ne_of_gt hel)).trans hT
    have new : ObjOk X.prog X.w (upd H s.heap.objs.size (.tup [.int (i : Nat), x])) h'' s.heap.objs.size (.tup [.int (i : Nat), x]) :=
      ⟨(show 2 ≤ sizeLine by decide), [.int i tk, y], Paired.cons ⟨tk, rfl⟩ (Paired.cons ru Paired.nil), ⟨_, hT2, rfl, _, rfl⟩⟩
    have I1 : Inv X pins σ (upd H s.heap.objs.size (.tup [.int (i : Nat), x])) { s with heap := h'', toks := tk + 1 } := by
      refine I.turnedNew (ch := [e, it]) (fun b ob hb q => ?_) hf (Nat.le_refl _) new
      have b1 : b ≠ e := fun z => hb (by simp [z])
      exact (sb.2 b b1).trans (hk b ob b1 (fun z => hb (by simp [z])) q)
    refine ⟨.ref s.heap.objs.size, _, I1, rfl, ⟨_, x, rfl, I.hok.fresh (Nat.le_refl _), rfl, fun ys hy => by rw [I.tuple_inj hy hq]; exact hx⟩, ⟨⟨y, ?_⟩, hit'.at fun o q => (sb.2 it (Ne.symm hne)).trans q, hne⟩, fun b hb => ?_⟩
    · rw [show ((i + 1 : Nat) : Int) = (i : Int) + 1 by omega]; exact he'
    · have hb' : b < s.heap.objs.size := by
        rcases two_of hb with z | z
        · rw [z]; exact hel
        · rw [z]; exact hil
      rw [upd_ne (Nat.ne_of_lt hb')]
      exact (hf b hb).1
  · intro X hP hw hK hc i pins s σ H E I hf st hg
    subst hP hw hK
    obtain ⟨⟨old, he⟩, hit, hne⟩ := st
    obtain ⟨xs, hq, hx⟩ := hg
    obtain ⟨its, rv, p, hz⟩ := I.tuple hq
    obtain ⟨f0, f1, f2, f3, f4, f5⟩ := hf it (by simp)
    have pT : s.heap.IsTuple a its.toArray := p
    have hl := rv.length
    have hT : s.TypeIs (.ref e) "enumerate" := ⟨_, he, rfl⟩
    unfold pyNext
    refine wpAny_bind (wpAny_attempt (wpAny_callSpecial?_slot (name := Str.ofString "__next__") hT F.slot_enumerate_next
      (wpAny_call_entry F.slot_enumerate_next hT F.entry_enumerate_next ?_ (F.args_enumerate_next_1 _))))
    show wpAny _ _ (field (.ref e) 2 >>= _) _ _ _
    refine wpAny_bind (wpAny_field he rfl (x := .ref it) rfl (wpAny_bind (wpAny_nextOf_tuple_end (I.ok.hd hc) hit pT (by simp; omega) fun h' x he' hx' => ?_)))
    obtain ⟨o, ho, hcl⟩ := hx'
    refine wpAny_bind (wpAny_isInstance (T := "StopIteration") (b := true) ⟨o, ho, hcl⟩ isSubtype_stop (wpAny_pure ⟨rfl, ?_⟩))
    exact I.turned (t' := s.toks) (fun b o hb q => he' b o hb q) f0 f1 f3 f4 f5
  · intro A i s Q E st h
    obtain ⟨⟨_, he⟩, _⟩ := st
    exact wpAny_pyIter_enum he h
theorem meets_enumerate_newTup (l : Addr) (items : Array Value) :
    Meets (Builtin.«enumerate.__new__» ⟨[.type "enumerate", .ref l], []⟩) (fun _ R s => s.heap.IsTuple l items ∧
      R (.ok (.ret (.ref (s.heap.push { cls := .type "tuple_iterator", data := .fields #[.ref l, .int 0 0] }).objs.size)))
        { s with heap := (s.heap.push { cls := .type "tuple_iterator", data := .fields #[.ref l, .int 0 0] }).push { cls := .type "enumerate", data := .fields #[.none, .bool false, .ref s.heap.objs.size, rawInt 0, .none, .none] } }) :=
  .of_wp fun prog w A R s h => by
    obtain ⟨hp, g, d, tk, os⟩ := s
    obtain ⟨hl, h⟩ := h
    have hsub := sub_enumerate
    have hL : Heap.IsTuple (Shared.heap ⟨hp, g, d, tk, os⟩) l items := hl
    obtain ⟨ol, hol, hcl, hdl⟩ := id hL
    wp_walk using AutoSeq1.wpAny_loadPart' hol
    refine wpAny_stack_any fun st => wpAny_pure ?_
    split
    · rename_i c _ _ _ _ _
      cases (c == Value.type "enumerate") <;>
        (wp_walk using AutoSeq1.wpAny_loadPart' hol, wpAny_pyIter_tuple hL
         exact ⟨_, rfl, h⟩)
    · wp_walk using AutoSeq1.wpAny_loadPart' hol, wpAny_pyIter_tuple hL
      exact ⟨_, rfl, h⟩
theorem call_enumerate_tuple {prog : Program} {w : World} {A : Around} {E : Value → Shared → Prop} {s : Shared} {l : Addr} {items : Array Value} {Q : Value → Shared → Prop} (hL : s.heap.IsTuple l items)
    (h : ∀ h', IsEnum h' (s.heap.objs.size + 1) s.heap.objs.size 0 .none → h'.IsTupleIter s.heap.objs.size l 0 → h'.objs.size = s.heap.objs.size + 2 → (∀ b o, s.heap.get? b = some o → h'.get? b = some o) → Q (.ref (s.heap.objs.size + 1)) { s with heap := h' }) :
    wpAny (model prog w) A (call (.type "enumerate") [.ref l]) Q E s := by
  refine callType_new F.called_enumerate (by decide) (F.typeCall_enumerate_1 _) (F.newCall_enumerate_1 _) (fun obj => F.args_object_init_2 obj _) F.entry_enumerate_new (meets_enumerate_newTup l items) ⟨hL, ?_⟩
  generalize hg1 : s.heap.push { cls := .type "tuple_iterator", data := .fields #[.ref l, .int 0 0] } = h1
  have hz : h1.objs.size = s.heap.objs.size + 1 := by rw [← hg1]; exact Heap.size_push ..
  have e1 : h1.get? s.heap.objs.size = some { cls := .type "tuple_iterator", data := .fields #[.ref l, .int 0 0] } := by rw [← hg1]; exact Heap.get?_push_size _ rfl
  have kp : ∀ b o, s.heap.get? b = some o → h1.get? b = some o := fun b o q => by rw [← hg1]; exact Heap.get?_push_of_some _ q
  have he := Heap.get?_push_size h1 (o := { cls := .type "enumerate", data := .fields #[.none, .bool false, .ref s.heap.objs.size, rawInt 0, .none, .none] }) rfl
  rw [hz] at he
  show _ ∧ _
  rw [hz]
  exact ⟨⟨_, he, rfl⟩, h _ he ⟨_, Heap.get?_push_of_some _ e1, rfl, rfl⟩ (by rw [Heap.size_push, hz]) fun b o q => Heap.get?_push_of_some _ (kp b o q)⟩
/-- enumerate of a list or of a tuple -/
def iEnumA (K : PySem.W.Frag) (ta : TA) : TI := fun σ H R => ta σ H fun vs H1 => ∃ a xs, vs = [.ref a] ∧ ((SqL K H1 a xs ∧ R (Ite K a) H1) ∨ (SqT K H1 a xs ∧ R (ItnT K a) H1))
theorem pi_enumA {X : Cx} {e : Expr} {ta : TA} {p pos tpos : Pos} {elts : List Expr} {kk : Nat} (hg : Gl X "enumerate") (hm : X.mg "enumerate" = none) (ha : PA X [e] ta) (hs : starEach [e] X.env = [(false, eval e X.env)]) :
    PI X (.Tuple elts kk tpos) (.Call (.Name "enumerate" p) [e] [] pos) (iEnumA X.K ta) := by
  refine ⟨fun pins s σ H R I h => Call_ (ld_blt I hg hm boot_enumerate (PyProof.Rows.callWith_type1 (thn (ha.run pos pins s σ H _ I h) ?_) hs rfl))⟩
  rintro us s1 ⟨vs, H1, I1, r1, a, xs, ex, q1⟩
  subst ex
  cases r1 with
  | cons r rr =>
    cases rr
    cases r
    have fresh : ∀ b, b ∈ [s1.heap.objs.size + 1, s1.heap.objs.size] → FpOk X pins H1 b := fun b hb => by
      have hle : s1.heap.objs.size ≤ b := by
        rcases two_of hb with z | z
        · rw [z]; exact Nat.le_add_right _ _
        · rw [z]; exact Nat.le_refl _
      exact I1.fpOk hle (I1.hok.fresh hle)
    rcases q1 with ⟨hq, q⟩ | ⟨hq, q⟩
    · obtain ⟨its, rv, p', hz⟩ := I1.list hq
      refine call_enumerate_list p'.isList fun h' he hit hsz hk => wpAny_pyIter_enum he ?_
      exact ⟨_, _, _, _, H1, rfl, I1.kept (t' := s1.toks) hk, turn_enum a (s1.heap.objs.size + 1) s1.heap.objs.size, ⟨⟨.none, he⟩, hit, Nat.succ_ne_self _⟩, fresh, q⟩
    · obtain ⟨its, rv, p', hz⟩ := I1.tuple hq
      refine call_enumerate_tuple (show s1.heap.IsTuple a its.toArray from p') fun h' he hit hsz hk => wpAny_pyIter_enum he ?_
      exact ⟨_, _, _, _, H1, rfl, I1.kept (t' := s1.toks) hk, turn_enumTup a (s1.heap.objs.size + 1) s1.heap.objs.size, ⟨⟨.none, he⟩, hit, Nat.succ_ne_self _⟩, fresh, q⟩
/-- a list or a tuple -/
def iSeqA (K : PySem.W.Frag) (tl : TE) : TI := fun σ H R => tl σ H fun x H1 => ∃ a xs, x = .ref a ∧ ((SqL K H1 a xs ∧ R (Itl K a) H1) ∨ (SqT K H1 a xs ∧ R (Itt K a) H1))
theorem pi_seqA {X : Cx} {tg l : Expr} {tl : TE} (hl : PE X l tl) : PI X tg l (iSeqA X.K tl) := by
  refine ⟨fun pins s σ H R I h => thn (hl.run pins s σ H _ I h) ?_⟩
  rintro v s1 ⟨x, H1, I1, r1, a, xs, rfl, q1⟩
  cases r1
  have fresh : ∀ b, b ∈ [s1.heap.objs.size] → FpOk X pins H1 b := fun b hb => by
    rw [List.mem_singleton.mp hb]
    exact I1.fpOk (Nat.le_refl _) (I1.hok.fresh (Nat.le_refl _))
  have kp : ∀ o, Inv X pins σ H1 { s1 with heap := s1.heap.push o } := fun o => I1.kept (t' := s1.toks) fun b u e => Heap.get?_push_of_some _ e
  rcases q1 with ⟨hq, q⟩ | ⟨hq, q⟩
  · obtain ⟨its, rv, p, hz⟩ := I1.list hq
    exact wpAny_pyIter_list p.isList ⟨_, [s1.heap.objs.size], _, _, H1, rfl, kp _, turn_list a _, ⟨_, Heap.get?_push_size _ rfl, rfl, rfl⟩, fresh, q⟩
  · obtain ⟨its, rv, p, hz⟩ := I1.tuple hq
    exact wpAny_pyIter_tuple (show s1.heap.IsTuple a its.toArray from p) ⟨_, [s1.heap.objs.size], _, _, H1, rfl, kp _, turn_tuple a _, ⟨_, Heap.get?_push_size _ rfl, rfl, rfl⟩, fresh, q⟩
end RS

namespace RS
open PySem PySem.Spec PyProof.Rows L2

/-! ### what is walked -/
structure WalkD (K : PySem.W.Frag) (γ0 : Gh) (J : It) (ds : List D) : Prop where
  go : ∀ i H γ s, GWf H γ s → GLe γ0 γ → i < ds.length → J.go i H
  yld : ∀ i H γ s x H' d, GWf H γ s → GLe γ0 γ → J.yld i H x H' → ds[i]? = some d → ∃ γ', Step γ H γ' H' ∧ GWf H' γ' s ∧ Rep K γ' x d
  stop : ∀ H γ s, GWf H γ s → GLe γ0 γ → J.stop ds.length H
def tI (c : CxI) (m : Env → M (List D)) : TI := fun σ H R => ∃ γ ρ s, SR c.K c.H0 σ H γ ρ s ∧ Goes c.K c.mg c.EX γ H (m ρ s) fun ds _ H' γ' => ∀ J, WalkD c.K γ' J ds → R J H'
theorem PI.weak {X : Cx} {tg e : Expr} {t t' : TI} (h : PI X tg e t) (w : ∀ σ H R, t' σ H R → t σ H R) : PI X tg e t' := ⟨fun pins s σ H R I q => h.run pins s σ H R I (w _ _ _ q)⟩
section
variable {K : PySem.W.Frag} {γ0 : Gh} {ds es : List D}
theorem get_some {α : Type} {l : List α} {i : Nat} (h : i < l.length) : ∃ x, l[i]? = some x := ⟨l[i], List.getElem?_eq_getElem h⟩
theorem Same.seqT {H H' : Hp} {a : Addr} {xs : List V} (e : Same H H') (h : SqT K H a xs) : SqT K H' a xs := e.tupT h
theorem walk_lst {a : Addr} {vs : List V} (h : γ0.F a = some (.lst vs)) (r : RepAll K γ0 vs ds) : WalkD K γ0 (Itl K a) ds where
  go i H γ s g l hi := by
    obtain ⟨x, hx⟩ := get_some (l := vs) (i := i) (by rw [r.length]; exact hi)
    exact ⟨vs, x, SqL.of (g.le _ _ (l.F _ _ h)), hx⟩
  yld i H γ s x H' d g l y hd := by
    obtain ⟨rfl, y⟩ := y
    have hx := y vs (SqL.of (g.le _ _ (l.F _ _ h)))
    obtain ⟨v, h1, h2⟩ := r.get hd
    rw [h1] at hx; cases hx
    exact ⟨γ, Step.refl _ _, g, h2.le l⟩
  stop H γ s g l := ⟨vs, SqL.of (g.le _ _ (l.F _ _ h)), by rw [r.length]; exact Nat.le_refl _⟩
theorem walk_scr {a : Addr} {ns : List Int} (h : SqL K γ0.F a (ns.map V.int)) : WalkD K γ0 (Itl K a) (ns.map .int) where
  go i H γ s g l hi := by
    obtain ⟨x, hx⟩ := get_some (l := ns.map V.int) (i := i) (by simpa using hi)
    exact ⟨_, x, g.le.seq (l.F.seq h), hx⟩
  yld i H γ s x H' d g l y hd := by
    obtain ⟨rfl, y⟩ := y
    have hx := y _ (g.le.seq (l.F.seq h))
    obtain ⟨v, h1, h2⟩ := (RepAll.ints (K := K) (γ := γ)).get hd
    rw [h1] at hx; cases hx
    exact ⟨γ, Step.refl _ _, g, h2⟩
  stop H γ s g l := ⟨_, g.le.seq (l.F.seq h), by simp⟩
theorem walk_tup {a : Addr} {vs : List V} (h : SqT K γ0.F a vs) (r : RepAll K γ0 vs ds) : WalkD K γ0 (Itt K a) ds where
  go i H γ s g l hi := by
    obtain ⟨x, hx⟩ := get_some (l := vs) (i := i) (by rw [r.length]; exact hi)
    exact ⟨vs, x, g.le.tupT (l.F.tupT h), hx⟩
  yld i H γ s x H' d g l y hd := by
    obtain ⟨rfl, y⟩ := y
    have hx := y vs (g.le.tupT (l.F.tupT h))
    obtain ⟨v, h1, h2⟩ := r.get hd
    rw [h1] at hx; cases hx
    exact ⟨γ, Step.refl _ _, g, h2.le l⟩
  stop H γ s g l := ⟨vs, g.le.tupT (l.F.tupT h), by rw [r.length]; exact Nat.le_refl _⟩
/-- what a new pair is -/
theorem new_pair {H : Hp} {γ : Gh} {s : DS} {T : Addr} {x y : V} {d e : D} (g : GWf H γ s) (hT : H T = none) (hx : Rep K γ x d) (hy : Rep K γ y e) : ∃ γ', Step γ H γ' (upd H T (.tup [x, y])) ∧ GWf (upd H T (.tup [x, y])) γ' s ∧ Rep K γ' (.ref T) (.tup [d, e]) := by
  obtain ⟨g2, x2⟩ := Step.put (o := .tup [x, y]) g hT
  exact ⟨_, x2, g2, .tup (.inl (.inl upd_same)) (.cons (hx.le x2.g) (.cons (hy.le x2.g) .nil))⟩
/-- numbered -/
def dNum : Nat → List D → List D
  | _, [] => []
  | i, d :: r => .tup [.int (i : Nat), d] :: dNum (i + 1) r
theorem dNum_length : ∀ {ds : List D} {i : Nat}, (dNum i ds).length = ds.length
  | [], _ => rfl
  | _ :: r, i => congrArg Nat.succ (dNum_length (ds := r))
theorem dNum_get : ∀ {ds : List D} {k i : Nat} {d : D}, (dNum k ds)[i]? = some d → ∃ e, ds[i]? = some e ∧ d = .tup [.int ((k + i : Nat) : Int), e]
  | [], _, _, _, h => by simp [dNum] at h
  | e :: r, k, 0, d, h => by
    simp [dNum] at h
    exact ⟨e, rfl, h.symm⟩
  | e :: r, k, i + 1, d, h => by
    have h2 : (dNum (k + 1) r)[i]? = some d := by simpa [dNum] using h
    obtain ⟨e2, h3, h4⟩ := dNum_get h2
    exact ⟨e2, by simpa using h3, by rw [h4]; congr 4; omega⟩
theorem walk_numL {a : Addr} {vs : List V} (h : γ0.F a = some (.lst vs)) (r : RepAll K γ0 vs ds) : WalkD K γ0 (Ite K a) (dNum 0 ds) where
  go i H γ s g l hi := by
    obtain ⟨x, hx⟩ := get_some (l := vs) (i := i) (by rw [r.length, ← dNum_length (i := 0)]; exact hi)
    exact ⟨vs, x, SqL.of (g.le _ _ (l.F _ _ h)), hx⟩
  yld i H γ s x H' d g l y hd := by
    obtain ⟨T, w, rfl, hT, rfl, y⟩ := y
    have hx := y vs (SqL.of (g.le _ _ (l.F _ _ h)))
    obtain ⟨e, hd2, rfl⟩ := dNum_get hd
    obtain ⟨v, h1, h2⟩ := r.get hd2
    rw [h1] at hx; cases hx
    rw [Nat.zero_add]
    exact new_pair g hT (.int _) (h2.le l)
  stop H γ s g l := ⟨vs, SqL.of (g.le _ _ (l.F _ _ h)), by rw [r.length, dNum_length]; exact Nat.le_refl _⟩
theorem walk_numT {a : Addr} {vs : List V} (h : SqT K γ0.F a vs) (r : RepAll K γ0 vs ds) : WalkD K γ0 (ItnT K a) (dNum 0 ds) where
  go i H γ s g l hi := by
    obtain ⟨x, hx⟩ := get_some (l := vs) (i := i) (by rw [r.length, ← dNum_length (i := 0)]; exact hi)
    exact ⟨vs, x, g.le.tupT (l.F.tupT h), hx⟩
  yld i H γ s x H' d g l y hd := by
    obtain ⟨T, w, rfl, hT, rfl, y⟩ := y
    have hx := y vs (g.le.tupT (l.F.tupT h))
    obtain ⟨e, hd2, rfl⟩ := dNum_get hd
    obtain ⟨v, h1, h2⟩ := r.get hd2
    rw [h1] at hx; cases hx
    rw [Nat.zero_add]
    exact new_pair g hT (.int _) (h2.le l)
  stop H γ s g l := ⟨vs, g.le.tupT (l.F.tupT h), by rw [r.length, dNum_length]; exact Nat.le_refl _⟩
def dZip : List D → List D → List D
  | d :: ds, e :: es => .tup [d, e] :: dZip ds es
  | _, _ => []
theorem dZip_length : ∀ {ds es : List D}, (dZip ds es).length = min ds.length es.length
  | [], _ => by simp [dZip]
  | _ :: _, [] => by simp [dZip]
  | _ :: ds, _ :: es => by
    show Nat.succ (dZip ds es).length = _
    rw [dZip_length]
    simp only [List.length_cons]; omega
theorem dZip_get : ∀ {ds es : List D} {i : Nat} {d : D}, (dZip ds es)[i]? = some d → ∃ x y, ds[i]? = some x ∧ es[i]? = some y ∧ d = .tup [x, y]
  | [], _, _, _, h => by simp [dZip] at h
  | _ :: _, [], _, _, h => by simp [dZip] at h
  | x :: _, y :: _, 0, d, h => by
    simp [dZip] at h
    exact ⟨x, y, rfl, rfl, h.symm⟩
  | _ :: ds, _ :: es, i + 1, d, h => by
    have h2 : (dZip ds es)[i]? = some d := by simpa [dZip] using h
    obtain ⟨x, y, h3, h4, h5⟩ := dZip_get h2
    exact ⟨x, y, by simpa using h3, by simpa using h4, h5⟩
/-- frozen, a list or a tuple -/
def FzK (K : PySem.W.Frag) (γ : Gh) : Bool → Addr → List V → Prop
  | true, a, xs => SqT K γ.F a xs
  | false, a, xs => γ.F a = some (.lst xs)
theorem FzK.sq {k : Bool} {γ γ1 : Gh} {a : Addr} {xs : List V} {H : Hp} {s : DS} (h : FzK K γ k a xs) (l : GLe γ γ1) (g : GWf H γ1 s) : RK.SqK k K H a xs := by
  cases k
  · exact SqL.of (g.le _ _ (l.F _ _ h))
  · exact g.le.tupT (l.F.tupT h)
theorem walk_zipK {ka kb : Bool} {a b : Addr} {vs ws : List V} (h : FzK K γ0 ka a vs) (r : RepAll K γ0 vs ds) (h' : FzK K γ0 kb b ws) (r' : RepAll K γ0 ws es) : WalkD K γ0 (RK.ItzK ka kb K a b) (dZip ds es) where
  go i H γ s g l hi := by
    rw [dZip_length] at hi
    obtain ⟨x, hx⟩ := get_some (l := vs) (i := i) (by rw [r.length]; omega)
    obtain ⟨y, hy⟩ := get_some (l := ws) (i := i) (by rw [r'.length]; omega)
    exact ⟨vs, ws, x, y, h.sq l g, h'.sq l g, hx, hy⟩
  yld i H γ s x H' d g l y hd := by
    obtain ⟨T, u, w, rfl, hT, rfl, y1, y2⟩ := y
    have hx := y1 vs (h.sq l g)
    have hy := y2 ws (h'.sq l g)
    obtain ⟨e1, e2, hd1, hd2, rfl⟩ := dZip_get hd
    obtain ⟨v, k1, k2⟩ := r.get hd1
    rw [k1] at hx; cases hx
    obtain ⟨v, k1, k3⟩ := r'.get hd2
    rw [k1] at hy; cases hy
    exact new_pair g hT (k2.le l) (k3.le l)
  stop H γ s g l := ⟨vs, ws, h.sq l g, h'.sq l g, by rw [r.length, r'.length, dZip_length]; omega⟩
def dUp (lo : Int) : Nat → List D
  | 0 => []
  | n + 1 => .int lo :: dUp (lo + 1) n
theorem dUp_length : ∀ {n : Nat} {lo : Int}, (dUp lo n).length = n
  | 0, _ => rfl
  | n + 1, _ => congrArg Nat.succ (dUp_length (n := n))
theorem dUp_get : ∀ {n i : Nat} {lo : Int} {d : D}, (dUp lo n)[i]? = some d → d = .int (lo + i)
  | 0, _, _, _, h => by simp [dUp] at h
  | n + 1, 0, lo, d, h => by
    simp [dUp] at h
    rw [← h]; simp
  | n + 1, i + 1, lo, d, h => by
    have h2 : (dUp (lo + 1) n)[i]? = some d := by simpa [dUp] using h
    rw [dUp_get h2]
    congr 1
    omega
theorem walk_up {lo : Int} {n : Nat} : WalkD K γ0 (Itr lo n) (dUp lo n) where
  go i H γ s g l hi := by rw [dUp_length] at hi; exact hi
  yld i H γ s x H' d g l y hd := by
    obtain ⟨rfl, rfl⟩ := y
    rw [dUp_get hd]
    exact ⟨γ, Step.refl _ _, g, .int _⟩
  stop H γ s g l := (show n ≤ (dUp lo n).length by rw [dUp_length]; exact Nat.le_refl _)
end

/-! ### sources -/
def dSeq : D → Option (List D)
  | .lst xs => some xs
  | .tup xs => some xs
  | .scr ns => some (ns.map .int)
  | _ => none
def mSeqI (m : Env → M D) : Env → M (List D) := fun ρ => m ρ >>= fun d => M.opt (dSeq d)
def wide (j : Int) : Bool := decide (-(2 ^ 62) ≤ j) && decide (j < 2 ^ 62)
theorem wide_of {j : Int} (h : wide j = true) : -(2 ^ 62) ≤ j ∧ j < 2 ^ 62 := by
  unfold wide at h
  simp only [Bool.and_eq_true, decide_eq_true_eq] at h
  exact h
def dRng1 : D → Option (List D)
  | .int j => if wide j = true then some (dUp 0 j.toNat) else none
  | _ => none
def dRng2 : D → D → Option (List D)
  | .int i, .int j => if wide i = true ∧ wide j = true then some (dUp i (j - i).toNat) else none
  | _, _ => none
def mRngI1 (a : Env → M D) : Env → M (List D) := fun ρ => a ρ >>= fun d => M.opt (dRng1 d)
def mRngI2 (a b : Env → M D) : Env → M (List D) := fun ρ => a ρ >>= fun d => b ρ >>= fun e => M.opt (dRng2 d e)
def dEnumI : D → Option (List D)
  | .lst xs => some (dNum 0 xs)
  | .tup xs => some (dNum 0 xs)
  | _ => none
def mEnumI (m : Env → M D) : Env → M (List D) := fun ρ => m ρ >>= fun d => M.opt (dEnumI d)
def dZipI : D → D → Option (List D)
  | .lst xs, .lst ys => some (dZip xs ys)
  | .tup xs, .tup ys => some (dZip xs ys)
  | .lst xs, .tup ys => some (dZip xs ys)
  | .tup xs, .lst ys => some (dZip xs ys)
  | _, _ => none
def mZipI (a b : Env → M D) : Env → M (List D) := fun ρ => a ρ >>= fun d => b ρ >>= fun e => M.opt (dZipI d e)
section
variable {X : Cx} {c : Ctx} {H0 : Hp} {EX : XK} {tg : Expr} {p pos tpos : Pos} {elts : List Expr} {kk : Nat}
theorem star1 {e : Expr} {env : PySem.Env} (h : isStar e = false) : starEach [e] env = [(false, eval e env)] := star_no h
theorem star2 {a b : Expr} {env : PySem.Env} (h : isStar a = false) (h' : isStar b = false) : starEach [a, b] env = [(false, eval a env), (false, eval b env)] := by rw [star_no h, star1 h']
theorem pi_dseq {e : Expr} {m : Env → M D} (he : PE X e (tE (X.ci H0 EX) m)) : PI X tg e (tI (X.ci H0 EX) (mSeqI m)) := PI.weak (pi_seqA he) fun σ H R q => by
  obtain ⟨γ, ρ, s, r, g⟩ := q
  refine tE.then (c := X.ci H0 EX) r g fun v d s1 H1 γ1 r1 x1 hv g1 => ?_
  obtain ⟨ds, e1, k⟩ := g1.optE
  have k1 := k H1 γ1 (Step.refl _ _) r1.g
  unfold dSeq at e1
  split at e1
  · cases e1
    cases hv with
    | lst h1 h2 => exact ⟨_, _, rfl, .inl ⟨SqL.of (r1.g.le _ _ h1), k1 _ (walk_lst h1 h2)⟩⟩
  · cases e1
    cases hv with
    | tup h1 h2 => exact ⟨_, _, rfl, .inr ⟨r1.g.le.tupT h1, k1 _ (walk_tup h1 h2)⟩⟩
  · cases e1
    cases hv with
    | scr h1 => exact ⟨_, _, rfl, .inl ⟨r1.g.le.seq h1, k1 _ (walk_scr h1)⟩⟩
  · cases e1
theorem pa1 {a : Expr} {ta : TE} (ha : PE X a ta) (hn : isStar a = false) : PA X [a] (fun σ H Q => ta σ H fun v H1 => Q [v] H1) := pa_cons ha pa_nil (star_no hn)
theorem pa2 {a b : Expr} {ta tb : TE} (ha : PE X a ta) (hb : PE X b tb) (hn : isStar a = false) (hn' : isStar b = false) : PA X [a, b] (fun σ H Q => ta σ H fun v H1 => tb σ H1 fun w H2 => Q [v, w] H2) := pa_cons ha (pa_cons hb pa_nil (star_no hn')) (star_no hn)
abbrev gB : Option NameKind := some .globalImplicit
theorem pi_drng1 (T : StX X c) {a : Expr} {m : Env → M D} (hg : c.sc.names.lookup (Str.ofString "range") = gB) (hm : X.mg "range" = none) (hn : isStar a = false) (ha : PE X a (tO (X.ci H0 EX) m)) : PI X tg (.Call (.Name "range" p) [a] [] pos) (tI (X.ci H0 EX) (mRngI1 m)) :=
  PI.weak (pi_range1 (kind_of T hg) hm (pa1 ha hn) (star1 hn)) fun σ H R q => by
    obtain ⟨γ, ρ, s, r, g⟩ := q
    refine tO.then (c := X.ci H0 EX) r g fun v d s1 H1 γ1 r1 x1 hv g1 => ?_
    obtain ⟨ds, e1, k⟩ := g1.optE
    have k1 := k H1 γ1 (Step.refl _ _) r1.g
    unfold dRng1 at e1
    split at e1
    · split at e1
      · rename_i hw
        cases e1
        cases hv.int
        exact ⟨_, rfl, (wide_of hw).1, (wide_of hw).2, k1 _ walk_up⟩
      · cases e1
    · cases e1
theorem pi_drng2 (T : StX X c) {a b : Expr} {m m' : Env → M D} (hg : c.sc.names.lookup (Str.ofString "range") = gB) (hm : X.mg "range" = none) (hn : isStar a = false) (hn' : isStar b = false) (ha : PE X a (tO (X.ci H0 EX) m)) (hb : PE X b (tO (X.ci H0 EX) m')) :
    PI X tg (.Call (.Name "range" p) [a, b] [] pos) (tI (X.ci H0 EX) (mRngI2 m m')) :=
  PI.weak (pi_range2 (kind_of T hg) hm (pa2 ha hb hn hn') (star2 hn hn') (star1 hn')) fun σ H R q => by
    obtain ⟨γ, ρ, s, r, g⟩ := q
    refine tO.then (c := X.ci H0 EX) r g fun v d s1 H1 γ1 r1 x1 hv g1 => tO.then (c := X.ci H0 EX) r1 g1 fun w e s2 H2 γ2 r2 x2 hw g2 => ?_
    obtain ⟨ds, e1, k⟩ := g2.optE
    have k1 := k H2 γ2 (Step.refl _ _) r2.g
    unfold dRng2 at e1
    split at e1
    · split at e1
      · rename_i hk
        cases e1
        cases hv.int; cases hw.int
        exact ⟨_, _, rfl, ⟨(wide_of hk.1).1, (wide_of hk.1).2, (wide_of hk.2).1, (wide_of hk.2).2⟩, k1 _ walk_up⟩
      · cases e1
    · cases e1
theorem pi_denum (T : StX X c) {a : Expr} {m : Env → M D} (hg : c.sc.names.lookup (Str.ofString "enumerate") = gB) (hm : X.mg "enumerate" = none) (hn : isStar a = false) (ha : PE X a (tE (X.ci H0 EX) m)) : PI X (.Tuple elts kk tpos) (.Call (.Name "enumerate" p) [a] [] pos) (tI (X.ci H0 EX) (mEnumI m)) :=
  PI.weak (pi_enumA (kind_of T hg) hm (pa1 ha hn) (star1 hn)) fun σ H R q => by
    obtain ⟨γ, ρ, s, r, g⟩ := q
    refine tE.then (c := X.ci H0 EX) r g fun v d s1 H1 γ1 r1 x1 hv g1 => ?_
    obtain ⟨ds, e1, k⟩ := g1.optE
    have k1 := k H1 γ1 (Step.refl _ _) r1.g
    unfold dEnumI at e1
    split at e1
    · cases e1
      cases hv with
      | lst h1 h2 => exact ⟨_, _, rfl, .inl ⟨SqL.of (r1.g.le _ _ h1), k1 _ (walk_numL h1 h2)⟩⟩
    · cases e1
      cases hv with
      | tup h1 h2 => exact ⟨_, _, rfl, .inr ⟨r1.g.le.tupT h1, k1 _ (walk_numT h1 h2)⟩⟩
    · cases e1
theorem pi_dzip (T : StX X c) {a b : Expr} {m m' : Env → M D} (hg : c.sc.names.lookup (Str.ofString "zip") = gB) (hm : X.mg "zip" = none) (hn : isStar a = false) (hn' : isStar b = false) (ha : PE X a (tE (X.ci H0 EX) m)) (hb : PE X b (tE (X.ci H0 EX) m')) :
    PI X (.Tuple elts kk tpos) (.Call (.Name "zip" p) [a, b] [] pos) (tI (X.ci H0 EX) (mZipI m m')) :=
  PI.weak (RK.pi_zipK (kind_of T hg) hm (pa2 ha hb hn hn') (by rw [star2 hn hn', star1 hn']) (by rw [star1 hn']; rfl)) fun σ H R q => by
    obtain ⟨γ, ρ, s, r, g⟩ := q
    refine tE.then (c := X.ci H0 EX) r g fun v d s1 H1 γ1 r1 x1 hv g1 => tE.then (c := X.ci H0 EX) r1 g1 fun w e s2 H2 γ2 r2 x2 hw g2 => ?_
    obtain ⟨ds, e1, k⟩ := g2.optE
    have k1 := k H2 γ2 (Step.refl _ _) r2.g
    replace hv := hv.le x2.g
    have h1 : ∀ xs, (d = .lst xs ∨ d = .tup xs) → ∃ k a vs, v = V.ref a ∧ FzK X.K γ2 k a vs ∧ RepAll X.K γ2 vs xs := by
      rintro xs (rfl | rfl)
      · cases hv with
        | lst h1 h2 => exact ⟨false, _, _, rfl, h1, h2⟩
      · cases hv with
        | tup h1 h2 => exact ⟨true, _, _, rfl, h1, h2⟩
    have h2 : ∀ xs, (e = .lst xs ∨ e = .tup xs) → ∃ k a vs, w = V.ref a ∧ FzK X.K γ2 k a vs ∧ RepAll X.K γ2 vs xs := by
      rintro xs (rfl | rfl)
      · cases hw with
        | lst h1 h2 => exact ⟨false, _, _, rfl, h1, h2⟩
      · cases hw with
        | tup h1 h2 => exact ⟨true, _, _, rfl, h1, h2⟩
    have key : ∀ xs ys, (d = .lst xs ∨ d = .tup xs) → (e = .lst ys ∨ e = .tup ys) → ds = dZip xs ys → ∃ ka kb a b xs ys, [v, w] = [V.ref a, V.ref b] ∧ RK.SqK ka X.K H2 a xs ∧ RK.SqK kb X.K H2 b ys ∧ R (RK.ItzK ka kb X.K a b) H2 := fun xs ys hd he hz => by
      obtain ⟨ka, a, vs, ev, f1, r1'⟩ := h1 xs hd
      obtain ⟨kb, b, ws, ew, f2, r2'⟩ := h2 ys he
      exact ⟨ka, kb, a, b, vs, ws, by rw [ev, ew], f1.sq ⟨fun _ _ h => h, fun _ h => h⟩ r2.g, f2.sq ⟨fun _ _ h => h, fun _ h => h⟩ r2.g, k1 _ (by rw [hz]; exact walk_zipK f1 r1' f2 r2')⟩
    unfold dZipI at e1
    split at e1
    · cases e1; exact key _ _ (.inl rfl) (.inl rfl) rfl
    · cases e1; exact key _ _ (.inr rfl) (.inr rfl) rfl
    · cases e1; exact key _ _ (.inl rfl) (.inr rfl) rfl
    · cases e1; exact key _ _ (.inr rfl) (.inl rfl) rfl
    · cases e1
end

/-! ### loops -/
def mLoop (g : Tg) (b : MS) : List D → MS
  | [], ρ => pure (.nx ρ)
  | d :: ds, ρ => M.opt (g d ρ) >>= fun ρ1 => b ρ1 >>= fun o => match o with
    | .nx ρ2 => mLoop g b ds ρ2
    | .ct ρ2 => mLoop g b ds ρ2
    | .bk ρ2 => pure (.nx ρ2)
    | .rt d => pure (.rt d)
def mFor (it : Env → M (List D)) (g : Tg) (b : MS) : MS := fun ρ => it ρ >>= fun ds => mLoop g b ds ρ
/-- with fuel -/
def mWhile (t : Env → M Bool) (b : MS) : Nat → MS
  | 0, _ => M.stop
  | n + 1, ρ => t ρ >>= fun k => if k then b ρ >>= fun o => match o with
      | .nx ρ2 => mWhile t b n ρ2
      | .ct ρ2 => mWhile t b n ρ2
      | .bk ρ2 => pure (.nx ρ2)
      | .rt d => pure (.rt d)
    else pure (.nx ρ)
section
variable {X : Cx} {c : Ctx} {H0 : Hp} {EX : XK} {γ0 : Gh} {pos : Pos}
theorem ps_dfor (T : StX X c) (hp : PassesOwn (model X.prog X.w) X.A X.env X.xe) {tg iter : Expr} {body : List Stmt} {it : Env → M (List D)} {is : List Nat} {g : Tg} {b : MS} (hi : PI X tg iter (tI (X.ci H0 EX) it)) (hg : PG X tg (tG (X.ci H0 EX) is g)) (hb : PSs X body (tS (X.ci H0 EX) γ0 b))
    (hs : ∀ x, foldedSetIterable iter X.env x = pure x) : PS X (.For tg iter body [] pos) (tS (X.ci H0 EX) γ0 (mFor it g b)) := (ps_for hp T.calm hi hg hb hs).weak fun N σ H q => by
  obtain ⟨γ, ρ, s, r, x, h⟩ := q
  refine ⟨γ, ρ, s, r, h.split x fun ds s1 H1 γ1 x1 g1 h1 J wk => ?_⟩
  refine ⟨fun i m σ H => m = ds.length - i ∧ i ≤ ds.length ∧ ∃ γ ρ s, SR X.K H0 σ H γ ρ s ∧ Step γ0 H0 γ H ∧ GLe γ1 γ ∧ GoS (X.ci H0 EX) γ0 γ N (mLoop g b (ds.drop i) ρ s), ⟨ds.length, by simp, Nat.zero_le _, γ1, ρ, s1, r.step x1 g1, x.trans x1, GLe.refl _, h1⟩, ?_⟩
  rintro i m σ2 H2 ⟨rfl, hi, γ2, ρ2, s2, r2, x2, l2, h2⟩
  by_cases hlt : i < ds.length
  · have hd : ds.drop i = ds[i] :: ds.drop (i + 1) := List.drop_eq_getElem_cons hlt
    have hx : ds[i]? = some ds[i] := List.getElem?_eq_getElem hlt
    rw [hd] at h2
    refine .inr ⟨wk.go i H2 γ2 s2 r2.g l2 hlt, fun σ' H' => ∃ γ ρ s, SR X.K H0 σ' H' γ ρ s ∧ Step γ0 H0 γ H' ∧ GLe γ1 γ ∧ GoS (X.ci H0 EX) γ0 γ N (mLoop g b (ds.drop (i + 1)) ρ s), fun σ' H' n => ⟨ds.length - (i + 1), by omega, rfl, hlt, n⟩, fun v H3 y => ?_⟩
    obtain ⟨γ3, x3, g3, hv⟩ := wk.yld i H2 γ2 s2 v H3 _ r2.g l2 y hx
    obtain ⟨ρ4, e4, h4⟩ := (show GoS (X.ci H0 EX) γ0 γ2 N ((M.opt (g ds[i] ρ2) >>= fun ρ1 => b ρ1 >>= fun o => match o with
      | .nx ρ2 => mLoop g b (ds.drop (i + 1)) ρ2
      | .ct ρ2 => mLoop g b (ds.drop (i + 1)) ρ2
      | .bk ρ2 => pure (.nx ρ2)
      | .rt d => pure (.rt d)) s2) from h2).optE
    refine ⟨γ3, ρ2, s2, ds[i], ρ4, r2.step x3 g3, hv, e4, fun σ4 _ _ r4 => ⟨γ3, ρ4, s2, r4, x2.trans x3, ?_⟩⟩
    cases e : b ρ4 s2 with
    | ok o s5 =>
      rw [bnd_ok e] at h4
      have l3 := x3.g
      cases o with
      | nx ρ5 => exact fun σ' H' γ' l r' x' => ⟨γ', ρ5, s5, r', x', (l2.trans l3).trans l, h4.mono (l3.trans l)⟩
      | ct ρ5 => exact fun σ' H' γ' l r' x' => ⟨γ', ρ5, s5, r', x', (l2.trans l3).trans l, h4.mono (l3.trans l)⟩
      | bk ρ5 => exact fun σ' H' γ' l r' x' => GoS.nx (c := X.ci H0 EX) (h4.mono (l3.trans l)) r' x'
      | rt d => exact h4
    | exc cl y s5 => rw [bnd_exc e] at h4; exact h4
    | stuck => rw [bnd_stuck e] at h4; exact h4
  · have e : i = ds.length := by omega
    subst e
    rw [List.drop_length] at h2
    exact .inl ⟨wk.stop H2 γ2 s2 r2.g l2, GoS.nx (c := X.ci H0 EX) h2 r2 x2⟩
theorem ps_dwhile (hp : PassesOwn (model X.prog X.w) X.A X.env X.xe) {t : Expr} {body : List Stmt} {mt : Env → M Bool} {b : MS} (n : Nat) (ht : PT X t (tB (X.ci H0 EX) mt)) (hb : PSs X body (tS (X.ci H0 EX) γ0 b)) : PS X (.While t body [] pos) (tS (X.ci H0 EX) γ0 (mWhile mt b n)) := (ps_while hp ht hb).weak fun N σ H q => by
  obtain ⟨γ, ρ, s, r, x, h⟩ := q
  refine ⟨fun m σ H => ∃ γ ρ s, SR X.K H0 σ H γ ρ s ∧ Step γ0 H0 γ H ∧ GoS (X.ci H0 EX) γ0 γ N (mWhile mt b m ρ s), ⟨n, γ, ρ, s, r, x, h⟩, ?_⟩
  rintro m σ2 H2 ⟨γ2, ρ2, s2, r2, x2, h2⟩
  cases m with
  | zero => exact h2.elim
  | succ m =>
    refine tB.thenS (c := X.ci H0 EX) r2 x2 (show GoS (X.ci H0 EX) γ0 γ2 N ((mt ρ2 >>= fun k => if k then b ρ2 >>= fun o => match o with
      | .nx ρ2 => mWhile mt b m ρ2
      | .ct ρ2 => mWhile mt b m ρ2
      | .bk ρ2 => pure (.nx ρ2)
      | .rt d => pure (.rt d)
    else pure (.nx ρ2)) s2) from h2) fun k s3 H3 γ3 r3 x3 l3 h3 => ?_
    cases k with
    | false => exact GoS.nx (c := X.ci H0 EX) h3 r3 x3
    | true =>
      simp only [if_true] at h3 ⊢
      refine ⟨fun σ' H' => ∃ γ ρ s, SR X.K H0 σ' H' γ ρ s ∧ Step γ0 H0 γ H' ∧ GoS (X.ci H0 EX) γ0 γ N (mWhile mt b m ρ s), fun σ' H' n => ⟨m, Nat.lt_succ_self _, n⟩, γ3, ρ2, s3, r3, x3, ?_⟩
      cases e : b ρ2 s3 with
      | ok o s5 =>
        rw [bnd_ok e] at h3
        cases o with
        | nx ρ5 => exact fun σ' H' γ' l r' x' => ⟨γ', ρ5, s5, r', x', h3.mono l⟩
        | ct ρ5 => exact fun σ' H' γ' l r' x' => ⟨γ', ρ5, s5, r', x', h3.mono l⟩
        | bk ρ5 => exact fun σ' H' γ' l r' x' => GoS.nx (c := X.ci H0 EX) (h3.mono l) r' x'
        | rt d => exact h3
      | exc cl y s5 => rw [bnd_exc e] at h3; exact h3
      | stuck => rw [bnd_stuck e] at h3; exact h3
end
end RS

namespace RS
open PySem PySem.Spec PyProof.Rows L2

abbrev Ds := List D
/-- no exception -/
def M.calm {α : Type} (m : M α) : M α := fun s => match m s with
  | .ok a s' => .ok a s'
  | _ => .stuck
theorem calm_ok {α : Type} {m : M α} {s s' : DS} {a : α} (h : m s = .ok a s') : M.calm m s = .ok a s' := by unfold M.calm; rw [h]
theorem calm_of {α : Type} {m : M α} {s s' : DS} {a : α} (h : M.calm m s = .ok a s') : m s = .ok a s' := by
  unfold M.calm at h
  split at h
  · rename_i a' s2 e; rw [e]; exact h
  · cases h
def wipeE (ρ : Env) : List Nat → Env
  | [] => ρ
  | v :: vs => (wipeE ρ vs).set v none
/-- no own name among them -/
def mLcGo (g : Tg) (t : Env → M Bool) (e : Env → M D) (ρ : Env) : List D → M (List D)
  | [] => pure []
  | d :: ds => M.opt (g d ρ) >>= fun ρ2 => M.calm (t ρ2) >>= fun b =>
    if b then M.calm (e ρ2) >>= fun y => mLcGo g t e ρ ds >>= fun ys => pure (y :: ys) else mLcGo g t e ρ ds
def mLc (it : Env → M (List D)) (g : Tg) (t : Env → M Bool) (e : Env → M D) (vs : List Nat) : Env → M (List D) := fun ρ => it ρ >>= fun ds => if ds.length ≤ lim then mLcGo g t e (wipeE ρ vs) ds else M.stop
def mYes : Env → M Bool := fun _ => pure true
section
variable {K : PySem.W.Frag} {H0 : Hp} {σ : L2.St} {H : Hp} {γ : Gh} {ρ : Env} {s : DS}
theorem wipeE_length : ∀ {vs : List Nat}, (wipeE ρ vs).length = ρ.length
  | [] => rfl
  | v :: vs => by unfold wipeE; rw [List.length_set, wipeE_length]
theorem wipeE_some {i : Nat} {x : Sl} : ∀ {vs : List Nat}, (wipeE ρ vs)[i]? = some (some x) → ρ[i]? = some (some x) ∧ i ∉ vs
  | [], h => ⟨h, by simp⟩
  | v :: vs, h => by
    unfold wipeE at h
    by_cases hi : v = i
    · subst hi
      by_cases hv : v < (wipeE ρ vs).length
      · rw [List.getElem?_set_self hv] at h; cases h
      · rw [List.getElem?_eq_none (by simpa using hv)] at h; cases h
    · rw [List.getElem?_set_ne hi] at h
      obtain ⟨h1, h2⟩ := wipeE_some h
      exact ⟨h1, by simp only [List.mem_cons, not_or]; exact ⟨fun e => hi e.symm, h2⟩⟩
theorem SR.wipe (r : SR K H0 σ H γ ρ s) (vs : List Nat) : SR K H0 (L2.wipe σ vs) H γ (wipeE ρ vs) s := by
  refine ⟨r.g, by rw [wipeE_length, wipe_length, r.len], fun i d e => ?_, fun i d e => ?_, fun i j d e p h1 h2 h3 h4 => ?_⟩
  · obtain ⟨h1, h2⟩ := wipeE_some e
    rw [wipe_out h2]
    exact r.val i d h1
  · obtain ⟨h1, h2⟩ := wipeE_some e
    rw [wipe_out h2]
    exact r.own i d h1
  · obtain ⟨k1, k2⟩ := wipeE_some h1
    obtain ⟨k3, k4⟩ := wipeE_some h2
    rw [wipe_out k2] at h3
    rw [wipe_out k4] at h4
    exact r.sep i j d e p k1 k3 h3 h4
end
theorem wipe_eq {σ σ' : L2.St} : ∀ {vs is : List Nat}, (∀ j, j ∉ is → σ'[j]? = σ[j]?) → σ'.length = σ.length → (∀ i ∈ is, i ∈ vs) → L2.wipe σ' vs = L2.wipe σ vs := fun {vs is} h hl hi => by
  apply List.ext_getElem?
  intro j
  by_cases hj : j ∈ vs
  · by_cases hlt : j < σ.length
    · have z : ∀ (τ : L2.St), j < τ.length → (L2.wipe τ vs)[j]? = some none := fun τ hτ => by
        cases q : (L2.wipe τ vs)[j]? with
        | none =>
          have := List.getElem?_eq_none_iff.mp q
          rw [wipe_length] at this; omega
        | some o =>
          cases o with
          | none => rfl
          | some x => exact absurd hj (wipe_some q).2
      rw [z σ hlt, z σ' (by omega)]
    · rw [List.getElem?_eq_none (by rw [wipe_length]; omega), List.getElem?_eq_none (by rw [wipe_length]; omega)]
  · rw [wipe_out hj, wipe_out hj]
    exact h j fun m => hj (hi j m)

section
variable {c : CxI}
abbrev CxI.blk (c : CxI) : CxI := ⟨c.K, c.mg, c.H0, fun _ _ _ => False⟩
theorem calm_goes {α : Type} {K : PySem.W.Frag} {mg : Str → Option Value} {γ : Gh} {H : Hp} {m : M α} {s s' : DS} {a : α} {P : α → DS → Hp → Gh → Prop} (h : M.calm m s = .ok a s') (k : ∀ H' γ', Step γ H γ' H' → GWf H' γ' s' → P a s' H' γ') : Goes K mg (fun _ _ _ => False) γ H (m s) P := by
  rw [calm_of h]; exact k
/-- what is left of a run that goes on -/
theorem Goes.andThen {α β : Type} {K : PySem.W.Frag} {mg : Str → Option Value} {EX : XK} {γ : Gh} {H : Hp} {m : M α} {f : α → M β} {s : DS} {P : β → DS → Hp → Gh → Prop} (h : Goes K mg EX γ H ((M.calm m >>= f) s) P) :
    ∃ a s', M.calm m s = .ok a s' ∧ Goes K mg EX γ H (f a s') P := by
  cases e : M.calm m s with
  | ok a s' => rw [bnd_ok e] at h; exact ⟨a, s', rfl, h⟩
  | exc c x s' => unfold M.calm at e; split at e <;> cases e
  | stuck => rw [bnd_stuck e] at h; exact h.elim
theorem Goes.opt {α β : Type} {K : PySem.W.Frag} {mg : Str → Option Value} {EX : XK} {γ : Gh} {H : Hp} {o : Option α} {f : α → M β} {s : DS} {P : β → DS → Hp → Gh → Prop} (h : Goes K mg EX γ H ((M.opt o >>= f) s) P) : ∃ a, o = some a ∧ Goes K mg EX γ H (f a s) P := by
  cases o with
  | none => exact h.elim
  | some a => exact ⟨a, rfl, h⟩
theorem bind_if {α β : Type} {b : Bool} {m n : M α} {f : α → M β} : ((if b then m else n) >>= f) = if b then m >>= f else n >>= f := by cases b <;> rfl
theorem pure_bind {α β : Type} {a : α} {f : α → M β} : ((pure a : M α) >>= f) = f a := rfl
/-- a step that leaves D out -/
structure StepX (D : Addr) (γ : Gh) (H : Hp) (γ' : Gh) (H' : Hp) : Prop where
  g : GLe γ γ'
  keep : ∀ a o, a ≠ D → H a = some o → OffDk γ a → H' a = some o
  off : ∀ a, H a ≠ none → OffDk γ a → OffDk γ' a
  fz : ∀ a o, H a = some o → γ.F a = none → γ'.F a = none
  dom : ∀ a, H a ≠ none → H' a ≠ none
theorem Step.toX {D : Addr} {γ γ' : Gh} {H H' : Hp} (x : Step γ H γ' H') : StepX D γ H γ' H' := ⟨x.g, fun a o _ h od => x.keep a o h od, fun a h od => x.off h od, x.fz, x.dom⟩
theorem StepX.trans {D : Addr} {γ γ1 γ2 : Gh} {H H1 H2 : Hp} (x : StepX D γ H γ1 H1) (y : StepX D γ1 H1 γ2 H2) : StepX D γ H γ2 H2 := by
  refine ⟨x.g.trans y.g, fun a o n h od => y.keep a o n (x.keep a o n h od) (x.off a (ne_none h) od), fun a h od => y.off a (x.dom a h) (x.off a h od), fun a o h f => ?_, fun a h => y.dom a (x.dom a h)⟩
  cases q : H1 a with
  | none => exact absurd q (x.dom a (ne_none h))
  | some o1 => exact y.fz a o1 q (x.fz a o h f)
theorem StepX.write {D : Addr} {γ : Gh} {H : Hp} {o : HO} : StepX D γ H γ (upd H D o) := by
  refine ⟨GLe.refl _, fun a o n h _ => by rw [upd_ne n]; exact h, fun _ _ od => od, fun _ _ _ f => f, fun a h => ?_⟩
  by_cases z : a = D
  · rw [z, upd_same]; exact fun e => nomatch e
  · rw [upd_ne z]; exact h
theorem SR.stepX {K : PySem.W.Frag} {H0 : Hp} {σ : L2.St} {D : Addr} {H H' : Hp} {γ γ' : Gh} {ρ : Env} {s s' : DS} (r : SR K H0 σ H γ ρ s) (hD : H0 D ≠ none) (x : StepX D γ H γ' H') (g : GWf H' γ' s') : SR K H0 σ H' γ' ρ s' := by
  refine ⟨g, r.len, fun i d e => ?_, fun i d e => ?_, r.sep⟩
  · obtain ⟨v, h1, h2⟩ := r.val i d e
    exact ⟨v, h1, h2.le x.g⟩
  · obtain ⟨p, h1, h2, h3, h4, h5⟩ := r.own i d e
    obtain ⟨o, ho⟩ := h2.there
    have np : p ≠ D := fun z => hD (z ▸ h4)
    exact ⟨p, h1, h2.step x.g fun o e => x.keep _ o np e h3, x.off p (ne_none ho) h3, h4, x.fz _ _ ho h5⟩
theorem SR.entry {K : PySem.W.Frag} {H0 : Hp} {σ : L2.St} {H : Hp} {γ : Gh} {ρ : Env} {s : DS} {D : Addr} {o : HO} (r : SR K H0 σ H γ ρ s) (hD : H D = none) : SR K (upd H0 D o) σ H γ ρ s := by
  refine ⟨r.g, r.len, r.val, fun i d e => ?_, r.sep⟩
  obtain ⟨p, h1, h2, h3, h4, h5⟩ := r.own i d e
  obtain ⟨u, hu⟩ := h2.there
  exact ⟨p, h1, h2, h3, by rw [upd_ne (ne_of_none hu hD)]; exact h4, h5⟩
/-- the block's readings, whatever the entry -/
def eX (c : CxI) (m : Env → M D) : TE := fun σ H Q => ∃ H0, tE ⟨c.K, c.mg, H0, fun _ _ _ => False⟩ m σ H Q
def bX (c : CxI) (m : Env → M Bool) : TT := fun σ H Q => ∃ H0, tB ⟨c.K, c.mg, H0, fun _ _ _ => False⟩ m σ H Q
def iX (c : CxI) (m : Env → M (List D)) : TI := fun σ H Q => ∃ H0, tI ⟨c.K, c.mg, H0, fun _ _ _ => False⟩ m σ H Q
def gX (c : CxI) (is : List Nat) (g : Tg) : TG := fun v σ H Q => ∃ H0, tG ⟨c.K, c.mg, H0, fun _ _ _ => False⟩ is g v σ H Q
/-- the block's state: the new list at D holds acc -/
structure LSt (c : CxI) (H0 : Hp) (σ : L2.St) (ρ : Env) (vs : List Nat) (γo : Gh) (Ho : Hp) (p : Addr) (n : Nat) (γ : Gh) (H : Hp) (s : DS) (acc : Ds) : Prop where
  r : SR c.K H0 (L2.wipe σ vs) H γ (wipeE ρ vs) s
  x : Step γo Ho γ H
  d : ∃ vs', H p = some (.lst vs') ∧ RepAll c.K γ vs' acc
  f : γ.F p = none
  od : OffDk γ p
  l : acc.length ≤ n
theorem lc_in {g : Tg} {t : Env → M Bool} {e : Env → M D} {vs is : List Nat} (hi : ∀ i ∈ is, i ∈ vs) {σ : L2.St} {H0 : Hp} {ρ : Env} {γo γw γ : Gh} {Ho H1 H : Hp} {p : Addr} {n0 : Nat} {s1 : DS} {acc0 : Ds} {β : Type} {k : Ds → M β} {P : β → DS → Hp → Gh → Prop} {Nx : Hp → Prop} {J : It} {ds : Ds}
    (hp : Ho p = none) (hp0 : H0 p ≠ none) (wk : WalkD c.K γw J ds) (st : ∃ γ1, GLe γw γ1 ∧ LSt c H0 σ ρ vs γo Ho p n0 γ1 H1 s1 acc0) (hl : n0 + ds.length ≤ lim)
    (h : Goes c.K c.mg c.EX γ H ((mLcGo g t e (wipeE ρ vs) ds >>= fun ys => k (acc0 ++ ys)) s1) P)
    (fin : ∀ γ2 H2 s2 acc, LSt c H0 σ ρ vs γo Ho p (n0 + ds.length) γ2 H2 s2 acc → GLe γw γ2 → Goes c.K c.mg c.EX γ H (k acc s2) P → Nx H2) :
    ∃ W : Nat → Nat → Hp → Prop, (∃ m, W 0 m H1) ∧ ∀ i m H, W i m H → (J.stop i H ∧ Nx H) ∨ (J.go i H ∧ ∃ Nx1 : Hp → Prop, (∀ H', Nx1 H' → ∃ m', m' < m ∧ W (i + 1) m' H') ∧ ∀ x H', J.yld i H x H' → gX c is g x (L2.wipe σ vs) H' fun σ2 H2 => L2.wipe σ2 vs = L2.wipe σ vs ∧ bX c t σ2 H2 fun b H3 =>
      if b = true then eX c e σ2 H3 fun y H4 => ∃ acc, H4 p = some (.lst acc) ∧ acc.length < sizeLine ∧ Nx1 (upd H4 p (.lst (acc ++ [y]))) else Nx1 H3) := by
  let St : Nat → Hp → Prop := fun i H' => ∃ γ' s' acc, GLe γw γ' ∧ LSt c H0 σ ρ vs γo Ho p (n0 + i) γ' H' s' acc ∧ Goes c.K c.mg c.EX γ H ((mLcGo g t e (wipeE ρ vs) (ds.drop i) >>= fun ys => k (acc ++ ys)) s') P
  obtain ⟨γ1, lw, st⟩ := st
  refine ⟨fun i m H => m = ds.length - i ∧ i ≤ ds.length ∧ St i H, ⟨ds.length, by simp, Nat.zero_le _, γ1, s1, acc0, lw, st, by rw [List.drop_zero]; exact h⟩, ?_⟩
  rintro i m H2 ⟨rfl, hi', γ2, s2, acc, l2, S2, h2⟩
  by_cases hlt : i < ds.length
  · have hd : ds.drop i = ds[i] :: ds.drop (i + 1) := List.drop_eq_getElem_cons hlt
    have hx : ds[i]? = some ds[i] := List.getElem?_eq_getElem hlt
    rw [hd] at h2
    refine .inr ⟨wk.go i H2 γ2 s2 S2.r.g l2 hlt, St (i + 1), fun H' n => ⟨ds.length - (i + 1), by omega, rfl, hlt, n⟩, fun v H3 y => ?_⟩
    obtain ⟨γ3, x3, g3, hv⟩ := wk.yld i H2 γ2 s2 v H3 _ S2.r.g l2 y hx
    have h3 : Goes c.K c.mg c.EX γ H ((M.opt (g ds[i] (wipeE ρ vs)) >>= fun ρ2 => M.calm (t ρ2) >>= fun b => if b then M.calm (e ρ2) >>= fun y => mLcGo g t e (wipeE ρ vs) (ds.drop (i + 1)) >>= fun ys => k (acc ++ y :: ys) else mLcGo g t e (wipeE ρ vs) (ds.drop (i + 1)) >>= fun ys => k (acc ++ ys)) s2) P := by
      have e0 : (mLcGo g t e (wipeE ρ vs) (ds[i] :: ds.drop (i + 1)) >>= fun ys => k (acc ++ ys)) = (M.opt (g ds[i] (wipeE ρ vs)) >>= fun ρ2 => M.calm (t ρ2) >>= fun b => if b then M.calm (e ρ2) >>= fun y => mLcGo g t e (wipeE ρ vs) (ds.drop (i + 1)) >>= fun ys => k (acc ++ y :: ys) else mLcGo g t e (wipeE ρ vs) (ds.drop (i + 1)) >>= fun ys => k (acc ++ ys)) := by
        show ((M.opt (g ds[i] (wipeE ρ vs)) >>= fun ρ2 => M.calm (t ρ2) >>= fun b => if b then M.calm (e ρ2) >>= fun y => mLcGo g t e (wipeE ρ vs) (ds.drop (i + 1)) >>= fun ys => pure (y :: ys) else mLcGo g t e (wipeE ρ vs) (ds.drop (i + 1))) >>= fun ys => k (acc ++ ys)) = _
        rw [M.assoc]; congr 1; funext ρ2
        rw [M.assoc]; congr 1; funext b
        rw [bind_if]
        cases b with
        | false => rfl
        | true =>
          simp only [if_true]
          rw [M.assoc]; congr 1; funext y
          rw [M.assoc]; congr 1
      rw [← e0]; exact h2
    obtain ⟨ρ2, eg, h4⟩ := h3.opt
    obtain ⟨b, s5, eb, h5⟩ := h4.andThen
    obtain ⟨vs2, hD2, ra2⟩ := S2.d
    refine ⟨H0, γ3, wipeE ρ vs, s2, ds[i], ρ2, S2.r.step x3 g3, hv, eg, fun σ4 d4 l4 r4 => ⟨?_, H0, γ3, ρ2, s2, r4, calm_goes eb fun H5 γ5 x5 g5 => ?_⟩⟩
    · rw [wipe_eq d4 l4 hi]
      exact wipe_eq (is := vs) (fun j hj => wipe_out hj) (wipe_length _ _) fun _ h => h
    have keepD : ∀ {γa γb : Gh} {Ha Hb : Hp}, Step γa Ha γb Hb → OffDk γa p → Ha p = some (.lst vs2) → γa.F p = none → OffDk γb p ∧ Hb p = some (.lst vs2) ∧ γb.F p = none := fun st o hh ff => ⟨st.off (ne_none hh) o, st.keep _ _ hh o, st.fz _ _ hh ff⟩
    obtain ⟨od3, hD3, f3⟩ := keepD x3 S2.od hD2 S2.f
    obtain ⟨od5, hD5, f5⟩ := keepD x5 od3 hD3 f3
    have r5 := (S2.r.step x3 g3).step x5 g5
    have x15 := (S2.x.trans x3).trans x5
    have ra5 := ra2.le (x3.g.trans x5.g)
    have l5 := (l2.trans x3.g).trans x5.g
    have sl := S2.l
    cases b with
    | false =>
      exact ⟨γ5, s5, acc, l5, ⟨r5, x15, ⟨vs2, hD5, ra5⟩, f5, od5, by omega⟩, h5⟩
    | true =>
      simp only [if_true] at h5 ⊢
      obtain ⟨y, s6, ee, h6⟩ := h5.andThen
      refine ⟨H0, γ5, ρ2, s5, r4.step x5 g5, calm_goes ee fun H6 γ6 x6 g6 w hw => ?_⟩
      obtain ⟨od6, hD6, f6⟩ := keepD x6 od5 hD5 f5
      refine ⟨vs2, hD6, ?_, ?_⟩
      · have e1 := ra2.length
        rw [lim_eq] at hl
        omega
      have x16 := x15.trans x6
      have g7 : GWf (upd H6 p (.lst (vs2 ++ [w]))) γ6 s6 := g6.write f6 od6
      have neD : ∀ {a : Addr}, Ho a ≠ none → a ≠ p := fun h z => h (z ▸ hp)
      have x17 : Step γo Ho γ6 (upd H6 p (.lst (vs2 ++ [w]))) := by
        refine ⟨x16.g, fun a o ha oa => ?_, x16.fz, x16.new, fun a ha => ?_⟩
        · rw [upd_ne (neD (ne_none ha))]; exact x16.keep a o ha oa
        · rw [upd_ne (neD ha)]; exact x16.dom a ha
      have r7 : SR c.K H0 (L2.wipe σ vs) (upd H6 p (.lst (vs2 ++ [w]))) γ6 (wipeE ρ vs) s6 := (r5.step x6 g6).stepX hp0 StepX.write g7
      refine ⟨γ6, s6, acc ++ [y], l5.trans x6.g, ⟨r7, x17, ⟨_, upd_same, (ra5.le x6.g).append (.cons hw .nil)⟩, f6, od6, by simp; omega⟩, ?_⟩
      have e9 : (fun ys => k (acc ++ [y] ++ ys)) = fun ys => k (acc ++ y :: ys) := by funext ys; simp
      rw [e9]; exact h6
  · have e : i = ds.length := by omega
    subst e
    rw [List.drop_length] at h2
    have h3 : Goes c.K c.mg c.EX γ H (k (acc ++ []) s2) P := h2
    rw [List.append_nil] at h3
    exact .inl ⟨wk.stop H2 γ2 s2 S2.r.g l2, fin γ2 H2 s2 acc S2 l2 h3⟩
/-- the new list's start -/
theorem lst_start {σ : L2.St} {H H1 : Hp} {γ γ1 : Gh} {ρ : Env} {s s1 : DS} (vs : List Nat) (r : SR c.K c.H0 σ H γ ρ s) (x1 : Step γ H γ1 H1) (g1 : GWf H1 γ1 s1) {p : Addr} (hp : H1 p = none) : LSt c (upd c.H0 p (.lst [])) σ ρ vs γ1 H1 p 0 γ1 (upd H1 p (.lst [])) s1 [] := by
  obtain ⟨gA, xA⟩ := Step.add (o := .lst []) g1 hp
  have f1 : γ1.F p = none := by
    cases q : γ1.F p with
    | none => rfl
    | some u => rw [g1.le _ _ q] at hp; cases hp
  refine ⟨(((r.wipe vs).step x1 g1).entry hp).step xA gA, xA, ⟨[], upd_same, .nil⟩, f1, fun z e => ?_, Nat.le_refl _⟩
  obtain ⟨_, _, _, k, _, e2, e3⟩ := g1.dk z.1 z.2 e
  exact ⟨fun w => (by rw [w, e2] at hp; cases hp), fun w => (by rw [w, e3] at hp; cases hp)⟩
theorem lc_rd {it : Env → M (List D)} {g : Tg} {t : Env → M Bool} {e : Env → M D} {vs is : List Nat} (hi : ∀ i ∈ is, i ∈ vs) {σ : L2.St} {H : Hp} {Q : VK} (q : tF c (mLc it g t e vs) σ H Q) :
    tLc (tI c it) (gX c is g) (bX c t) (eX c e) vs σ H Q := by
  obtain ⟨γ, ρ, s, r, h⟩ := q
  refine ⟨γ, ρ, s, r, Goes.split h fun ds s1 H1 γ1 x1 g1 h1 J wk p hp => ?_⟩
  by_cases hl : ds.length ≤ lim
  case neg => rw [if_neg hl] at h1; exact h1.elim
  rw [if_pos hl] at h1
  have hDH : H p = none := Classical.byContradiction fun w => x1.dom p w hp
  have nil_app : (mLcGo g t e (wipeE ρ vs) ds >>= fun ys => pure ([] ++ ys)) = mLcGo g t e (wipeE ρ vs) ds := by
    funext z
    show M.bnd _ _ z = _
    unfold M.bnd
    cases mLcGo g t e (wipeE ρ vs) ds z <;> rfl
  refine lc_in hi (H0 := upd c.H0 p (.lst [])) (k := pure) (n0 := 0) hp (by rw [upd_same]; exact fun e => nomatch e) wk ⟨γ1, GLe.refl _, lst_start vs r x1 g1 hp⟩ (by omega) (by rw [nil_app]; exact h1) fun γ2 H2 s2 acc S2 l2 h3 => ?_
  obtain ⟨vs2, hD2, ra2⟩ := S2.d
  exact (show ∀ H' γ', Step γ H γ' H' → GWf H' γ' s2 → ∀ p vs, H' p = some (.lst vs) → RepAll c.K γ' vs acc → γ'.F p = none → H p = none → OffDk γ' p → Q (.ref p) H' from h3) H2 γ2 (x1.trans S2.x) S2.r.g p vs2 hD2 ra2 S2.f hDH S2.od
end

/-! ### two clauses -/
def mLc2Go (g : Tg) (t : Env → M Bool) (it1 : Env → M (List D)) (g1 : Tg) (t1 : Env → M Bool) (e : Env → M D) (vs1 : List Nat) (ρ : Env) : List D → M (List D)
  | [] => pure []
  | d :: ds => M.opt (g d ρ) >>= fun ρ2 => M.calm (t ρ2) >>= fun b =>
    if b then M.calm (it1 ρ2) >>= fun es => if es.length ≤ 4096 then mLcGo g1 t1 e (wipeE ρ2 vs1) es >>= fun ys => mLc2Go g t it1 g1 t1 e vs1 ρ ds >>= fun zs => pure (ys ++ zs) else M.stop
    else mLc2Go g t it1 g1 t1 e vs1 ρ ds
def mLc2 (it : Env → M (List D)) (g : Tg) (t : Env → M Bool) (it1 : Env → M (List D)) (g1 : Tg) (t1 : Env → M Bool) (e : Env → M D) (vs vs1 : List Nat) : Env → M (List D) := fun ρ => it ρ >>= fun ds => if ds.length ≤ 4095 then mLc2Go g t it1 g1 t1 e vs1 (wipeE ρ vs) ds else M.stop
section
variable {c : CxI}
theorem Goes.guard {α : Type} {K : PySem.W.Frag} {mg : Str → Option Value} {EX : XK} {γ : Gh} {H : Hp} {b : Prop} [Decidable b] {m : M α} {s : DS} {P : α → DS → Hp → Gh → Prop} (h : Goes K mg EX γ H ((if b then m else M.stop) s) P) : b ∧ Goes K mg EX γ H (m s) P := by
  by_cases z : b
  · rw [if_pos z] at h; exact ⟨z, h⟩
  · rw [if_neg z] at h; exact h.elim
theorem bind_guard {α β : Type} {b : Prop} [Decidable b] {m : M α} {f : α → M β} : ((if b then m else M.stop) >>= f) = if b then m >>= f else M.stop := by
  by_cases z : b
  · rw [if_pos z, if_pos z]
  · rw [if_neg z, if_neg z]; rfl
theorem lc2_rd {it it1 : Env → M (List D)} {g g1 : Tg} {t t1 : Env → M Bool} {e : Env → M D} {vs vs1 is is1 : List Nat} (hi : ∀ i ∈ is, i ∈ vs) (hi1 : ∀ i ∈ is1, i ∈ vs1) {σ : L2.St} {H : Hp} {Q : VK} (q : tF c (mLc2 it g t it1 g1 t1 e vs vs1) σ H Q) :
    tLc2 (tI c it) (gX c is g) (bX c t) (iX c it1) (gX c is1 g1) (bX c t1) (eX c e) vs vs1 σ H Q := by
  obtain ⟨γ, ρ, s, r, h⟩ := q
  refine ⟨γ, ρ, s, r, Goes.split h fun ds s1 H1 γ1 x1 gg1 h1 J wk p hp => ?_⟩
  obtain ⟨hl, h1⟩ := h1.guard
  have hDH : H p = none := Classical.byContradiction fun w => x1.dom p w hp
  have hp0 : upd c.H0 p (.lst []) p ≠ none := by rw [upd_same]; exact fun e => nomatch e
  have r0 := ((r.wipe vs).step x1 gg1).entry (o := .lst []) hp
  have nil_app : (mLc2Go g t it1 g1 t1 e vs1 (wipeE ρ vs) ds >>= fun ys => pure ([] ++ ys)) = mLc2Go g t it1 g1 t1 e vs1 (wipeE ρ vs) ds := by
    funext z
    show M.bnd _ _ z = _
    unfold M.bnd
    cases mLc2Go g t it1 g1 t1 e vs1 (wipeE ρ vs) ds z <;> rfl
  let St : Nat → Hp → Prop := fun i H' => ∃ γ' s' acc, LSt c (upd c.H0 p (.lst [])) σ ρ vs γ1 H1 p (i * 4096) γ' H' s' acc ∧ Goes c.K c.mg c.EX γ H ((mLc2Go g t it1 g1 t1 e vs1 (wipeE ρ vs) (ds.drop i) >>= fun ys => pure (acc ++ ys)) s') fun ds _ H' γ' => ∀ p vs, H' p = some (.lst vs) → RepAll c.K γ' vs ds → γ'.F p = none → H p = none → OffDk γ' p → Q (.ref p) H'
  refine ⟨fun i m H => m = ds.length - i ∧ i ≤ ds.length ∧ St i H, ⟨ds.length, by simp, Nat.zero_le _, γ1, s1, [], by rw [Nat.zero_mul]; exact lst_start vs r x1 gg1 hp, by rw [List.drop_zero, nil_app]; exact h1⟩, ?_⟩
  rintro i m H2 ⟨rfl, hi', γ2, s2, acc, S2, h2⟩
  by_cases hlt : i < ds.length
  · have hd : ds.drop i = ds[i] :: ds.drop (i + 1) := List.drop_eq_getElem_cons hlt
    have hx : ds[i]? = some ds[i] := List.getElem?_eq_getElem hlt
    rw [hd] at h2
    refine .inr ⟨wk.go i H2 γ2 s2 S2.r.g S2.x.g hlt, St (i + 1), fun H' n => ⟨ds.length - (i + 1), by omega, rfl, hlt, n⟩, fun v H3 y => ?_⟩
    obtain ⟨γ3, x3, g3, hv⟩ := wk.yld i H2 γ2 s2 v H3 _ S2.r.g S2.x.g y hx
    have e0 : (mLc2Go g t it1 g1 t1 e vs1 (wipeE ρ vs) (ds[i] :: ds.drop (i + 1)) >>= fun ys => (pure (acc ++ ys) : M Ds)) = (M.opt (g ds[i] (wipeE ρ vs)) >>= fun ρ2 => M.calm (t ρ2) >>= fun b =>
        if b then M.calm (it1 ρ2) >>= fun es => if es.length ≤ 4096 then mLcGo g1 t1 e (wipeE ρ2 vs1) es >>= fun ys => mLc2Go g t it1 g1 t1 e vs1 (wipeE ρ vs) (ds.drop (i + 1)) >>= fun zs => pure (acc ++ ys ++ zs) else M.stop
        else mLc2Go g t it1 g1 t1 e vs1 (wipeE ρ vs) (ds.drop (i + 1)) >>= fun ys => pure (acc ++ ys)) := by
      show ((M.opt (g ds[i] (wipeE ρ vs)) >>= fun ρ2 => M.calm (t ρ2) >>= fun b =>
        if b then M.calm (it1 ρ2) >>= fun es => if es.length ≤ 4096 then mLcGo g1 t1 e (wipeE ρ2 vs1) es >>= fun ys => mLc2Go g t it1 g1 t1 e vs1 (wipeE ρ vs) (ds.drop (i + 1)) >>= fun zs => pure (ys ++ zs) else M.stop
        else mLc2Go g t it1 g1 t1 e vs1 (wipeE ρ vs) (ds.drop (i + 1))) >>= fun ys => (pure (acc ++ ys) : M Ds)) = _
      rw [M.assoc]; congr 1; funext ρ2
      rw [M.assoc]; congr 1; funext b
      rw [bind_if]
      cases b with
      | false => rfl
      | true =>
        simp only [if_true]
        rw [M.assoc]; congr 1; funext es
        rw [bind_guard]; congr 1
        rw [M.assoc]; congr 1; funext ys
        rw [M.assoc]; congr 1; funext zs
        show (pure (acc ++ (ys ++ zs)) : M Ds) = _
        rw [List.append_assoc]
    rw [e0] at h2
    obtain ⟨ρ2, eg, h4⟩ := h2.opt
    obtain ⟨b, s5, eb, h5⟩ := h4.andThen
    obtain ⟨vs2, hD2, ra2⟩ := S2.d
    refine ⟨_, γ3, wipeE ρ vs, s2, ds[i], ρ2, S2.r.step x3 g3, hv, eg, fun σ4 d4 l4 r4 => ⟨?_, _, γ3, ρ2, s2, r4, calm_goes eb fun H5 γ5 x5 g5 => ?_⟩⟩
    · rw [wipe_eq d4 l4 hi]
      exact wipe_eq (is := vs) (fun j hj => wipe_out hj) (wipe_length _ _) fun _ h => h
    have keepD : ∀ {γa γb : Gh} {Ha Hb : Hp}, Step γa Ha γb Hb → OffDk γa p → Ha p = some (.lst vs2) → γa.F p = none → OffDk γb p ∧ Hb p = some (.lst vs2) ∧ γb.F p = none := fun st o hh ff => ⟨st.off (ne_none hh) o, st.keep _ _ hh o, st.fz _ _ hh ff⟩
    obtain ⟨od3, hD3, f3⟩ := keepD x3 S2.od hD2 S2.f
    obtain ⟨od5, hD5, f5⟩ := keepD x5 od3 hD3 f3
    have r5 := (S2.r.step x3 g3).step x5 g5
    have x15 := (S2.x.trans x3).trans x5
    have ra5 := ra2.le (x3.g.trans x5.g)
    have sl := S2.l
    cases b with
    | false =>
      exact ⟨γ5, s5, acc, ⟨r5, x15, ⟨vs2, hD5, ra5⟩, f5, od5, by omega⟩, h5⟩
    | true =>
      simp only [if_true] at h5 ⊢
      obtain ⟨es, s6, ee, h6⟩ := h5.andThen
      obtain ⟨hl6, h6⟩ := h6.guard
      refine ⟨_, γ5, ρ2, s5, r4.step x5 g5, calm_goes ee fun H6 γ6 x6 g6 J1 wk1 => ?_⟩
      obtain ⟨od6, hD6, f6⟩ := keepD x6 od5 hD5 f5
      have S6 : LSt c (upd c.H0 p (.lst [])) σ4 ρ2 vs1 γ1 H1 p (i * 4096) γ6 H6 s6 acc := ⟨((r4.step x5 g5).step x6 g6).wipe vs1, x15.trans x6, ⟨vs2, hD6, ra5.le x6.g⟩, f6, od6, sl⟩
      refine lc_in hi1 (k := fun a => mLc2Go g t it1 g1 t1 e vs1 (wipeE ρ vs) (ds.drop (i + 1)) >>= fun zs => pure (a ++ zs)) hp hp0 wk1 ⟨γ6, GLe.refl _, S6⟩ (by rw [lim_eq] at *; unfold sizeLine; omega) h6 fun γ7 H7 s7 acc7 S7 _ h7 => ?_
      have l7 := S7.l
      exact ⟨γ7, s7, acc7, ⟨r0.step S7.x S7.r.g, S7.x, S7.d, S7.f, S7.od, by omega⟩, h7⟩
  · have e : i = ds.length := by omega
    subst e
    rw [List.drop_length] at h2
    have h3 : Goes c.K c.mg c.EX γ H ((pure (acc ++ []) : M Ds) s2) fun ds _ H' γ' => ∀ p vs, H' p = some (.lst vs) → RepAll c.K γ' vs ds → γ'.F p = none → H p = none → OffDk γ' p → Q (.ref p) H' := h2
    rw [List.append_nil] at h3
    obtain ⟨vs2, hD2, ra2⟩ := S2.d
    exact .inl ⟨wk.stop H2 γ2 s2 S2.r.g S2.x.g, (show ∀ H' γ', Step γ H γ' H' → GWf H' γ' s2 → ∀ p vs, H' p = some (.lst vs) → RepAll c.K γ' vs acc → γ'.F p = none → H p = none → OffDk γ' p → Q (.ref p) H' from h3) H2 γ2 (x1.trans S2.x) S2.r.g p vs2 hD2 ra2 S2.f hDH S2.od⟩
end

/-! ### the block's context -/
def Ctx.blk (c : Ctx) (scope : Scope) (own : List (Str × Nat)) : Ctx := ⟨c.N, relS scope c.sc, own.map (·.1)⟩
def stoOk (sc scope : Scope) (own : List (Str × Nat)) : Bool := own.all fun p => match (relS scope sc).names.lookup p.1 with
  | some .local => true
  | some .cell => (scope.names.lookup p.1 == some .cell)
  | _ => false
theorem StX.blk {X : Cx} {c : Ctx} (T : StX X c) {scope : Scope} {own : List (Str × Nat)} (h1 : blkC c.N c.sc scope own = true) (h2 : stoOk c.sc scope own = true) (s : Shared) (H : Hp) (C : Addr) (cl : List (Str × Addr)) (fp : List Addr) :
    StX (X.blk s H scope (compEnvC scope cl C X.env) fp) (c.blk scope own) := by
  have ok := blkOk_by h1
  refine ⟨T.hN, ?_, T.nd, ok.kind, T.calm, fun x hx => ?_, T.hu, T.guards, T.sys⟩
  · show relS scope X.env.scope = relS scope c.sc
    rw [T.hs]
  · obtain ⟨p, hp, rfl⟩ := List.mem_map.mp hx
    have q := List.all_eq_true.mp h2 p hp
    show L2.Loc (relS scope c.sc) p.1 ∧ ((scope.names.lookup p.1 == some .cell) = true ∨ (relS scope c.sc).names.lookup p.1 = some .local)
    split at q
    · rename_i e; exact ⟨.inl e, .inr e⟩
    · rename_i e; exact ⟨.inr e, .inl q⟩
    · cases q
theorem blkOk_of {X : Cx} {c : Ctx} (T : StX X c) {scope : Scope} {own : List (Str × Nat)} (h1 : blkC c.N c.sc scope own = true) : BlkOk X.N X.env.scope scope own := by
  rw [T.hN, T.hs]; exact blkOk_by h1
section
variable {X : Cx} {c : Ctx} {H0 : Hp} {EX : XK} {γ0 : Gh}
/-- what a block's parts are to be, at each of its runs -/
abbrev Runs (X : Cx) (scope : Scope) (p : Cx → Prop) : Prop := ∀ (s : Shared) (H : Hp) (C : Addr) (cl : List (Str × Addr)) (fp : List Addr), p (X.blk s H scope (compEnvC scope cl C X.env) fp)
abbrev noX : XK := fun _ _ _ => False
theorem runs_e {scope : Scope} {e : Expr} {m : Env → M D} (h : Runs X scope fun Y => ∀ H0, PE Y e (tE (Y.ci H0 noX) m)) (s : Shared) (H : Hp) (C : Addr) (cl : List (Str × Addr)) (fp : List Addr) : PE (X.blk s H scope (compEnvC scope cl C X.env) fp) e (eX (X.ci H0 EX) m) :=
  ⟨fun pins z σ H Q I q => by obtain ⟨H0', q⟩ := q; exact (h _ _ _ _ _ H0').run pins z σ H Q I q⟩
theorem runs_t {scope : Scope} {e : Expr} {m : Env → M Bool} (h : Runs X scope fun Y => ∀ H0, PT Y e (tB (Y.ci H0 noX) m)) (s : Shared) (H : Hp) (C : Addr) (cl : List (Str × Addr)) (fp : List Addr) : PTs (X.blk s H scope (compEnvC scope cl C X.env) fp) [e] (bX (X.ci H0 EX) m) :=
  pts_one ⟨fun pins z σ H Q I q => by obtain ⟨H0', q⟩ := q; exact (h _ _ _ _ _ H0').run pins z σ H Q I q⟩
theorem runs_y {scope : Scope} (s : Shared) (H : Hp) (C : Addr) (cl : List (Str × Addr)) (fp : List Addr) : PTs (X.blk s H scope (compEnvC scope cl C X.env) fp) [] (bX (X.ci H0 EX) mYes) :=
  ⟨fun pins z σ H Q I q => by
    obtain ⟨H0', γ, ρ, sd, r, g⟩ := q
    exact pts_nil.run pins z σ H Q I (Goes.pure (K := X.K) (mg := X.mg) (EX := noX) (P := fun b _ H' _ => Q b H') g r.g)⟩
theorem runs_i {scope : Scope} {tg e : Expr} {m : Env → M (List D)} (h : Runs X scope fun Y => ∀ H0, PI Y tg e (tI (Y.ci H0 noX) m)) (s : Shared) (H : Hp) (C : Addr) (cl : List (Str × Addr)) (fp : List Addr) : PI (X.blk s H scope (compEnvC scope cl C X.env) fp) tg e (iX (X.ci H0 EX) m) :=
  ⟨fun pins z σ H Q I q => by obtain ⟨H0', q⟩ := q; exact (h _ _ _ _ _ H0').run pins z σ H Q I q⟩
theorem runs_g {scope : Scope} {tg : Expr} {is : List Nat} {g : Tg} (h : Runs X scope fun Y => ∀ H0, PG Y tg (tG (Y.ci H0 noX) is g)) (s : Shared) (H : Hp) (C : Addr) (cl : List (Str × Addr)) (fp : List Addr) : PG (X.blk s H scope (compEnvC scope cl C X.env) fp) tg (gX (X.ci H0 EX) is g) :=
  ⟨fun pins z σ H v u Q I rv q => by obtain ⟨H0', q⟩ := q; exact (h _ _ _ _ _ H0').run pins z σ H v u Q I rv q⟩
/-- a clause's tests: none, one -/
inductive IfsR (X : Cx) (scope : Scope) : List Expr → (Env → M Bool) → Prop
  | nil : IfsR X scope [] mYes
  | one {e : Expr} {m : Env → M Bool} : (Runs X scope fun Y => ∀ H0, PT Y e (tB (Y.ci H0 noX) m)) → IfsR X scope [e] m
theorem IfsR.pts {scope : Scope} {ifs : List Expr} {m : Env → M Bool} (h : IfsR X scope ifs m) (s : Shared) (H : Hp) (C : Addr) (cl : List (Str × Addr)) (fp : List Addr) : PTs (X.blk s H scope (compEnvC scope cl C X.env) fp) ifs (bX (X.ci H0 EX) m) := by
  cases h with
  | nil => exact runs_y s H C cl fp
  | one h => exact runs_t h s H C cl fp
theorem pe_dlc (T : StX X c) {elt tg iter : Expr} {ifs : List Expr} {scope : Scope} {own : List (Str × Nat)} {pos : Pos} {it : Env → M (List D)} {is : List Nat} {g : Tg} {t : Env → M Bool} {e : Env → M D} (h1 : blkC c.N c.sc scope own = true) (hi : PI X tg iter (tI (X.ci H0 EX) it))
    (his : ∀ i ∈ is, i ∈ own.map (·.2)) (hg : Runs X scope fun Y => ∀ H0, PG Y tg (tG (Y.ci H0 noX) is g)) (ht : IfsR X scope ifs t) (he : Runs X scope fun Y => ∀ H0, PE Y elt (tE (Y.ci H0 noX) e)) (hs : ∀ x, foldedSetIterable iter X.env x = pure x) :
    PE X (.ListComp elt [⟨tg, iter, ifs, 0⟩] scope pos) (tF (X.ci H0 EX) (mLc it g t e (own.map (·.2)))) :=
  (pe_lc T.calm (by rw [T.hN]; exact T.nd) hi (blkOk_of T h1) (runs_g (H0 := H0) (EX := EX) hg) (ht.pts (H0 := H0) (EX := EX)) (runs_e (H0 := H0) (EX := EX) he) hs).weak fun σ H Q q => lc_rd (c := X.ci H0 EX) his q
theorem pe_dlc2 (T : StX X c) {elt tg iter tg1 iter1 : Expr} {ifs ifs1 : List Expr} {scope : Scope} {own : List (Str × Nat)} {pos : Pos} {it it1 : Env → M (List D)} {is is1 : List Nat} {g g1 : Tg} {t t1 : Env → M Bool} {e : Env → M D} (h1 : blkC c.N c.sc scope own = true) (hi : PI X tg iter (tI (X.ci H0 EX) it))
    (his : ∀ i ∈ is, i ∈ own.map (·.2)) (his1 : ∀ i ∈ is1, i ∈ own.map (·.2)) (hg : Runs X scope fun Y => ∀ H0, PG Y tg (tG (Y.ci H0 noX) is g)) (ht : IfsR X scope ifs t) (hi1 : Runs X scope fun Y => ∀ H0, PI Y tg1 iter1 (tI (Y.ci H0 noX) it1)) (hg1 : Runs X scope fun Y => ∀ H0, PG Y tg1 (tG (Y.ci H0 noX) is1 g1)) (ht1 : IfsR X scope ifs1 t1)
    (he : Runs X scope fun Y => ∀ H0, PE Y elt (tE (Y.ci H0 noX) e)) (hs : ∀ x, foldedSetIterable iter X.env x = pure x) (hs1 : ∀ env x, foldedSetIterable iter1 env x = pure x) :
    PE X (.ListComp elt [⟨tg, iter, ifs, 0⟩, ⟨tg1, iter1, ifs1, 0⟩] scope pos) (tF (X.ci H0 EX) (mLc2 it g t it1 g1 t1 e (own.map (·.2)) is1)) :=
  (pe_lc2 T.calm (by rw [T.hN]; exact T.nd) hi (blkOk_of T h1) his1 (runs_g (H0 := H0) (EX := EX) hg) (ht.pts (H0 := H0) (EX := EX)) (runs_i (H0 := H0) (EX := EX) hi1) (runs_g (H0 := H0) (EX := EX) hg1) (ht1.pts (H0 := H0) (EX := EX)) (runs_e (H0 := H0) (EX := EX) he) hs hs1).weak
    fun σ H Q q => lc2_rd (c := X.ci H0 EX) his (fun i h => h) q

/-! ### a new list stored -/
def mSetV (m : Env → M (List D)) (i : Nat) : MS := fun ρ => m ρ >>= fun ds => if i < ρ.length then pure (.nx (ρ.set i (some (.val (.lst ds))))) else M.stop
def mSetO (m : Env → M (List D)) (i : Nat) : MS := fun ρ => m ρ >>= fun ds => if i < ρ.length then pure (.nx (ρ.set i (some (.own (.lst ds))))) else M.stop
theorem GoS.guard {c : CxI} {γ0 γ : Gh} {N : Ends} {b : Prop} [Decidable b] {m : M O} {s : DS} (h : GoS c γ0 γ N ((if b then m else M.stop) s)) : b ∧ GoS c γ0 γ N (m s) := by
  by_cases z : b
  · rw [if_pos z] at h; exact ⟨z, h⟩
  · rw [if_neg z] at h; exact h.elim
theorem setV_rd {c : CxI} {m : Env → M (List D)} {i : Nat} {N : Ends} {σ : L2.St} {H : Hp} (q : tS c γ0 (mSetV m i) N σ H) : tF c m σ H fun x H1 => gName i x σ H1 N.nx := by
  obtain ⟨γ, ρ, s, r, x, h⟩ := q
  refine tF.thenS r x h fun p vs ds s1 H1 γ1 r1 x1 _ h1 h2 h3 h4 h5 g1 => ?_
  obtain ⟨hl, g1⟩ := g1.guard
  obtain ⟨g2, le⟩ := r1.g.freeze h1 h3 h5
  have x2 : Step γ0 c.H0 (γ1.put p (.lst vs)) H1 := by
    refine ⟨x1.g.trans le, x1.keep, fun a u e f => ?_, x1.new, x1.dom⟩
    have na : a ≠ p := fun z => x.dom a (ne_none e) (z ▸ h4)
    show upd γ1.F p (.lst vs) a = none
    rw [upd_ne na]; exact x1.fz a u e f
  have r2 : SR c.K c.H0 σ H1 (γ1.put p (.lst vs)) ρ s1 := by
    refine ⟨g2, r1.len, fun j d e => ?_, fun j d e => ?_, r1.sep⟩
    · obtain ⟨v, k1, k2⟩ := r1.val j d e
      exact ⟨v, k1, k2.le le⟩
    · obtain ⟨q, k1, k2, k3, k4, k5⟩ := r1.own j d e
      obtain ⟨q', k1', k2', _⟩ := r.own j d e
      rw [k1] at k1'; cases k1'
      obtain ⟨o, ho⟩ := k2'.there
      refine ⟨q, k1, k2.step le fun _ e => e, fun z hz => k3 z hz, k4, ?_⟩
      show upd γ1.F p (.lst vs) q = none
      rw [upd_ne (ne_of_none ho h4)]; exact k5
  have hp : (γ1.put p (.lst vs)).F p = some (.lst vs) := upd_same
  exact GoS.nx (γ := γ1.put p (.lst vs)) (g1.mono le) (r2.setVal (.lst hp (h2.le le)) hl) x2
theorem setO_rd {c : CxI} {m : Env → M (List D)} {i : Nat} {N : Ends} {σ : L2.St} {H : Hp} (q : tS c γ0 (mSetO m i) N σ H) : tF c m σ H fun x H1 => gName i x σ H1 N.nx := by
  obtain ⟨γ, ρ, s, r, x, h⟩ := q
  refine tF.thenS r x h fun p vs ds s1 H1 γ1 r1 x1 _ h1 h2 h3 h4 h5 g1 => ?_
  obtain ⟨hl, g1⟩ := g1.guard
  refine GoS.nx g1 (r1.setOwn (.lst h1 h2) h5 (Classical.byContradiction fun w => x.dom p w h4) h3 hl fun j e nj hj hσ => ?_) x1
  obtain ⟨q, k1, k2, _⟩ := r.own j e hj
  rw [hσ] at k1; cases k1
  obtain ⟨o, ho⟩ := k2.there
  rw [h4] at ho; cases ho
/-- name = [..] -/
theorem ps_dsetF (T : StX X c) {i : Nat} {x : Str} {e : Expr} {m : Env → M (List D)} {p pos : Pos} (hi : c.N[i]? = some x) (hx : stoB c x = true) (he : PE X e (tF (X.ci H0 EX) m)) (hs : swapsWith e (some (.Name x p)) pos.line X.env = pure false) :
    PS X (.Assign [.Name x p] e pos) (tS (X.ci H0 EX) γ0 (mSetV m i)) ∧ PS X (.Assign [.Name x p] e pos) (tS (X.ci H0 EX) γ0 (mSetO m i)) := by
  obtain ⟨hl, hf⟩ := T.stores hx
  have h := ps_set (pos := pos) (by rw [T.hN]; exact T.nd) (by rw [T.hN]; exact hi) hl he hs hf
  exact ⟨h.weak fun N σ H q => setV_rd q, h.weak fun N σ H q => setO_rd q⟩
/-- name = [.. for ..] on one line -/
theorem ps_dsetLc (T : StX X c) {i : Nat} {x : Str} {p : Pos} {elt tg iter : Expr} {ifs : List Expr} {scope : Scope} {own : List (Str × Nat)} {pos spos : Pos} {it : Env → M (List D)} {is : List Nat} {g : Tg} {t : Env → M Bool} {e : Env → M D} (hx : c.N[i]? = some x) (hl : c.sc.names.lookup x = some .local)
    (hsw : swapsWith (.ListComp elt [⟨tg, iter, ifs, 0⟩] scope pos) (some (.Name x p)) spos.line X.env = pure true) (h1 : blkC c.N c.sc scope own = true) (hi : PI X tg iter (tI (X.ci H0 EX) it))
    (his : ∀ i ∈ is, i ∈ own.map (·.2)) (hg : Runs X scope fun Y => ∀ H0, PG Y tg (tG (Y.ci H0 noX) is g)) (ht : IfsR X scope ifs t) (he : Runs X scope fun Y => ∀ H0, PE Y elt (tE (Y.ci H0 noX) e)) (hs : ∀ x, foldedSetIterable iter X.env x = pure x) :
    PS X (.Assign [.Name x p] (.ListComp elt [⟨tg, iter, ifs, 0⟩] scope pos) spos) (tS (X.ci H0 EX) γ0 (mSetV (mLc it g t e (own.map (·.2))) i)) ∧ PS X (.Assign [.Name x p] (.ListComp elt [⟨tg, iter, ifs, 0⟩] scope pos) spos) (tS (X.ci H0 EX) γ0 (mSetO (mLc it g t e (own.map (·.2))) i)) := by
  have h := ps_setLc (spos := spos) T.calm (by rw [T.hN]; exact T.nd) (by rw [T.hN]; exact hx) (by rw [T.hs]; exact hl) hsw hi (blkOk_of T h1) (runs_g (H0 := H0) (EX := EX) hg) (ht.pts (H0 := H0) (EX := EX)) (runs_e (H0 := H0) (EX := EX) he) hs
  exact ⟨h.weak fun N σ H q => lc_rd (c := X.ci H0 EX) his (setV_rd q), h.weak fun N σ H q => lc_rd (c := X.ci H0 EX) his (setO_rd q)⟩
theorem ps_dsetLc2 (T : StX X c) {i : Nat} {x : Str} {p : Pos} {elt tg iter tg1 iter1 : Expr} {ifs ifs1 : List Expr} {scope : Scope} {own : List (Str × Nat)} {pos spos : Pos} {it it1 : Env → M (List D)} {is is1 : List Nat} {g g1 : Tg} {t t1 : Env → M Bool} {e : Env → M D} (hx : c.N[i]? = some x) (hl : c.sc.names.lookup x = some .local)
    (hsw : swapsWith (.ListComp elt [⟨tg, iter, ifs, 0⟩, ⟨tg1, iter1, ifs1, 0⟩] scope pos) (some (.Name x p)) spos.line X.env = pure true) (h1 : blkC c.N c.sc scope own = true) (hi : PI X tg iter (tI (X.ci H0 EX) it))
    (his : ∀ i ∈ is, i ∈ own.map (·.2)) (his1 : ∀ i ∈ is1, i ∈ own.map (·.2)) (hg : Runs X scope fun Y => ∀ H0, PG Y tg (tG (Y.ci H0 noX) is g)) (ht : IfsR X scope ifs t) (hi1 : Runs X scope fun Y => ∀ H0, PI Y tg1 iter1 (tI (Y.ci H0 noX) it1)) (hg1 : Runs X scope fun Y => ∀ H0, PG Y tg1 (tG (Y.ci H0 noX) is1 g1)) (ht1 : IfsR X scope ifs1 t1)
    (he : Runs X scope fun Y => ∀ H0, PE Y elt (tE (Y.ci H0 noX) e)) (hs : ∀ x, foldedSetIterable iter X.env x = pure x) (hs1 : ∀ env x, foldedSetIterable iter1 env x = pure x) :
    PS X (.Assign [.Name x p] (.ListComp elt [⟨tg, iter, ifs, 0⟩, ⟨tg1, iter1, ifs1, 0⟩] scope pos) spos) (tS (X.ci H0 EX) γ0 (mSetV (mLc2 it g t it1 g1 t1 e (own.map (·.2)) is1) i)) ∧ PS X (.Assign [.Name x p] (.ListComp elt [⟨tg, iter, ifs, 0⟩, ⟨tg1, iter1, ifs1, 0⟩] scope pos) spos) (tS (X.ci H0 EX) γ0 (mSetO (mLc2 it g t it1 g1 t1 e (own.map (·.2)) is1) i)) := by
  have h := ps_setLc2 (spos := spos) T.calm (by rw [T.hN]; exact T.nd) (by rw [T.hN]; exact hx) (by rw [T.hs]; exact hl) hsw hi (blkOk_of T h1) his1 (runs_g (H0 := H0) (EX := EX) hg) (ht.pts (H0 := H0) (EX := EX)) (runs_i (H0 := H0) (EX := EX) hi1) (runs_g (H0 := H0) (EX := EX) hg1) (ht1.pts (H0 := H0) (EX := EX)) (runs_e (H0 := H0) (EX := EX) he) hs hs1
  exact ⟨h.weak fun N σ H q => lc2_rd (c := X.ci H0 EX) his (fun i h => h) (setV_rd q), h.weak fun N σ H q => lc2_rd (c := X.ci H0 EX) his (fun i h => h) (setO_rd q)⟩
end
end RS

namespace RS
open PySem PySem.Spec PyProof.Rows L2
/-! ### binding of plain parameters -/
structure PlainP (K : PySem.W.Frag) (fd : FuncData) (ps : List Str) : Prop where
  pos : fd.params.posonlyargs = []
  arg : fd.params.args.map (·.arg) = ps
  var : fd.params.vararg = none
  kwo : fd.params.kwonlyargs = []
  kwa : fd.params.kwarg = none
  dfl : fd.defaults = .none ∨ ∃ (T : Addr) (o : Obj) (its : List Value) (n : Nat), fd.defaults = .ref T ∧ K.lookup T = some o ∧ o.data = .seq its.toArray n
theorem lookup_zip {α : Type} : ∀ {ps : List Str} {us : List α} {i : Nat} {x : Str}, ps.Nodup → ps[i]? = some x → (ps.zip us).lookup x = us[i]?
  | [], _, _, _, _, h => by simp at h
  | p :: ps, [], i, x, nd, h => by simp
  | p :: ps, u :: us, 0, x, nd, h => by
    simp at h; subst h
    simp [List.lookup_cons]
  | p :: ps, u :: us, i + 1, x, nd, h => by
    have h' : ps[i]? = some x := by simpa using h
    obtain ⟨n1, n2⟩ := List.nodup_cons.mp nd
    have ne : (x == p) = false := by
      cases q : x == p with
      | false => rfl
      | true =>
        have e : x = p := by simpa using q
        exact absurd (List.mem_of_getElem? h') (e ▸ n1)
    show List.lookup x ((p, u) :: ps.zip us) = _
    rw [List.lookup_cons, ne]
    simpa using lookup_zip n2 h'
/-- the call's names: m positional ones, then ks -/
def bindC (ps : List Str) (m : Nat) (ks : List Str) : Bool :=
  decide ps.Nodup && decide (m ≤ ps.length) && (ks.all fun k => ps.contains k) && decide (ps.take m ++ ks).Nodup && ps.all fun p => (ps.take m ++ ks).contains p
theorem lookup_mem {α : Type} : ∀ {ps : List Str} {us : List α} {x : Str}, ps.length ≤ us.length → x ∈ ps → ((ps.zip us).lookup x).isSome = true
  | [], _, _, _, h => by cases h
  | p :: ps, [], _, l, _ => by simp at l
  | p :: ps, u :: us, x, l, h => by
    show (List.lookup x ((p, u) :: ps.zip us)).isSome = true
    rw [List.lookup_cons]
    cases q : x == p with
    | true => rfl
    | false =>
      have ne : x ≠ p := fun e => by rw [e] at q; simp at q
      exact lookup_mem (by simpa using l) ((List.mem_cons.mp h).resolve_left ne)
theorem lookup_not {α : Type} : ∀ {l : List (Str × α)} {x : Str}, (∀ v, (x, v) ∉ l) → l.lookup x = none
  | [], _, _ => rfl
  | (p, u) :: l, x, h => by
    rw [List.lookup_cons]
    cases q : x == p with
    | true =>
      have e : x = p := by simpa using q
      exact absurd List.mem_cons_self (e ▸ h u)
    | false => exact lookup_not fun v hv => h v (List.mem_cons_of_mem _ hv)
theorem lookup_app {α : Type} : ∀ {l r : List (Str × α)} {x : Str}, (l ++ r).lookup x = (l.lookup x).or (r.lookup x)
  | [], _, _ => by simp
  | (p, u) :: l, r, x => by
    show List.lookup x ((p, u) :: (l ++ r)) = _
    rw [List.lookup_cons, List.lookup_cons]
    cases q : x == p with
    | true => rfl
    | false => exact lookup_app
theorem zip_take {α β : Type} : ∀ {ps : List α} {us : List β}, ps.zip us = (ps.take us.length).zip us
  | [], _ => by simp
  | p :: ps, [] => by simp
  | p :: ps, u :: us => by simp [← zip_take (ps := ps) (us := us)]
/-- the values in the parameters' order -/
def ordV {α : Type} (ps : List Str) (ks : List Str) (us ws : List α) : List α := ps.filterMap fun n => (ps.zip us ++ ks.zip ws).lookup n
theorem pick_zip {α : Type} {slots : List (Str × α)} : ∀ {ps : List Str}, (∀ p ∈ ps, (slots.lookup p).isSome = true) → (ps.filterMap fun n => (slots.lookup n).map fun v => (n, v)) = ps.zip (ps.filterMap fun n => slots.lookup n)
  | [], _ => rfl
  | p :: ps, h => by
    obtain ⟨v, e⟩ := Option.isSome_iff_exists.mp (h p List.mem_cons_self)
    rw [List.filterMap_cons, List.filterMap_cons, e]
    simp only [Option.map_some]
    rw [pick_zip fun q hq => h q (List.mem_cons_of_mem _ hq)]
    rfl
theorem pick_len {α : Type} {slots : List (Str × α)} : ∀ {ps : List Str}, (∀ p ∈ ps, (slots.lookup p).isSome = true) → (ps.filterMap fun n => slots.lookup n).length = ps.length
  | [], _ => rfl
  | p :: ps, h => by
    obtain ⟨v, e⟩ := Option.isSome_iff_exists.mp (h p List.mem_cons_self)
    rw [List.filterMap_cons, e]
    simp only [List.length_cons]
    rw [pick_len fun q hq => h q (List.mem_cons_of_mem _ hq)]
theorem kw_loop {f : Str × Value → List (Str × Value) × List (Str × Value) → Sem (ForInStep (List (Str × Value) × List (Str × Value)))} : ∀ {kw slots : List (Str × Value)},
    (∀ k v slots, (k, v) ∈ kw → (slots.lookup k).isSome = false → f (k, v) (slots, []) = pure (.yield (slots ++ [(k, v)], []))) → (kw.map (·.1)).Nodup → (∀ p ∈ kw, slots.lookup p.1 = none) →
    forIn kw (slots, []) f = pure (slots ++ kw, [])
  | [], slots, _, _, _ => by rw [List.forIn_nil, List.append_nil]
  | (k, v) :: kw, slots, hf, nd, hn => by
    rw [List.forIn_cons, hf k v slots List.mem_cons_self (by rw [hn _ List.mem_cons_self]; rfl)]
    obtain ⟨n1, n2⟩ := List.nodup_cons.mp (show (k :: kw.map (·.1)).Nodup from nd)
    show forIn kw (slots ++ [(k, v)], []) f = _
    rw [kw_loop (fun k' v' s h => hf k' v' s (List.mem_cons_of_mem _ h)) n2 fun p hp => ?_]
    · simp
    · rw [lookup_app, hn p (List.mem_cons_of_mem _ hp)]
      have ne : (p.1 == k) = false := by
        cases q : p.1 == k with
        | false => rfl
        | true =>
          have e : p.1 = k := by simpa using q
          exact absurd (e ▸ List.mem_map_of_mem hp) n1
      simp [List.lookup_cons, ne]
theorem mem_zip_fst {α β : Type} : ∀ {as : List α} {bs : List β}, as.length ≤ bs.length → (as.zip bs).map (·.1) = as
  | [], _, _ => rfl
  | a :: as, [], h => by simp at h
  | a :: as, b :: bs, h => by
    show a :: (as.zip bs).map (·.1) = _
    rw [mem_zip_fst (by simpa using h)]
theorem stay_loop {α β : Type} {f : α → β → Sem (ForInStep β)} {b : β} : ∀ {l : List α}, (∀ a ∈ l, f a b = pure (.yield b)) → forIn l b f = pure b
  | [], _ => by rw [List.forIn_nil]
  | a :: l, h => by
    rw [List.forIn_cons, h a List.mem_cons_self]
    show forIn l b f = _
    exact stay_loop fun a' h' => h a' (List.mem_cons_of_mem _ h')
theorem bind_ok1 {K : PySem.W.Frag} {fd : FuncData} {ps ks : List Str} {m : Nat} (P : PlainP K fd ps) (c : bindC ps m ks = true) {us ws : List Value} (hu : us.length = m) (hw : ws.length = ks.length) :
    bindArgs fd ⟨us, ks.zip ws⟩ = (seqItems? fd.defaults >>= fun _ => pure (ps.zip (ordV ps ks us ws))) ∧ (ordV ps ks us ws).length = ps.length := by
  unfold bindC at c
  simp only [Bool.and_eq_true, decide_eq_true_eq, List.all_eq_true] at c
  obtain ⟨⟨⟨⟨c1, c2⟩, c3⟩, c4⟩, c5⟩ := c
  subst hu
  obtain ⟨n1, n2, n3⟩ := List.nodup_append.mp c4
  have all : ∀ p ∈ ps, ((ps.zip us ++ ks.zip ws).lookup p).isSome = true := fun p hp => by
    have q := c5 p hp
    rw [List.contains_iff_mem, List.mem_append] at q
    rw [lookup_app, zip_take]
    rcases q with q | q
    · have z := lookup_mem (us := us) (by rw [List.length_take]; omega) q
      obtain ⟨v, e⟩ := Option.isSome_iff_exists.mp z
      rw [e]; rfl
    · have z := lookup_mem (us := ws) (by omega) q
      obtain ⟨v, e⟩ := Option.isSome_iff_exists.mp z
      rw [e]
      cases (List.lookup p ((ps.take us.length).zip us)) <;> rfl
  refine ⟨?_, pick_len all⟩
  have loop : ∀ f : Str × Value → List (Str × Value) × List (Str × Value) → Sem (ForInStep (List (Str × Value) × List (Str × Value))), (∀ k v slots, (k, v) ∈ ks.zip ws → (slots.lookup k).isSome = false → f (k, v) (slots, []) = pure (.yield (slots ++ [(k, v)], []))) →
      forIn (ks.zip ws) (ps.zip us, []) f = pure (ps.zip us ++ ks.zip ws, []) := fun f hf => by
    refine kw_loop hf (by rw [mem_zip_fst (by omega)]; exact n2) fun p hp => lookup_not fun v hv => ?_
    have h1 : p.1 ∈ ks := (List.of_mem_zip (show (p.1, p.2) ∈ _ from hp)).1
    rw [zip_take] at hv
    exact n3 _ (List.of_mem_zip hv).1 _ h1 rfl
  unfold bindArgs
  simp only [P.pos, P.arg, P.var, P.kwo, P.kwa, List.map_nil, List.nil_append, List.append_nil]
  rw [loop _ fun k v slots hk hs => ?_]
  · have e2 : ∀ n, (((ps.take n).filter fun n => ((ps.zip us ++ ks.zip ws).lookup n).isNone).isEmpty) = true := fun n => by
      rw [List.isEmpty_iff, List.filter_eq_nil_iff]
      intro p hp
      have := all p (List.mem_of_mem_take hp)
      cases q : (ps.zip us ++ ks.zip ws).lookup p with
      | none => rw [q] at this; cases this
      | some v => simp
    have e3 : (decide (us.length > ps.length) && Option.isNone (none : Option Arg)) = false := by
      simp; omega
    simp only [LawfulMonad.pure_bind]
    refine congrArg (seqItems? fd.defaults >>= ·) (funext fun o => ?_)
    simp only [e2, e3, LawfulMonad.pure_bind, List.forIn_nil, Bool.not_true, Bool.false_eq_true, if_false, List.isEmpty_nil]
    rw [stay_loop fun q hq => ?_]
    · simp only [LawfulMonad.pure_bind]
      rw [pick_zip all]
      rfl
    · have := all q.1 (List.mem_of_mem_drop (List.of_mem_zip (show (q.1, q.2) ∈ _ from hq)).1)
      cases z : (ps.zip us ++ ks.zip ws).lookup q.1 with
      | none => rw [z] at this; cases this
      | some v => simp
  · have h1 : k ∈ ks := (List.of_mem_zip hk).1
    have h2 : ps.contains k = true := c3 k h1
    simp only [h2, hs]
    rfl
theorem bind_ok {K : PySem.W.Frag} {fd : FuncData} {ps ks : List Str} {m : Nat} (P : PlainP K fd ps) (c : bindC ps m ks = true) {us ws : List Value} (hu : us.length = m) (hw : ws.length = ks.length) :
    (∀ s : Shared, K.In s.heap → BindsTo s fd ⟨us, ks.zip ws⟩ (ps.zip (ordV ps ks us ws))) ∧ (ordV ps ks us ws).length = ps.length := by
  obtain ⟨e, l⟩ := bind_ok1 P c hu hw
  refine ⟨fun s X => ?_, l⟩
  rcases P.dfl with z | ⟨T, o, its, n, z, lT, oT⟩
  · rw [z] at e
    exact .of_eq e
  · rw [z] at e
    refine BindsTo.of_looks fun M => ?_
    rw [e]
    exact looks_items X lT oT (PySem.W.Looks.of_pure rfl)
end RS

namespace RS
open PySem PySem.Spec PyProof.Rows L2

/-! ### a def, where no guard stands -/
structure FnG (P : Program) (w : World) (K : PySem.W.Frag) (mg : Str → Option Value) (base : Heap) (CX : CXT) (k : Nat) (f : Addr) (fd : FuncData) (ps : List Str) (sp : Sp) : Prop where
  len : ∀ vs H Q E, sp vs H Q E → vs.length = ps.length
  run : ∀ (A : Around) (outer : List PySem.Env) (s : Shared) (H : Hp) (args : Args) (us : List Value) (vs : List V) (Q : VK) (E : XK), Room k A → A.guards = some [] → Env0 P w K mg base A outer s H →
    BindsTo s fd args (ps.zip us) → Vals vs us → sp vs H Q E → codeAny (model P w) A (.call (.ref f) args) (CR CX outer P w H s Q E) s
theorem FnG.ok {P : Program} {w : World} {K : PySem.W.Frag} {mg : Str → Option Value} {base : Heap} {CX : CXT} {k : Nat} {f : Addr} {name qual : Str} {params : Arguments} {body : List Stmt} {scope : Scope} {dV kV doc pm cdv ct oc : Value} {an od : Option Addr}
    {osl : Array (Option Value)} {N ps : List Str} {sp : Sp} (lk : K.lookup f = some ⟨oc, od, .func (PySem.W.fnOf name qual params body scope dV kV doc pm an cdv ct), osl⟩) (hcd : PySem.W.codeIn K cdv qual = true) (S : FnScope N ps scope)
    (len : ∀ vs H Q E, sp vs H Q E → vs.length = ps.length)
    (hbody : ∀ (A : Around) (outer : List PySem.Env) (s : Shared) (H : Hp) (vs : List V) (Q : VK) (E : XK), Room k (A.deeper (envOfC qual scope s.heap.objs.size f cdv)) → A.guards = some [] → sp vs H Q E →
      ∃ t, PSs (cxOf CX P w K mg base N qual scope f cdv A outer s H E) body t ∧ t { nx := fun _ H' => Q .non H', rt := Q } (L2.start N vs) H) :
    FnG P w K mg base CX (k + 1) f (PySem.W.fnOf name qual params body scope dV kV doc pm an cdv ct) ps sp where
  len := len
  run A outer s H args us vs Q E hr hgu e0 hb r hsp := by
    have KX : K.In s.heap := e0.mod.kin.keeps fun b o e => (e0.bs b o e).1
    have lim := e0.mod.nolimit.keeps fun b o e => (e0.bs b o e).1
    have kinds : ∀ y ∈ ps.zip us, scope.names.lookup y.1 = some .local ∨ (scope.names.lookup y.1 = some .cell ∧ ((cellsFrom (s.heap.objs.size + 1) scope.names []).lookup y.1).isSome = true) := by
      rintro ⟨n, v⟩ hy
      exact (S.par n (List.of_mem_zip hy).1).imp id fun q => ⟨q, PySem.W.cellsFrom_some _ _ _ (.inl q)⟩
    apply codeAny_call_function hr.depth (KX _ _ lk) rfl S.co S.gen rfl (PySem.W.codeRec_of KX hcd) (hb _ _ _ _ _)
    apply wpAny_newFunctionEnv_cells S.kind kinds
    rintro env rfl s1 x
    refine ⟨lim.keeps x.toInCall.keep, codeAny_func ?_⟩
    obtain ⟨t, ht, hq⟩ := hbody A outer s H vs Q E (hr.deeper _) hgu hsp
    have I := inv_start (CX := CX) (E := E) S hr.hd e0 (len _ _ _ _ hsp) r x
    apply wpAny_mono (ht.run [] s1 (start N vs) H _ I hq) _ (fun e s' hs => hs)
    intro fl s' hs
    cases fl with
    | ret u => obtain ⟨v, _, H', J, rv, q⟩ := hs; exact ⟨v, H', J.os, J.bare, J.base, J.hok, rv, q⟩
    | next => obtain ⟨_, H', J, q⟩ := hs; exact ⟨V.non, H', J.os, J.bare, J.base, J.hok, rfl, q⟩
    | brk => exact hs.elim fun _ z => z.elim fun _ z => z.2.elim
    | cont => exact hs.elim fun _ z => z.elim fun _ z => z.2.elim
section
variable {X : Cx} {CX : CXT} {k : Nat} {f : Addr} {fd : FuncData} {ps : List Str} {sp : Sp} {E : XK} {x : Str} {p pos : Pos} {e : Expr} {es : List Expr}
theorem FnG.call {pins : List (Addr × Obj)} {σ : L2.St} {H : Hp} {s : Shared} {Q : VK} {us : List Value} {kw : List (Str × Value)} {us' : List Value} {vs : List V} (F : FnG X.prog X.w X.K X.mg X.base CX k f fd ps sp) (hr : Room k X.A) (hgu : X.A.guards = some []) (hx : Passes CX X E)
    (I : Inv X pins σ H s) (hb : BindsTo s fd ⟨us, kw⟩ (ps.zip us')) (r : Vals vs us') (h : sp vs H Q E) : wpAny (model X.prog X.w) X.A (call (.ref f) us kw) (EP X pins σ Q) X.xe s := by
  apply wpAny_call (codeAny_mono (F.run X.A X.stack s H ⟨us, kw⟩ us' vs Q E hr hgu I.env0 hb r h) _)
  intro r s' hq
  match r, hq with
  | .error e, hq => exact hx pins σ H s e s' I hq
  | .ok (.ret u), hq => exact I.after hq
end

/-! ### lists in the parameters' order, related -/
theorem Paired.look {α β : Type} {R : α → β → Prop} : ∀ {ps : List Str} {us : List α} {vs : List β} (n : Str), Paired R us vs → ((ps.zip us).lookup n = none ∧ (ps.zip vs).lookup n = none) ∨ ∃ a b, (ps.zip us).lookup n = some a ∧ (ps.zip vs).lookup n = some b ∧ R a b
  | [], _, _, _, _ => .inl ⟨by simp, by simp⟩
  | _ :: _, _, _, _, .nil => .inl ⟨by simp, by simp⟩
  | p :: ps, a :: us, b :: vs, n, .cons h t => by
    show ((List.lookup n ((p, a) :: ps.zip us) = none ∧ List.lookup n ((p, b) :: ps.zip vs) = none) ∨ ∃ x y, List.lookup n ((p, a) :: ps.zip us) = some x ∧ List.lookup n ((p, b) :: ps.zip vs) = some y ∧ R x y)
    rw [List.lookup_cons, List.lookup_cons]
    cases q : n == p with
    | true => exact .inr ⟨a, b, rfl, rfl, h⟩
    | false => exact Paired.look n t
theorem Paired.order {α β : Type} {R : α → β → Prop} {ps ks : List Str} {us ws : List α} {vs zs : List β} (h : Paired R us vs) (h' : Paired R ws zs) : Paired R (ordV ps ks us ws) (ordV ps ks vs zs) := by
  unfold ordV
  suffices ∀ l : List Str, Paired R (l.filterMap fun n => (ps.zip us ++ ks.zip ws).lookup n) (l.filterMap fun n => (ps.zip vs ++ ks.zip zs).lookup n) from this ps
  intro l
  induction l with
  | nil => exact .nil
  | cons n l ih =>
    rw [List.filterMap_cons, List.filterMap_cons, lookup_app, lookup_app]
    rcases Paired.look (ps := ps) n h with ⟨e1, e2⟩ | ⟨a, b, e1, e2, r⟩
    · rw [e1, e2]
      rcases Paired.look (ps := ks) n h' with ⟨e3, e4⟩ | ⟨a, b, e3, e4, r⟩
      · rw [e3, e4]; exact ih
      · rw [e3, e4]; exact .cons r ih
    · rw [e1, e2]; exact .cons r ih
theorem RepAll.paired {K : PySem.W.Frag} {γ : Gh} : ∀ {vs : List V} {ds : List D}, RepAll K γ vs ds → Paired (Rep K γ) vs ds
  | _, _, .nil => .nil
  | _, _, .cons r t => .cons r t.paired
theorem RepAll.of_paired {K : PySem.W.Frag} {γ : Gh} : ∀ {vs : List V} {ds : List D}, Paired (Rep K γ) vs ds → RepAll K γ vs ds
  | _, _, .nil => .nil
  | _, _, .cons r t => .cons r (RepAll.of_paired t)

/-! ### promises by the evaluator -/
def spD (K : PySem.W.Frag) (mg : Str → Option Value) (n : Nat) (m : List D → M D) : Sp := fun vs H Q E => ∃ γ s ds, GWf H γ s ∧ RepAll K γ vs ds ∧ ds.length = n ∧ Goes K mg E γ H (m ds s) fun d _ H' γ' => ∀ v, Rep K γ' v d → Q v H'
/-- a def as a call finds it -/
structure FnAt (X : Cx) (x : Str) (ps : List Str) (m : List D → M D) : Prop where
  ex : ∃ k f fd, FnG X.prog X.w X.K X.mg X.base (L2.CX X.prog X.w) k f fd ps (spD X.K X.mg ps.length m) ∧ Room k X.A ∧ X.mg x = some (.ref f) ∧ PySem.W.keepIn X.K (.ref f) = true ∧ PlainP X.K fd ps
def mCallD (F : List D → M D) (a : Env → M (List D)) : Env → M D := fun ρ => a ρ >>= fun ds => F ds
def mCallKw (F : List D → M D) (ps ks : List Str) (a b : Env → M (List D)) : Env → M D := fun ρ => a ρ >>= fun ds => b ρ >>= fun es => F (ordV ps ks ds es)
theorem ordV_pos {α : Type} {ps : List Str} {us : List α} (nd : ps.Nodup) (hl : us.length = ps.length) : ordV ps [] us [] = us := by
  unfold ordV
  simp only [List.zip_nil_left, List.append_nil]
  have go : ∀ (ps' : List Str) (us' : List α) (l : List (Str × α)), ps'.length = us'.length → (∀ p v, (p, v) ∈ ps'.zip us' → l.lookup p = some v) → (ps'.filterMap fun n => l.lookup n) = us' := by
    intro ps'
    induction ps' with
    | nil => intro us' l h _; cases us' with
      | nil => rfl
      | cons => simp at h
    | cons p ps' ih =>
      intro us' l h hv
      cases us' with
      | nil => simp at h
      | cons u us' =>
        rw [List.filterMap_cons, hv p u List.mem_cons_self]
        simp only
        rw [ih us' l (by simpa using h) fun q v hq => hv q v (List.mem_cons_of_mem _ hq)]
  refine go ps us _ hl.symm fun p v hp => ?_
  obtain ⟨i, hi⟩ := List.getElem?_of_mem hp
  rw [List.getElem?_zip_eq_some] at hi
  rw [lookup_zip nd hi.1]
  exact hi.2
section
variable {X : Cx} {c : Ctx} {H0 : Hp} {EX : XK} {x : Str} {p pos : Pos} {ps : List Str} {F : List D → M D}
theorem keyed {K : PySem.W.Frag} {mg : Str → Option Value} {γ : Gh} {H : Hp} {ds : List D} {s : DS} {vs : List V} {n : Nat} {Q : VK} {E : XK} (g : GWf H γ s) (r : RepAll K γ vs ds) (hn : ds.length = n) (h : Goes K mg E γ H (F ds s) fun d _ H' γ' => ∀ v, Rep K γ' v d → Q v H') : spD K mg n F vs H Q E := ⟨γ, s, ds, g, r, hn, h⟩
def lenG (n : Nat) (F : List D → M D) : List D → M D := fun ds => if ds.length = n then F ds else M.stop
theorem pe_dcall (T : StX X c) (A : FnAt X x ps F) (hx : Passes (L2.CX X.prog X.w) X EX) {e : Expr} {es : List Expr} {m : Env → M (List D)} (hg : c.sc.names.lookup x = gB) (ho : okName x = true) (hn : noStars (e :: es) = true) (nd : ps.Nodup) (ha : PA X (e :: es) (tEs (X.ci H0 EX) m)) :
    PE X (.Call (.Name x p) (e :: es) [] pos) (tE (X.ci H0 EX) (mCallD (lenG ps.length F) m)) := by
  obtain ⟨k, f, fd, G, hr, hm, hk, hP⟩ := A.ex
  refine ⟨fun pins s σ H Q I q => ?_⟩
  obtain ⟨n1, n2⟩ := Bool.and_eq_true_iff.mp (show ((!isStar e) && noStars es) = true from hn)
  refine wpAny_Call_Name_kw (ld_glob I (kind_of T hg) hm ?_ (okName_of ho).1)
  have q' : tEs (X.ci H0 EX) m σ H fun vs H1 => vs.length = ps.length ∧ spD X.K X.mg ps.length F vs H1 Q EX := by
    obtain ⟨γ, ρ, sd, r, g⟩ := q
    refine tEs.then (c := X.ci H0 EX) r g fun vs ds s1 H1 γ1 r1 x1 hv g1 => ?_
    obtain ⟨hl, g1⟩ := g1.guard
    exact ⟨hv.length.trans hl, γ1, s1, ds, r1.g, hv, hl, g1⟩
  refine PySem.W.callWith_K (h₀ := X.base) I.ok.mod.kin hk (thn (ha.run pos pins s σ H _ I q') fun us s1 ⟨vs, H1, I1, r, hl, sp⟩ => ⟨I1.kIn, ?_⟩) (star_no (by simpa using n1)) (stars_no n2)
  have hu : us.length = ps.length := r.length.symm.trans hl
  have b : bindC ps ps.length [] = true := by
    unfold bindC
    simp [nd]
  have b2 := bind_ok hP b hu (ws := []) rfl
  rw [ordV_pos nd hu] at b2
  exact G.call hr T.guards hx I1 (b2.1 _ I1.kIn) r sp
theorem pe_dcall0 (T : StX X c) (A : FnAt X x [] F) (hx : Passes (L2.CX X.prog X.w) X EX) (hg : c.sc.names.lookup x = gB) (ho : okName x = true) : PE X (.Call (.Name x p) [] [] pos) (tE (X.ci H0 EX) (fun _ => F [])) := by
  obtain ⟨k, f, fd, G, hr, hm, hk, hP⟩ := A.ex
  refine ⟨fun pins s σ H Q I q => ?_⟩
  refine wpAny_Call_Name_kw (ld_glob I (kind_of T hg) hm ?_ (okName_of ho).1)
  obtain ⟨γ, ρ, sd, r, g⟩ := q
  have b2 := bind_ok hP (ks := []) (m := 0) (by decide) (us := []) (ws := []) rfl rfl
  exact PySem.W.callWith_K0 I.kIn hk (G.call (us' := []) (vs := []) hr T.guards hx I (b2.1 _ I.kIn) .nil ⟨γ, sd, [], r.g, .nil, rfl, g⟩)
/-- keywords' values -/
theorem pk_dnil : PK X [] (tEs (X.ci H0 EX) mNil) := pk_nil.weak fun σ H Q q => by
  obtain ⟨γ, ρ, s, r, g⟩ := q
  exact Goes.pure (P := fun ds _ H' γ' => ∀ vs, RepAll X.K γ' vs ds → Q vs H') g r.g [] .nil
theorem pk_dcons {n : Option Str} {e : Expr} {kp : Pos} {kws : List Keyword} {me : Env → M D} {ms : Env → M (List D)} (he : PE X e (tE (X.ci H0 EX) me)) (hs : PK X kws (tEs (X.ci H0 EX) ms)) : PK X (⟨n, e, kp⟩ :: kws) (tEs (X.ci H0 EX) (mCons me ms)) := by
  refine (pk_cons he hs).weak fun σ H Q q => ?_
  obtain ⟨γ, ρ, s, r, g⟩ := q
  refine tE.then (c := X.ci H0 EX) r g fun v d s1 H1 γ1 r1 x1 hv g1 => tEs.then (c := X.ci H0 EX) r1 g1 fun vs ds s2 H2 γ2 r2 x2 hvs g2 => ?_
  exact Goes.pure (P := fun ds _ H' γ' => ∀ vs, RepAll X.K γ' vs ds → Q vs H') g2 r2.g _ (.cons (hv.le x2.g) hvs)
/-- the values behind a call with keywords -/
def mKw (ps ks : List Str) (n : Nat) (F : List D → M D) (a b : Env → M (List D)) : Env → M D := fun ρ => a ρ >>= fun ds => b ρ >>= fun es => if ds.length = n ∧ es.length = ks.length then F (ordV ps ks ds es) else M.stop
def mKw0 (ps ks : List Str) (F : List D → M D) (b : Env → M (List D)) : Env → M D := fun ρ => b ρ >>= fun es => if es.length = ks.length then F (ordV ps ks [] es) else M.stop
theorem kwE {kws : List Keyword} {env : PySem.Env} {ks : List Str} (h : kws.map (·.arg) = ks.map some) : (backToKw pos (keywordEach kws env)).all (·.1.isSome) = true ∧ (backToKw pos (keywordEach kws env)).filterMap (·.1) = ks ∧ (backToKw pos (keywordEach kws env)).any (·.1.isNone) = false := by
  induction kws generalizing ks with
  | nil =>
    cases ks with
    | nil => exact ⟨rfl, rfl, rfl⟩
    | cons => simp at h
  | cons a kws ih =>
    cases ks with
    | nil => simp at h
    | cons k ks =>
      obtain ⟨n, e, kp⟩ := a
      simp only [List.map_cons, List.cons.injEq] at h
      obtain ⟨h1, h2⟩ := h
      obtain ⟨i1, i2, i3⟩ := ih h2
      have h1' : n = some k := h1
      subst h1'
      refine ⟨?_, ?_, ?_⟩
      · show (true && (backToKw pos (keywordEach kws env)).all (·.1.isSome)) = true
        rw [i1]; rfl
      · show k :: (backToKw pos (keywordEach kws env)).filterMap (·.1) = _
        rw [i2]
      · show (false || (backToKw pos (keywordEach kws env)).any (·.1.isNone)) = false
        rw [i3]; rfl
theorem FnG.kw {k : Nat} {f : Addr} {fd : FuncData} {ks : List Str} {n : Nat} {pins : List (Addr × Obj)} {σ : L2.St} {Q : VK} (T : StX X c) (G : FnG X.prog X.w X.K X.mg X.base (L2.CX X.prog X.w) k f fd ps (spD X.K X.mg ps.length F)) (hr : Room k X.A) (hP : PlainP X.K fd ps) (hx : Passes (L2.CX X.prog X.w) X EX) (hb : bindC ps n ks = true)
    {γ1 : Gh} {H1 : Hp} {s1 : DS} {vs : List V} {ds : List D} {us : List Value} {ws : List Value} {zs : List V} {es' : List D} {z : Shared} (I1 : Inv X pins σ H1 z) (g : GWf H1 γ1 s1) (r1 : RepAll X.K γ1 vs ds) (r2 : RepAll X.K γ1 zs es') (v1 : Vals vs us) (v2 : Vals zs ws) (hl : ds.length = n ∧ es'.length = ks.length)
    (hh : Goes X.K X.mg EX γ1 H1 (F (ordV ps ks ds es') s1) fun d _ H' γ' => ∀ v, Rep X.K γ' v d → Q v H') : wpAny (model X.prog X.w) X.A (PySem.call (.ref f) us (ks.zip ws)) (EP X pins σ Q) X.xe z := by
  have hu : us.length = n := by rw [← v1.length, r1.length]; exact hl.1
  have hw : ws.length = ks.length := by rw [← v2.length, r2.length]; exact hl.2
  have b2 := bind_ok hP hb hu hw
  have rv : Vals (ordV ps ks vs zs) (ordV ps ks us ws) := Paired.order v1 v2
  have rd : RepAll X.K γ1 (ordV ps ks vs zs) (ordV ps ks ds es') := RepAll.of_paired (Paired.order r1.paired r2.paired)
  refine G.call hr T.guards hx I1 (b2.1 _ I1.kIn) rv ⟨γ1, s1, _, g, rd, ?_, hh⟩
  rw [← rd.length, rv.length, b2.2]
theorem pe_dcallKw (T : StX X c) (A : FnAt X x ps F) (hx : Passes (L2.CX X.prog X.w) X EX) {e : Expr} {es : List Expr} {kws : List Keyword} {ks : List Str} {m m' : Env → M (List D)} (hg : c.sc.names.lookup x = gB) (ho : okName x = true) (hn : noStars (e :: es) = true) (hk' : kws.map (·.arg) = ks.map some) (hb : bindC ps (e :: es).length ks = true)
    (ha : PA X (e :: es) (tEs (X.ci H0 EX) m)) (hkw : PK X kws (tEs (X.ci H0 EX) m')) : PE X (.Call (.Name x p) (e :: es) kws pos) (tE (X.ci H0 EX) (mKw ps ks (e :: es).length F m m')) := by
  obtain ⟨k, f, fd, G, hr, hm, hk, hP⟩ := A.ex
  refine ⟨fun pins s σ H Q I q => ?_⟩
  obtain ⟨a1, a2, a3⟩ := kwE (pos := pos) (env := X.env) hk'
  obtain ⟨n1, n2⟩ := Bool.and_eq_true_iff.mp (show ((!isStar e) && noStars es) = true from hn)
  refine wpAny_Call_Name_kw (ld_glob I (kind_of T hg) hm ?_ (okName_of ho).1)
  have q' : tEs (X.ci H0 EX) m σ H fun vs H1 => tEs (X.ci H0 EX) m' σ H1 fun zs H2 => ∃ γ1 s1 ds es', GWf H2 γ1 s1 ∧ RepAll X.K γ1 vs ds ∧ RepAll X.K γ1 zs es' ∧ (ds.length = (e :: es).length ∧ es'.length = ks.length) ∧ Goes X.K X.mg EX γ1 H2 (F (ordV ps ks ds es') s1) fun d _ H' γ' => ∀ v, Rep X.K γ' v d → Q v H' := by
    obtain ⟨γ, ρ, sd, r, g⟩ := q
    refine tEs.then (c := X.ci H0 EX) r g fun vs ds s1 H1 γ1 r1 x1 hv g1 => tEs.then (c := X.ci H0 EX) r1 g1 fun zs es' s2 H2 γ2 r2 x2 hz g2 => ?_
    obtain ⟨hl, g2⟩ := g2.guard
    exact ⟨γ2, s2, ds, es', r2.g, hv.le x2.g, hz, hl, g2⟩
  refine PySem.W.callWith_KW (h₀ := X.base) I.ok.mod.kin hk a1 (thn (ha.run pos pins s σ H _ I q') fun us s1 ⟨vs, H1, I1, rv, q1⟩ => thn (hkw.run pos pins s1 σ H1 _ I1 q1) fun ws s2 ⟨zs, H2, I2, rz, γ1, sd, ds, es', g, r1, r2, hl, hh⟩ => ⟨I2.kIn, ?_⟩) ?_ (star_no (by simpa using n1))
  · rw [a2]
    exact FnG.kw T G hr hP hx hb I2 g r1 r2 rv rz hl hh
  · rw [stars_no hn, a3]; rfl
theorem pe_dcallKw0 (T : StX X c) (A : FnAt X x ps F) (hx : Passes (L2.CX X.prog X.w) X EX) {kws : List Keyword} {ks : List Str} {m' : Env → M (List D)} (hg : c.sc.names.lookup x = gB) (ho : okName x = true) (hk' : kws.map (·.arg) = ks.map some) (hb : bindC ps 0 ks = true)
    (hkw : PK X kws (tEs (X.ci H0 EX) m')) : PE X (.Call (.Name x p) [] kws pos) (tE (X.ci H0 EX) (mKw0 ps ks F m')) := by
  obtain ⟨k, f, fd, G, hr, hm, hk, hP⟩ := A.ex
  refine ⟨fun pins s σ H Q I q => ?_⟩
  obtain ⟨a1, a2, a3⟩ := kwE (pos := pos) (env := X.env) hk'
  refine wpAny_Call_Name_kw (ld_glob I (kind_of T hg) hm ?_ (okName_of ho).1)
  have q' : tEs (X.ci H0 EX) m' σ H fun zs H2 => ∃ γ1 s1 es', GWf H2 γ1 s1 ∧ RepAll X.K γ1 zs es' ∧ es'.length = ks.length ∧ Goes X.K X.mg EX γ1 H2 (F (ordV ps ks [] es') s1) fun d _ H' γ' => ∀ v, Rep X.K γ' v d → Q v H' := by
    obtain ⟨γ, ρ, sd, r, g⟩ := q
    refine tEs.then (c := X.ci H0 EX) r g fun zs es' s1 H1 γ1 r1 x1 hz g1 => ?_
    obtain ⟨hl, g1⟩ := g1.guard
    exact ⟨γ1, s1, es', r1.g, hz, hl, g1⟩
  refine PySem.W.callWith_KW0 (h₀ := X.base) I.ok.mod.kin hk a1 (thn (hkw.run pos pins s σ H _ I q') fun ws s2 ⟨zs, H2, I2, rz, γ1, sd, es', g, r2, hl, hh⟩ => ⟨I2.kIn, ?_⟩) ?_
  · rw [a2]
    exact FnG.kw (ds := []) (vs := []) T G hr hP hx hb I2 g .nil r2 .nil rz ⟨rfl, hl⟩ hh
  · rw [a3]; rfl
end

/-! ### a def's body -/
def startE (N : List Str) (ds : List D) : Env := ds.map (fun d => some (Sl.val d)) ++ List.replicate (N.length - ds.length) none
def fin : O → M D
  | .rt d => pure d
  | .nx _ => pure .non
  | _ => M.stop
def runB (N : List Str) (b : MS) (ds : List D) : M D := b (startE N ds) >>= fin
theorem start_get {N : List Str} {vs : List V} {i : Nat} : (L2.start N vs)[i]? = if i < vs.length then (vs[i]?).map some else (L2.start N vs)[i]? := by
  split
  · rename_i h
    unfold L2.start
    rw [List.getElem?_append_left (by simpa using h), List.getElem?_map]
  · rfl
theorem SR.start {K : PySem.W.Frag} {H : Hp} {γ : Gh} {s : DS} {N : List Str} {vs : List V} {ds : List D} (g : GWf H γ s) (r : RepAll K γ vs ds) : SR K H (L2.start N vs) H γ (startE N ds) s := by
  have hl := r.length
  have get : ∀ (i : Nat) (x : Sl), (startE N ds)[i]? = some (some x) → ∃ d, ds[i]? = some d ∧ x = .val d := fun i x e => by
    unfold startE at e
    by_cases h : i < ds.length
    · rw [List.getElem?_append_left (by simpa using h), List.getElem?_map] at e
      cases q : ds[i]? with
      | none => rw [q] at e; cases e
      | some d => rw [q] at e; cases e; exact ⟨d, rfl, rfl⟩
    · rw [List.getElem?_append_right (by simpa using h), List.getElem?_replicate] at e
      split at e <;> cases e
  refine ⟨g, ?_, fun i d e => ?_, fun i d e => ?_, fun i j d e p h1 h2 h3 h4 => ?_⟩
  · unfold startE L2.start
    simp [hl]
  · obtain ⟨d', h1, h2⟩ := get i _ e
    cases h2
    obtain ⟨v, h3, h4⟩ := r.get h1
    refine ⟨v, ?_, h4⟩
    have hi : i < vs.length := by rw [hl]; exact (List.getElem?_eq_some_iff.mp h1).1
    rw [start_get, if_pos hi, h3]; rfl
  · obtain ⟨d', h1, h2⟩ := get i _ e
    cases h2
  · obtain ⟨d', h1, h2⟩ := get i _ h1
    cases h2
theorem Step.start {γ : Gh} {H : Hp} : Step γ H γ H := Step.refl _ _
/-- a body keeps the promise -/
theorem body_ok {X : Cx} {N : List Str} {n : Nat} {m : MS} {vs : List V} {H : Hp} {Q : VK} {E : XK} (h : spD X.K X.mg n (runB N m) vs H Q E) : ∃ γ0, tS (X.ci H E) γ0 m { nx := fun _ H' => Q .non H', rt := Q } (L2.start N vs) H := by
  obtain ⟨γ, s, ds, g, r, hn, h⟩ := h
  refine ⟨γ, γ, startE N ds, s, SR.start g r, Step.refl _ _, ?_⟩
  unfold runB at h
  cases e : m (startE N ds) s with
  | ok o s' =>
    rw [bnd_ok e] at h
    cases o with
    | nx ρ => exact fun σ' H' γ' l r' x' => (show ∀ H' γ', Step γ H γ' H' → GWf H' γ' s' → ∀ v, Rep X.K γ' v .non → Q v H' from h) H' γ' x' r'.g .non .non
    | rt d => exact fun v H' γ' g' x' r' => (show ∀ H' γ', Step γ H γ' H' → GWf H' γ' s' → ∀ v, Rep X.K γ' v d → Q v H' from h) H' γ' x' g' v r'
    | bk ρ => exact h.elim
    | ct ρ => exact h.elim
  | exc cl x s' => rw [bnd_exc e] at h; exact h
  | stuck => rw [bnd_stuck e] at h; exact h.elim
end RS

namespace RS
open PySem PySem.Spec PyProof.Rows L2

/-! ### repr -/
mutual
/-- values of the language's own plain kinds -/
def D.plain : D → Bool
  | .non | .bl _ | .int _ | .str _ => true
  | .tup xs | .lst xs => D.plains xs
  | .dic kvs => D.plainKv kvs
  | _ => false
def D.plains : List D → Bool
  | [] => true
  | d :: ds => D.plain d && D.plains ds
def D.plainKv : List (D × D) → Bool
  | [] => true
  | (_, d) :: ds => D.plain d && D.plainKv ds
end
section
variable {X : Cx} {pins : List (Addr × Obj)} {σ : L2.St} {H : Hp} {s : Shared} {γ : Gh}
theorem key_reads {h : Heap} {k : Key} {v : Value} (e : keyIs k v = true) : Reads h v (keyD k).py [] := by
  rcases keyIs_shape e with ⟨i, t, rfl, rfl⟩ | ⟨x, t, rfl, rfl⟩
  · exact .int i t
  · exact .str x t
mutual
theorem Rep.reads (I : Inv X pins σ H s) (le : Same γ.F H) (hs : H sysModules = none) : ∀ (d : D) (v : V) (u : Value), Rep X.K γ v d → RelV v u → d.plain = true → ∃ as, Reads s.heap u d.py as ∧ sysModules ∉ as
  | .non, _, _, h, r, _ => by cases h; cases r; exact ⟨_, .none, by simp⟩
  | .bl _, _, _, h, r, _ => by cases h; cases r; exact ⟨_, .bool _, by simp⟩
  | .int _, _, _, h, r, _ => by cases h; obtain ⟨t, rfl⟩ := r; exact ⟨_, .int _ t, by simp⟩
  | .str _, _, _, h, r, _ => by cases h; obtain ⟨t, rfl⟩ := r; exact ⟨_, .str _ t, by simp⟩
  | .tup ds, _, _, h, r, f => by
    cases h with
    | tup h1 h2 =>
      cases r
      obtain ⟨its, rv, ⟨o, ho, hc, n, hd⟩, _⟩ := I.tuple (le.tupT h1)
      obtain ⟨as, hr, na⟩ := RepAll.reads I le hs ds _ its h2 rv f
      exact ⟨_, .tuple ho hc hd hr, na⟩
  | .lst ds, _, _, h, r, f => by
    cases h with
    | lst h1 h2 =>
      cases r
      have e := le _ _ h1
      obtain ⟨its, rv, ⟨o, n, ho, hc, _, hd⟩, _⟩ := I.list (SqL.of e)
      obtain ⟨as, hr, na⟩ := RepAll.reads I le hs ds _ its h2 rv f
      refine ⟨_, .list ho hc hd hr, fun m => ?_⟩
      rcases List.mem_cons.mp m with z | z
      · rw [← z, hs] at e; cases e
      · exact na z
  | .dic ds, _, _, h, r, f => by
    cases h with
    | dic h1 h2 =>
      cases r
      have e := le _ _ h1
      obtain ⟨_, hsy, vs, kv, o, es, ep, e1, e2, e3, _, pr, _⟩ := (show ObjOk X.prog X.w H s.heap _ (.dK _) from (I.hok _ _ e).2)
      obtain ⟨as, bs, r1, r2, n1, n2⟩ := RepKv.reads I le hs ds _ vs es.toList h2 kv pr f
      refine ⟨_, .dict e1 e2.1 e3 r1 r2, fun m => ?_⟩
      rcases List.mem_append.mp m with m | m
      · rcases List.mem_cons.mp m with z | z
        · rw [← z, hs] at e; cases e
        · exact n1 z
      · exact n2 m
  | .scr _, _, _, _, _, f => by cases f
  | .deck, _, _, _, _, f => by cases f
  | .err _ _, _, _, _, _, f => by cases f
  | .lam _ _, _, _, _, _, f => by cases f
theorem RepAll.reads (I : Inv X pins σ H s) (le : Same γ.F H) (hs : H sysModules = none) : ∀ (ds : List D) (vs : List V) (us : List Value), RepAll X.K γ vs ds → Vals vs us → D.plains ds = true → ∃ as, ReadsAll s.heap us (D.pys ds) as ∧ sysModules ∉ as
  | [], _, _, h, r, _ => by cases h; cases r; exact ⟨_, .nil, by simp⟩
  | d :: ds, _, _, h, r, f => by
    have f' : (d.plain && D.plains ds) = true := f
    obtain ⟨f1, f2⟩ := Bool.and_eq_true_iff.mp f'
    cases h with
    | cons h1 h2 =>
      cases r with
      | cons r1 r2 =>
        obtain ⟨as, q1, n1⟩ := Rep.reads I le hs d _ _ h1 r1 f1
        obtain ⟨bs, q2, n2⟩ := RepAll.reads I le hs ds _ _ h2 r2 f2
        exact ⟨_, .cons q1 q2, fun m => (List.mem_append.mp m).elim n1 n2⟩
theorem RepKv.reads (I : Inv X pins σ H s) (le : Same γ.F H) (hs : H sysModules = none) : ∀ (ds : List (D × D)) (kvs : List (Key × V)) (vs : List (Key × Value)) (es : List DictEntry), RepKv X.K γ kvs ds → KV kvs vs → Pairs (mixKind X.prog X.w) es vs → D.plainKv ds = true →
    ∃ as bs, ReadsAll s.heap (es.map (·.key)) ((D.pykv ds).map (·.1)) as ∧ ReadsAll s.heap (es.map (·.val)) ((D.pykv ds).map (·.2)) bs ∧ sysModules ∉ as ∧ sysModules ∉ bs
  | [], _, _, _, h, r, p, _ => by cases h; cases r; cases p; exact ⟨_, _, .nil, .nil, by simp, by simp⟩
  | (k, d) :: ds, _, _, _, h, r, p, f => by
    have f' : (d.plain && D.plainKv ds) = true := f
    obtain ⟨f1, f2⟩ := Bool.and_eq_true_iff.mp f'
    cases h with
    | cons h1 h2 =>
      cases r with
      | cons r1 r2 =>
        cases p with
        | @cons e _ _ _ p1 p2 p3 =>
          obtain ⟨as, bs, q1, q2, n1, n2⟩ := RepKv.reads I le hs ds _ _ _ h2 r2 p3 f2
          obtain ⟨cs, q3, n3⟩ := Rep.reads I le hs d _ _ h1 r1.2 f1
          have kk := r1.1
          have k1 := key_reads (h := s.heap) (k := _) (v := _) (show keyIs _ _ = true from p1)
          rw [← kk] at k1
          have v1 : Reads s.heap e.val d.py cs := by rw [p2]; exact q3
          exact ⟨_, _, .cons k1 q1, .cons v1 q2, fun m => n1 (by simpa using m), fun m => (List.mem_append.mp m).elim n3 n2⟩
end
theorem RepL.reads {sd : DS} {d : D} {v : V} {u : Value} (I : Inv X pins σ H s) (g : GWf H γ sd) (hs : H sysModules = none) (h : RepL X.K H γ v d) (r : RelV v u) (f : d.plain = true) : ∃ as, Reads s.heap u d.py as ∧ sysModules ∉ as := by
  cases h with
  | rep h => exact Rep.reads I g.le hs d v u h r f
  | own o od =>
    cases r
    cases o with
    | lst e h2 =>
      obtain ⟨its, rv, ⟨o, n, ho, hc, _, hd⟩, _⟩ := I.list (SqL.of e)
      obtain ⟨as, hr, na⟩ := RepAll.reads I g.le hs _ _ its h2 rv f
      refine ⟨_, .list ho hc hd hr, fun m => ?_⟩
      rcases List.mem_cons.mp m with z | z
      · rw [← z, hs] at e; cases e
      · exact na z
    | dic e h2 =>
      obtain ⟨_, hsy, vs, kv, o, es, ep, e1, e2, e3, _, pr, _⟩ := (show ObjOk X.prog X.w H s.heap _ (.dK _) from I.hok _ _ e)
      obtain ⟨as, bs, r1, r2, n1, n2⟩ := RepKv.reads I g.le hs _ _ vs es.toList h2 kv pr f
      refine ⟨_, .dict e1 e2.1 e3 r1 r2, fun m => ?_⟩
      rcases List.mem_append.mp m with m | m
      · rcases List.mem_cons.mp m with z | z
        · rw [← z, hs] at e; cases e
        · exact n1 z
      · exact n2 m
end
def dRepr (d : D) : Option D := if d.plain && d.py.showable && decide (d.py.shown.length ≤ lim) && decide (d.py.depth ≤ 60) then some (.str d.py.shown) else none
def bRepr : List D → Option D
  | [d] => dRepr d
  | _ => none
section
variable {X : Cx} {c : Ctx}
theorem call_dRepr (T : StX X c) : CallR X (.builtin "repr") (rL X.K bRepr) := by
  intro pins s σ H xs us Q I rx h
  obtain ⟨γ, sd, ds, r, g, hx, ho, q⟩ := h
  unfold bRepr at ho
  split at ho
  · rename_i d
    obtain ⟨v, rfl, hv⟩ := hx.one
    obtain ⟨u, rfl, ru⟩ := vals1 rx
    unfold dRepr at ho
    split at ho
    · rename_i hc
      simp only [Bool.and_eq_true, decide_eq_true_eq] at hc
      obtain ⟨⟨⟨c1, c2⟩, c3⟩, c4⟩ := hc
      cases ho
      obtain ⟨so, hso⟩ := T.sys
      have hsys : H sysModules = none := (I.bs _ _ (I.ok.mod.kin _ _ hso)).2
      obtain ⟨as, rd, na⟩ := hv.reads I g hsys ru c1
      have fin : ∀ h' (t : Tok) tk, (∀ b o, s.heap.get? b = some o → h'.get? b = some o) → EP X pins σ Q (.str d.py.shown t) { s with heap := h', toks := tk } := fun h' t tk k =>
        ⟨.str d.py.shown, H, I.kept (t' := tk) k, ⟨t, rfl⟩, q _ _ (Step.refl _ _) g _ (.str _)⟩
      have sz : d.py.shown.length ≤ sizeLine := by rw [← lim_eq]; exact c3
      have hu := T.hu
      have road : ∀ {a : Addr}, u = .ref a → wpAny (model X.prog X.w) X.A (PySem.call (.builtin "repr") [u]) (EP X pins σ Q) X.xe s := fun {a} e => by
        subst e
        exact repr_of_reads' rd c2 (fun _ => na) T.guards (by omega) (fun _ _ z => z) (fun h' u tk k => fin h' u tk k) sz
      cases d with
      | non =>
        cases hv.non; cases ru
        exact P.repr_of_none (by have := fin s.heap s.toks (s.toks + 1) (fun _ _ z => z); simpa [D.py, PyData.shown] using this)
      | bl b =>
        cases hv.bl; cases ru
        exact P.repr_of_bool (by have := fin s.heap s.toks (s.toks + 1) (fun _ _ z => z); simpa [D.py, PyData.shown] using this)
      | int i =>
        cases hv.int; obtain ⟨t, rfl⟩ := ru
        have c2' : i.natAbs.log2 < 1920 := by simpa [D.py, PyData.showable] using c2
        exact P.repr_of_int c2' (by have := fin s.heap s.toks (s.toks + 1) (fun _ _ z => z); simpa [D.py, PyData.shown] using this)
      | str x =>
        cases hv.str; obtain ⟨t, rfl⟩ := ru
        exact P.repr_of_str (by have := fin s.heap s.toks (s.toks + 1) (fun _ _ z => z); simpa [D.py, PyData.shown] using this) (by simpa [D.py, PyData.shown] using sz)
      | tup xs =>
        obtain ⟨p, vs, rfl, _, _⟩ := hv.tup g
        exact road ru
      | lst xs =>
        obtain ⟨p, vs, rfl, _, _⟩ := hv.lst g
        exact road ru
      | dic xs =>
        obtain ⟨p, vs, rfl, _, _⟩ := hv.dic g
        exact road ru
      | scr _ => cases c1
      | deck => cases c1
      | err _ _ => cases c1
      | lam _ _ => cases c1
    · cases ho
  · cases ho
end

/-! ### isinstance -/
def tyOf : D → Option String
  | .non => some "NoneType"
  | .bl _ => some "bool"
  | .int _ => some "int"
  | .str _ => some "str"
  | .tup _ => some "tuple"
  | .lst _ => some "list"
  | .dic _ => some "dict"
  | _ => none
def isaB (a b : String) : Bool := a == b || (a == "bool" && b == "int")
def isaTys : List String := ["int", "bool", "tuple", "list", "str", "dict"]
def dIsa (T : String) (d : D) : Option Bool := (tyOf d).map fun a => isaB a T
theorem kit_all : ∀ T ∈ isaTys, ∀ a ∈ ["NoneType", "bool", "int", "str", "tuple", "list", "dict"], kitB a T = some (isaB a T) := by decide +kernel
theorem isa_kit {K : PySem.W.Frag} {T : String} {d : D} {a : String} (hT : T ∈ isaTys) (h : tyOf d = some a) : PySem.W.kitOne K (.type a) (.type T) = some (isaB a T) := by
  refine kit_ty (kit_all T hT a ?_)
  cases d <;> cases h <;> decide
theorem ty_rep {K : PySem.W.Frag} {H : Hp} {γ : Gh} {s : DS} {v : V} {d : D} {a : String} (g : GWf H γ s) (hv : RepL K H γ v d) (h : tyOf d = some a) : TyX K H v (.type a) := by
  cases d with
  | non => cases h; cases hv.non; exact .base .non
  | bl b => cases h; cases hv.bl; exact .base (.bl b)
  | int i => cases h; cases hv.int; exact .base (.int i)
  | str x => cases h; cases hv.str; exact .base (.str x)
  | tup xs =>
    cases h
    obtain ⟨p, vs, rfl, hp, _⟩ := hv.tup g
    rcases hp with (e | ⟨o, e⟩) | ⟨o, its, n, e1, e2, _⟩
    · exact .base (.tup e)
    · exact .fTuple e
    · exact .kTuple e1 e2
  | lst xs =>
    cases h
    obtain ⟨p, vs, rfl, hp, _⟩ := hv.lst g
    exact .base (.lst hp)
  | dic xs =>
    cases h
    obtain ⟨p, vs, rfl, hp, _⟩ := hv.dic g
    rcases hp with e | ⟨o, e⟩
    · exact .base (.dK e)
    · exact .fDict e
  | scr _ => cases h
  | deck => cases h
  | err _ _ => cases h
  | lam _ _ => cases h
def mIsa (T : String) (m : Env → M D) : Env → M Bool := fun ρ => m ρ >>= fun d => M.opt (dIsa T d)
section
variable {X : Cx} {c : Ctx} {H0 : Hp} {EX : XK}
theorem isa_rd {T : String} {m : Env → M D} {σ : L2.St} {H : Hp} {Q : VK} (hT : T ∈ isaTys) (q : tE (X.ci H0 EX) (mBl (mIsa T m)) σ H Q) : tO (X.ci H0 EX) m σ H fun v H1 => ∃ t b, TyX X.K H1 v t ∧ PySem.W.kitOne X.K t (.type T) = some b ∧ Q (.bl b) H1 := by
  obtain ⟨γ, ρ, s, r, g⟩ := q
  have g : Goes X.K X.mg EX γ H ((m ρ >>= fun d => M.opt (dIsa T d) >>= fun b => pure (D.bl b)) s) fun d _ H' γ' => ∀ v, Rep X.K γ' v d → Q v H' := by
    have e : (mBl (mIsa T m) ρ : M D) = (m ρ >>= fun d => M.opt (dIsa T d) >>= fun b => pure (D.bl b)) := by
      unfold mBl mIsa
      rw [M.assoc]
    rw [← e]; exact g
  refine tO.then (c := X.ci H0 EX) r g fun v d s1 H1 γ1 r1 x1 hv g1 => ?_
  obtain ⟨b, e1, k⟩ := g1.opt
  obtain ⟨a, e2, rfl⟩ := Option.map_eq_some_iff.mp e1
  exact ⟨_, _, ty_rep r1.g hv e2, isa_kit hT e2, Goes.pure (P := fun d _ H' γ' => ∀ v, Rep X.K γ' v d → Q v H') k r1.g _ (.bl _)⟩
theorem pe_disa (T : StX X c) {t : Str} {ty : String} {e : Expr} {m : Env → M D} {p p2 pos : Pos} (hT : ty ∈ isaTys) (ht : bootBuiltins t = some (.type ty)) (hgi : c.sc.names.lookup (Str.ofString "isinstance") = gB) (hgt : c.sc.names.lookup t = gB) (hot : okName t = true)
    (hmi : X.mg "isinstance" = none) (hmt : X.mg t = none) (hn : isStar e = false) (he : PE X e (tO (X.ci H0 EX) m)) : PE X (.Call (.Name "isinstance" p) [e, .Name t p2] [] pos) (tE (X.ci H0 EX) (mBl (mIsa ty m))) := by
  obtain ⟨o1, o2, o3⟩ := okName_of hot
  have pt : PE X (.Name t p2) (tC (.ty ty)) := pe_bltn (kind_of T hgt) hmt ht rfl o3 o1
  refine (pe_callB call_isi (kind_of T hgi) hmi rfl (pa2 he pt hn rfl) (by decide) (by decide) (star_no hn) (by rw [star1 rfl]; rfl)).weak fun σ H Q q => ?_
  have q1 := isa_rd hT q
  exact q1.mono fun v H1 ⟨t, b, h1, h2, h3⟩ => ⟨v, .ty ty, t, .type ty, b, rfl, .ty ty, h1, h2, h3⟩
end

/-! ### [::-1] -/
section
variable {prog : Program} {w : World} {A : Around} {E : Value → Shared → Prop} {s : Shared}
theorem fm_congr {α β : Type} {f g : α → Option β} : ∀ {l : List α}, (∀ a ∈ l, f a = g a) → l.filterMap f = l.filterMap g
  | [], _ => rfl
  | a :: l, h => by rw [List.filterMap_cons, List.filterMap_cons, h a List.mem_cons_self, fm_congr fun b hb => h b (List.mem_cons_of_mem _ hb)]
theorem back_pick (l : List Value) : ((List.range l.length).filterMap fun (m : Nat) => l.toArray[(((l.length : Int) - 1) + (m : Int) * (-1)).toNat]?).toArray = l.reverse.toArray := by
  have h := HT.pick_gen l.reverse.toArray 0 l.length
  have e : (((l.reverse.toArray.toList.drop 0).take l.length).toArray : Array Value) = l.reverse.toArray := by
    rw [List.drop_zero, ← List.length_reverse, List.take_length]
  rw [← e, ← h]
  congr 1
  refine fm_congr fun m hm => ?_
  have hm' : m < l.length := List.mem_range.mp hm
  rw [show (((0 : Nat) : Int) + (m : Int) * 1).toNat = m by omega, show (((l.length : Int) - 1) + (m : Int) * (-1)).toNat = l.length - 1 - m by omega]
  rw [List.getElem?_toArray, List.getElem?_toArray, List.getElem?_reverse hm']
theorem applied_back {sl : Addr} {vs : Value} {n : Nat} {Q : Int × Int × Nat → Shared → Prop} (hs : s.heap.IsSliceOf sl .none .none vs) (ps : IsPart vs (some (-1))) (h : Q ((n : Int) - 1, -1, n) s) :
    wpAny (model prog w) A (Builtin.Slice.sliceApplied (.ref sl) (pure (n : Int))) Q E s := by
  obtain ⟨os, hos, hcs, hds⟩ := id hs
  unfold Builtin.Slice.sliceApplied Builtin.Slice.sliceFields
  refine wpAny_bind (wpAny_bind (wpAny_field hos hds (x := .none) rfl (wpAny_bind (wpAny_field hos hds (x := .none) rfl (wpAny_bind (wpAny_field hos hds (x := vs) rfl (wpAny_pure ?_)))))))
  refine wpAny_bind (HT.slicePart_ ps ?_)
  show wpAny _ _ (if ((-1 : Int) == 0) = true then _ else _) _ _ s
  rw [if_neg (by decide)]
  refine wpAny_bind (HT.slicePart_ .none (wpAny_bind (HT.slicePart_ .none (wpAny_bind (wpAny_pure ?_)))))
  show wpAny _ _ (pure ((n : Int) - 1, (-1 : Int), Builtin.Slice.slicePlaces ((n : Int) - 1) (-1) (-1))) _ _ s
  have e : Builtin.Slice.slicePlaces ((n : Int) - 1) (-1) (-1) = n := by
    unfold Builtin.Slice.slicePlaces
    rw [if_neg (by omega)]
    by_cases h0 : n = 0
    · subst h0; rfl
    · rw [if_pos (by omega)]
      simp only [Int.neg_neg, Int.ediv_one]; omega
  rw [e]
  exact wpAny_pure h
theorem get_tup_back {t sl : Addr} {items : List Value} {vs : Value} {Q : Value → Shared → Prop} (ht : IsTup s.heap t items.toArray) (hs : s.heap.IsSliceOf sl .none .none vs) (ps : IsPart vs (some (-1)))
    (h : Q (.ref s.heap.objs.size) { s with heap := s.heap.push { cls := .type "tuple", data := .seq items.reverse.toArray } }) (hsz : items.length ≤ sizeLine) : wpAny (model prog w) A (getItem (.ref t) (.ref sl)) Q E s := by
  have hok : sizeOk (.seq items.reverse.toArray) := by
    show items.reverse.toArray.size ≤ sizeLine
    rw [List.size_toArray, List.length_reverse]; exact hsz
  obtain ⟨os, hos, hcs, hds⟩ := id hs
  have hTs : s.TypeIs (.ref sl) "slice" := ⟨os, hos, hcs⟩
  unfold getItem
  try with_reducible refine wpAny_holding ?_
  first | refine wpAny_bind (wpAny_pure ?_) | skip
  refine wpAny_bind (wpAny_sequenceKey ht.typeIs (by decide) (wpAny_bind (wpAny_callSpecial?_slot (name := Str.ofString "__getitem__") ht.typeIs PyProof.Rows.slot_tuple_getitem
    (wpAny_call_entry PyProof.Rows.slot_tuple_getitem ht.typeIs entry_tuple_getitem ?_ (args_tuple_getitem _ _)))))
  show wpAny _ _ (Builtin.Tuple.tupleItemsOf (.ref t) >>= _) _ _ s
  refine wpAny_bind (PyProof.Rows.tupleItemsOf_ ht (wpAny_bind (wpAny_typeOf hTs ?_)))
  rw [if_pos (by decide)]
  refine wpAny_bind (applied_back (n := items.toArray.size) hs ps ?_)
  show wpAny _ _ (if (((items.toArray.size : Int) - 1 == 0 && (-1 : Int) == 1 && items.toArray.size == items.toArray.size)) = true then _ else _) _ _ s
  rw [if_neg (by simp)]
  have e : ((List.range items.toArray.size).filterMap fun (m : Nat) => items.toArray[(((items.toArray.size : Int) - 1) + (m : Int) * (-1)).toNat]?).toArray = items.reverse.toArray := by
    rw [List.size_toArray]; exact back_pick items
  rw [e]
  first
    | exact wpAny_bind (m := Builtin.Tuple.tupleExact _) (wpAny_newObj_type (wpAny_pure ⟨_, rfl, wpAny_pure h⟩) hok)
    | exact wpAny_bind (m := Builtin.Tuple.tupleExact _) (wpAny_newObj_type (wpAny_bind (wpAny_pure (wpAny_pure ⟨_, rfl, wpAny_pure h⟩))) hok)
    | exact wpAny_bind (wpAny_bind (m := Builtin.Tuple.tupleExact _) (wpAny_newObj_type (wpAny_pure (wpAny_pure ⟨_, rfl, wpAny_pure h⟩)) hok))
    | exact wpAny_bind (wpAny_bind (m := Builtin.Tuple.tupleExact _) (wpAny_newObj_type (wpAny_pure ⟨_, rfl, wpAny_pure h⟩) hok))
end
def tBack (K : PySem.W.Frag) (te : TE) : TE := fun σ H Q => te σ H fun x H1 => ∃ a xs, x = .ref a ∧ ((SqL K H1 a xs ∧ ∀ p, H1 p = none → Q (.ref p) (upd H1 p (.lst xs.reverse))) ∨ (SqT K H1 a xs ∧ ∀ p, H1 p = none → Q (.ref p) (upd H1 p (.tup xs.reverse))))
def dBack : D → Option D
  | .lst xs => some (.lst xs.reverse)
  | .tup xs => some (.tup xs.reverse)
  | _ => none
def mBack (m : Env → M D) : Env → M D := fun ρ => m ρ >>= fun d => M.opt (dBack d)
section
variable {X : Cx} {c : Ctx} {H0 : Hp} {EX : XK}
theorem pe_back {e : Expr} {te : TE} {k : Nat} {p1 p2 p3 pos : Pos} (he : PE X e te) : PE X (.Subscript e (.Slice none none (some (.UnaryOp .USub (.Constant (.int 1) k p1) p2)) p3) pos) (tBack X.K te) := by
  have hst : PO X (some (.UnaryOp .USub (.Constant (.int 1) k p1) p2)) (tPart (tUn (rU fun i => .int (-i)) (tC (.int 1)))) := po_some (pe_un un_neg pe_int)
  refine ⟨fun pins s σ H Q I h => Subscript_ (thn (he.run pins s σ H _ I h) ?_)⟩
  rintro v s1 ⟨x, H1, I1, r1, a, xs, rfl, q⟩
  cases r1
  refine wpAny_Slice (thn (po_none.run pins s1 σ H1 (fun o H2 => o = none ∧ H2 = H1) I1 ⟨rfl, rfl⟩) ?_)
  rintro vl s2 ⟨l, H2, I2, pl, rfl, rfl⟩
  refine thn (po_none.run pins s2 σ H2 (fun o H3 => o = none ∧ H3 = H2) I2 ⟨rfl, rfl⟩) ?_
  rintro vu s3 ⟨u, H3, I3, pu, rfl, rfl⟩
  refine thn (hst.run pins s3 σ H3 (fun o H4 => o = some (-1) ∧ H4 = H3) I3 ⟨1, rfl, -1, rfl, rfl, rfl⟩) ?_
  rintro vs s4 ⟨o, H4, I4, ps, rfl, rfl⟩
  cases pl; cases pu
  have I5 : Inv X pins σ H4 { s4 with heap := s4.heap.push { cls := .type "slice", data := .fields #[.none, .none, vs] } } := I4.kept (t' := s4.toks) fun b ob q => Heap.get?_push_of_some _ q
  show wpAny (model X.prog X.w) X.A (subscriptTail e (.Slice none none (some (.UnaryOp .USub (.Constant (.int 1) k p1) p2)) p3) (.ref a) (.ref s4.heap.objs.size)) (EP X pins σ Q) X.xe { s4 with heap := s4.heap.push { cls := .type "slice", data := .fields #[.none, .none, vs] } }
  rcases q with ⟨hx, q⟩ | ⟨hx, q⟩
  · obtain ⟨its, r, ht, hz⟩ := I5.list hx
    have hlen := r.length
    refine tail_any (ops := [.ref a, .ref s4.heap.objs.size]) ht.isList.typeIs (PySem.slot_list_getitem.lookup) ?_ (by with_unfolding_all rfl)
    refine wpAny_getItem_list_slice ht.isList (Heap.IsSliceOf.new _ .none .none vs) .none .none ps (by decide) ?_ (by rw [List.size_toArray]; omega)
    rw [PySem.W.krv_pick]
    exact ⟨.ref _, _, I5.laid (t' := s4.toks) (o := .lst xs.reverse) (fun b ob q => Heap.get?_push_of_some _ q) (Nat.le_refl _) ⟨by rw [List.length_reverse]; exact hz, _, 0, r.reverse, Heap.get?_push_size _ rfl⟩, rfl, q _ (I5.hok.fresh (Nat.le_refl _))⟩
  · obtain ⟨its, r, ht, hz⟩ := I5.tuple hx
    have hlen := r.length
    refine tail_any (ops := [.ref a, .ref s4.heap.objs.size]) ht.typeIs PyProof.Rows.slot_tuple_getitem.lookup ?_ (by with_unfolding_all rfl)
    refine get_tup_back ht (Heap.IsSliceOf.new _ .none .none vs) ps ?_ (by omega)
    exact ⟨.ref _, _, I5.laid (t' := s4.toks) (o := .tup xs.reverse) (fun b ob q => Heap.get?_push_of_some _ q) (Nat.le_refl _) ⟨by rw [List.length_reverse]; exact hz, _, r.reverse, IsTup.new _ _⟩, rfl, q _ (I5.hok.fresh (Nat.le_refl _))⟩
theorem pe_dback {e : Expr} {m : Env → M D} {k : Nat} {p1 p2 p3 pos : Pos} (he : PE X e (tO (X.ci H0 EX) m)) : PE X (.Subscript e (.Slice none none (some (.UnaryOp .USub (.Constant (.int 1) k p1) p2)) p3) pos) (tE (X.ci H0 EX) (mBack m)) := (pe_back he).weak fun σ H Q q => by
  obtain ⟨γ, ρ, s, r, g⟩ := q
  refine tO.then (c := X.ci H0 EX) r g fun v d s1 H1 γ1 r1 x1 hv g1 => ?_
  obtain ⟨o, e1, kk⟩ := g1.optE
  unfold dBack at e1
  split at e1
  · cases e1
    obtain ⟨p, vs, rfl, hp, ra⟩ := hv.lst r1.g
    exact ⟨p, vs, rfl, .inl ⟨SqL.of hp, put_lst r1.g kk ra.reverse⟩⟩
  · cases e1
    obtain ⟨p, vs, rfl, hp, ra⟩ := hv.tup r1.g
    exact ⟨p, vs, rfl, .inr ⟨hp, put_tup r1.g kk ra.reverse⟩⟩
  · cases e1
end
end RS

namespace RS
open PySem PySem.Spec PyProof.Rows L2

/-! ### the deck's heap -/
def putF (fs : List (Str × Int)) (f : Str) (i : Int) : List (Str × Int) := if (fs.any fun p => decide (p.1 = f)) = true then fs.map (fun p => if p.1 = f then (p.1, i) else p) else fs ++ [(f, i)]
theorem putF_deck {c : Addr} {fs : List (Str × Int)} {f : Str} {i : Int} (h : f ≠ cellsKey) : putK (deckKv c fs) (.inr f) (.int i) = deckKv c (putF fs f i) := by
  have ne : ¬ ((Sum.inr cellsKey : Key) = Sum.inr f) := fun e => h (by injection e with e; exact e.symm)
  have ea : ((deckKv c fs).any fun kv => decide (kv.1 = (Sum.inr f : Key))) = fs.any fun p => decide (p.1 = f) := by
    unfold deckKv
    rw [List.any_cons, List.any_map]
    simp only [ne, decide_false, Bool.false_or]
    congr 1
    funext p
    simp [Function.comp]
  unfold putK putF
  rw [ea]
  by_cases q : (fs.any fun p => decide (p.1 = f)) = true
  · rw [if_pos q, if_pos q]
    unfold deckKv
    rw [List.map_cons, if_neg ne, List.map_map, List.map_map]
    congr 1
    apply List.map_congr_left
    intro p _
    by_cases e : p.1 = f
    · simp [Function.comp, e]
    · have e' : ¬ ((Sum.inr p.1 : Key) = Sum.inr f) := fun z => e (by injection z)
      simp [Function.comp, e]
  · rw [if_neg q, if_neg q]
    unfold deckKv
    simp
section
variable {H : Hp} {γ : Gh} {k : Dk} {a c : Addr}
theorem deck_cells {cs : List Int} (g : GWf H γ (some k)) (h : γ.Δ = some (a, c)) : GWf (upd H c (.lst (cs.map V.int))) γ (some ⟨cs, k.flds⟩) ∧ Step γ H γ (upd H c (.lst (cs.map V.int))) := by
  obtain ⟨f1, f2, ne, k', e0, e1, e2⟩ := g.dk a c h
  cases e0
  refine ⟨⟨fun b u e => ?_, fun e => (by rw [h] at e; cases e), fun a' c' e => ?_⟩, ⟨GLe.refl _, fun b u e o => ?_, fun _ _ _ f => f, fun e => (by rw [h] at e; cases e), fun b e => ?_⟩⟩
  · rw [upd_ne (fun z => by rw [z, f2] at e; cases e)]; exact g.le _ _ e
  · rw [h] at e; cases e
    exact ⟨f1, f2, ne, ⟨cs, k.flds⟩, rfl, by rw [upd_ne ne]; exact e1, upd_same⟩
  · rw [upd_ne (o _ h).2]; exact e
  · by_cases z : b = c
    · rw [z, upd_same]; exact fun w => nomatch w
    · rw [upd_ne z]; exact e
theorem deck_flds {fs : List (Str × Int)} (g : GWf H γ (some k)) (h : γ.Δ = some (a, c)) : GWf (upd H a (.dK (deckKv c fs))) γ (some ⟨k.cells, fs⟩) ∧ Step γ H γ (upd H a (.dK (deckKv c fs))) := by
  obtain ⟨f1, f2, ne, k', e0, e1, e2⟩ := g.dk a c h
  cases e0
  refine ⟨⟨fun b u e => ?_, fun e => (by rw [h] at e; cases e), fun a' c' e => ?_⟩, ⟨GLe.refl _, fun b u e o => ?_, fun _ _ _ f => f, fun e => (by rw [h] at e; cases e), fun b e => ?_⟩⟩
  · rw [upd_ne (fun z => by rw [z, f1] at e; cases e)]; exact g.le _ _ e
  · rw [h] at e; cases e
    exact ⟨f1, f2, ne, ⟨k.cells, fs⟩, rfl, upd_same, by rw [upd_ne (Ne.symm ne)]; exact e2⟩
  · rw [upd_ne (o _ h).1]; exact e
  · by_cases z : b = a
    · rw [z, upd_same]; exact fun w => nomatch w
    · rw [upd_ne z]; exact e
theorem valV_deck {fs : List (Str × Int)} {f : Str} (h : f ≠ cellsKey) : valV (deckKv c fs) (.inr f) = (fs.lookup f).map V.int := by
  have ne : ¬ ((Sum.inr cellsKey : Key) = Sum.inr f) := fun e => h (by injection e with e; exact e.symm)
  unfold deckKv
  rw [valV_neg ne]
  induction fs with
  | nil => rfl
  | cons p fs ih =>
    rw [List.map_cons, List.lookup_cons]
    by_cases e : p.1 = f
    · rw [valV_pos (by simp [e])]
      simp [e]
    · have e' : ¬ ((Sum.inr p.1 : Key) = Sum.inr f) := fun z => e (by injection z)
      rw [valV_neg e', ih]
      have : (f == p.1) = false := by simpa using fun z => e z.symm
      rw [this]
end

/-! ### a subscript that knows the deck -/
def dIxM (x y : D) : M D := match x, y with
  | .deck, .str f => fun s => match s with
    | some k => if f = cellsKey then .stuck else match k.flds.lookup f with
      | some i => .ok (.int i) s
      | none => .stuck
    | none => .stuck
  | x, y => M.opt (dIx x y)
def mIxM (a b : Env → M D) : Env → M D := fun ρ => a ρ >>= fun x => b ρ >>= fun y => dIxM x y
def rIxM (K : PySem.W.Frag) (mg : Str → Option Value) (EX : XK) : R2 := fun x y H Q => ∃ γ s d e, GWf H γ s ∧ RepL K H γ x d ∧ RepL K H γ y e ∧ Goes K mg EX γ H (dIxM d e s) fun r _ H' γ' => ∀ w, Rep K γ' w r → Q w H'
section
variable {X : Cx} {c : Ctx} {H0 : Hp} {EX : XK} {γ0 : Gh}
theorem ix_dIxM (T : StX X c) : IxR X (rIxM X.K X.mg EX) := by
  intro value slice pins s σ H x y v u Q I rx ry h hs
  obtain ⟨γ, sd, d, e, g, hx, hy, q⟩ := h
  by_cases dk : d = .deck
  · subst dk
    cases e with
    | str f =>
      cases hy.str
      have hx : Rep X.K γ x .deck := by
        cases hx with
        | rep r => exact r
        | own o od => cases o
      cases hx with
      | deck hΔ =>
        cases sd with
        | none => exact q.elim
        | some k =>
          have q : Goes X.K X.mg EX γ H (if f = cellsKey then .stuck else match k.flds.lookup f with
            | some i => .ok (.int i) (some k)
            | none => .stuck) fun r _ H' γ' => ∀ w, Rep X.K γ' w r → Q w H' := q
          by_cases hf : f = cellsKey
          · rw [if_pos hf] at q; exact q.elim
          rw [if_neg hf] at q
          obtain ⟨f1, f2, ne, k', e0, e1, e2⟩ := g.dk _ _ hΔ
          cases e0
          cases hl : k.flds.lookup f with
          | none => rw [hl] at q; exact q.elim
          | some i =>
            rw [hl] at q
            cases rx
            have gd := by
              have z := DGet.k (k := .inr f) e1
              rw [valV_deck hf, hl] at z
              exact z
            have ry' : RelV (kV (.inr f)) u := ry
            exact tail_any (dict_typeIs I gd) PySem.F.slot_dict_getitem.lookup (d_getItem (by have := T.hu; omega) I gd ry' fun w' s' I' rw' => ⟨.int i, H, I', rw', (show ∀ H' γ', Step γ H γ' H' → GWf H' γ' (some k) → ∀ w, Rep X.K γ' w (.int i) → Q w H' from q) H γ (Step.refl _ _) g _ (.int i)⟩) hs
    | _ => exact (show False from q).elim
  · have q : Goes X.K X.mg EX γ H ((M.opt (dIx d e) : M D) sd) fun r _ H' γ' => ∀ w, Rep X.K γ' w r → Q w H' := by
      unfold dIxM at q
      split at q
      · exact absurd rfl dk
      · exact q
    obtain ⟨o, e1, k⟩ := q.optE
    exact ix_dIx T value slice pins s σ H x y v u Q I rx ry ⟨γ, sd, d, e, o, g, hx, hy, e1, k⟩ hs
theorem pe_dixM (T : StX X c) {a b : Expr} {ma mb : Env → M D} {pos : Pos} (ha : PE X a (tO (X.ci H0 EX) ma)) (hb : PE X b (tO (X.ci H0 EX) mb)) (hs : isSl b = false) : PE X (.Subscript a b pos) (tE (X.ci H0 EX) (mIxM ma mb)) := by
  refine (pe_ix (ix_dIxM (EX := EX) T) ha hb (plainIx_of hs)).weak fun σ H Q q => ?_
  obtain ⟨γ, ρ, s, r, g⟩ := q
  refine tO.then (c := X.ci H0 EX) r g fun x d s1 H1 γ1 r1 _ hx g1 => tO.then (c := X.ci H0 EX) r1 g1 fun y e s2 H2 γ2 r2 x2 hy g2 => ?_
  exact ⟨γ2, s2, d, e, r2.g, hx.step x2, hy, g2⟩

/-! ### the deck's cells -/
/-- deck["cells"], as it stands -/
def tCells (c : CxI) (i : Nat) : TE := fun σ H Q => ∃ γ ρ s a p k, SR c.K c.H0 σ H γ ρ s ∧ ρ[i]? = some (some (.val .deck)) ∧ γ.Δ = some (a, p) ∧ s = some k ∧ Q (.ref p) H
theorem pe_cells (T : StX X c) {i : Nat} {x : Str} {p p2 pos : Pos} {j} (hi : c.N[i]? = some x) (hv : visB c.sc x = true) (ho : okName x = true) : PE X (.Subscript (.Name x p) (.Constant (.str cellsKey) j p2) pos) (tCells (X.ci H0 EX) i) := by
  obtain ⟨h1, h2, _⟩ := okName_of ho
  refine (pe_dget (by have := T.hu; omega) (pe_var (i := i) (by rw [T.hN]; exact hi) (by rw [T.hs]; exact vis_of hv) h1 h2) pe_str (by intro o i; rfl)).weak fun σ H Q q => ?_
  obtain ⟨γ, ρ, s, a, pc, k, r, e, hΔ, hs, q⟩ := q
  obtain ⟨v, e1, e2⟩ := r.val i _ e
  cases e2 with
  | deck hΔ' =>
    rw [hΔ] at hΔ'; cases hΔ'
    obtain ⟨f1, f2, ne, k', e0, e3, e4⟩ := r.g.dk _ _ hΔ
    refine ⟨.ref a, e1, a, .ref pc, rfl, ?_, q⟩
    have := DGet.k (k := .inr cellsKey) e3
    have hv : valV (deckKv pc k'.flds) (.inr cellsKey) = some (.ref pc) := valV_pos rfl
    rw [hv] at this
    exact this
def mCellsNe (i : Nat) : Env → M Bool := fun ρ s => match ρ[i]?, s with
  | some (some (.val .deck)), some k => .ok (!k.cells.isEmpty) s
  | _, _ => .stuck
def mCellsPop (i : Nat) : Env → M D := fun ρ s => match ρ[i]?, s with
  | some (some (.val .deck)), some k => match k.cells.getLast? with
    | some y => .ok (.int y) (some ⟨k.cells.dropLast, k.flds⟩)
    | none => .stuck
  | _, _ => .stuck
def isDeck (ρ : Env) (i : Nat) : Bool := match ρ[i]? with
  | some (some (.val .deck)) => true
  | _ => false
theorem isDeck_of {ρ : Env} {i : Nat} (h : isDeck ρ i = true) : ρ[i]? = some (some (.val .deck)) := by
  unfold isDeck at h
  split at h
  · assumption
  · cases h
def mApp1 (ρ : Env) (d : D) : M O := fun s => match d, s with
  | .int y, some k => if k.cells.length < lim then .ok (.nx ρ) (some ⟨k.cells ++ [y], k.flds⟩) else .stuck
  | _, _ => .stuck
def mCellsApp (i : Nat) (e : Env → M D) : MS := fun ρ => if isDeck ρ i = true then e ρ >>= mApp1 ρ else M.stop
/-- the deck's slot -/
theorem slot_deck {ρ : Env} {i : Nat} {s : DS} {α : Type} {f : Dk → R α} {r : R α} (h : r ≠ .stuck) (e : r = match ρ[i]?, s with
    | some (some (.val .deck)), some k => f k
    | _, _ => .stuck) : ∃ k, ρ[i]? = some (some (.val .deck)) ∧ s = some k ∧ r = f k := by
  split at e
  · rename_i k h1; exact ⟨k, by assumption, rfl, e⟩
  · exact absurd e h
theorem deck_at {K : PySem.W.Frag} {H0 : Hp} {σ : L2.St} {H : Hp} {γ : Gh} {ρ : Env} {s : DS} {i : Nat} (r : SR K H0 σ H γ ρ s) (h : ρ[i]? = some (some (.val .deck))) : ∃ a p k, γ.Δ = some (a, p) ∧ s = some k ∧ H p = some (.lst (k.cells.map V.int)) ∧ H a = some (.dK (deckKv p k.flds)) ∧ σ[i]? = some (some (.ref a)) := by
  obtain ⟨v, e1, e2⟩ := r.val i _ h
  cases e2 with
  | deck hΔ =>
    obtain ⟨f1, f2, ne, k', e0, e3, e4⟩ := r.g.dk _ _ hΔ
    exact ⟨_, _, k', hΔ, e0, e4, e3, e1⟩
theorem pt_dcellsNe (T : StX X c) {i : Nat} {x : Str} {p p2 p3 pos sp : Pos} {j} (hi : c.N[i]? = some x) (hv : visB c.sc x = true) (ho : okName x = true) : PT X (.Compare (.Subscript (.Name x p) (.Constant (.str cellsKey) j p2) sp) [.NotEq] [.List [] p3] pos) (tB (X.ci H0 EX) (mCellsNe i)) := by
  refine (pt_cmpR (op_neD (by have := T.hu; omega)) (pe_cells (H0 := H0) (EX := EX) T hi hv ho) (pe_lst pa_nil) rfl).weak fun σ H Q q => ?_
  obtain ⟨γ, ρ, s, r, g⟩ := q
  have g : Goes X.K X.mg EX γ H (mCellsNe i ρ s) fun b _ H' _ => Q b H' := g
  have hn : mCellsNe i ρ s ≠ .stuck := fun e => by rw [e] at g; exact g
  obtain ⟨k, e1, e2, e3⟩ := slot_deck hn rfl
  rw [e3] at g
  obtain ⟨a, pc, k', hΔ, e4, e5, e6, e7⟩ := deck_at r e1
  rw [e2] at e4; cases e4
  refine ⟨γ, ρ, s, a, pc, k, r, e1, hΔ, e2, (show ([] : List V).length ≤ sizeLine by decide), fun p0 hp0 => ?_⟩
  have dpi : ∀ ns : List Int, DpAll X.K (upd H p0 (.lst [])) (ns.map V.int) (ns.map PyData.int) := fun ns => by
    induction ns with
    | nil => exact .nil
    | cons n ns ih => exact .cons (.int n) ih
  have shp : ∀ ns : List Int, PyData.canLayAll0 (ns.map PyData.int) = true ∧ PyData.depthAll (ns.map PyData.int) = 0 := fun ns => by
    induction ns with
    | nil => exact ⟨rfl, rfl⟩
    | cons n ns ih => exact ⟨by rw [List.map_cons, PyData.canLayAll0, ih.1]; rfl, by rw [List.map_cons, PyData.depthAll, ih.2]; rfl⟩
  refine ⟨.list (k.cells.map .int), .list [], .lst (SqL.of (by rw [upd_ne (ne_of_none e5 hp0)]; exact e5)) (dpi _), .lst (SqL.of upd_same) .nil, ?_, by decide, ?_⟩
  · show (PyData.canLay0 (.list (k.cells.map .int)) && decide (PyData.depth (.list (k.cells.map .int)) ≤ 64)) = true
    rw [PyData.canLay0, PyData.depth, (shp _).1, (shp _).2]; rfl
  · have hb : PyData.eqv (.list (k.cells.map .int)) (.list []) = k.cells.isEmpty := by
      cases k.cells <;> simp [PyData.eqv, PyData.eqvAll]
    refine ⟨_, rfl, ?_⟩
    rw [hb]
    obtain ⟨g2, x2⟩ := Step.add (o := .lst []) r.g hp0
    exact (show ∀ H' γ', Step γ H γ' H' → GWf H' γ' s → Q (!k.cells.isEmpty) H' from g) _ γ x2 g2
theorem pe_dcellsPop (T : StX X c) {i : Nat} {x : Str} {p p2 sp ap cp : Pos} {j} (hi : c.N[i]? = some x) (hv : visB c.sc x = true) (ho : okName x = true) (hl : (ap.endLine == cp.line) = true) : PE X (.Call (.Attribute (.Subscript (.Name x p) (.Constant (.str cellsKey) j p2) sp) "pop" ap) [] [] cp) (tE (X.ci H0 EX) (mCellsPop i)) := by
  refine (pe_bm0 F.plainAttrs_list F.slot_list_pop F.type_list_pop mt_pop (pe_cells (H0 := H0) (EX := EX) T hi hv ho) rfl hl).weak fun σ H Q q => ?_
  obtain ⟨γ, ρ, s, r, g⟩ := q
  have g : Goes X.K X.mg EX γ H (mCellsPop i ρ s) fun d _ H' γ' => ∀ v, Rep X.K γ' v d → Q v H' := g
  have hn : mCellsPop i ρ s ≠ .stuck := fun e => by rw [e] at g; exact g
  obtain ⟨k, e1, e2, e3⟩ := slot_deck hn rfl
  rw [e3] at g
  obtain ⟨a, pc, k', hΔ, e4, e5, e6, e7⟩ := deck_at r e1
  rw [e2] at e4; cases e4
  refine ⟨γ, ρ, s, a, pc, k, r, e1, hΔ, e2, .inl ⟨rfl, _, SqL.of e5⟩, pc, k.cells.map V.int, ?_⟩
  cases hlast : k.cells.getLast? with
  | none => rw [hlast] at g; exact g.elim
  | some y =>
    rw [hlast] at g
    obtain ⟨g2, x2⟩ := deck_cells (cs := k.cells.dropLast) (e2 ▸ r.g : GWf H γ (some k)) hΔ
    refine ⟨.int y, rfl, rfl, e5, ?_, ?_⟩
    · rw [List.length_map, List.getElem?_map]
      rw [List.getLast?_eq_getElem?] at hlast
      rw [hlast]; rfl
    · have ed : (k.cells.map V.int).dropLast = k.cells.dropLast.map V.int := by rw [List.map_dropLast]
      rw [ed]
      exact (show ∀ H' γ', Step γ H γ' H' → GWf H' γ' (some ⟨k.cells.dropLast, k.flds⟩) → ∀ v, Rep X.K γ' v (.int y) → Q v H' from g) _ γ x2 g2 _ (.int y)
theorem ps_dcellsApp (T : StX X c) {i : Nat} {x : Str} {p p2 sp ap cp pos : Pos} {j} {e : Expr} {m : Env → M D} (hi : c.N[i]? = some x) (hv : visB c.sc x = true) (ho : okName x = true) (hl : (ap.endLine == cp.line) = true) (hn : isStar e = false) (he : PE X e (tE (X.ci H0 EX) m)) :
    PS X (.Expr (.Call (.Attribute (.Subscript (.Name x p) (.Constant (.str cellsKey) j p2) sp) "append" ap) [e] [] cp) pos) (tS (X.ci H0 EX) γ0 (mCellsApp i m)) := by
  have few : ((backTo cp (starEach [e] X.env)).all (fun x => !x.1) && (backToKw cp (keywordEach [] X.env)).all (fun x => x.1.isSome) && decide ([e].length + ([] : List Keyword).length + (if ([] : List Keyword).isEmpty then 0 else 1) < 30)) = true := by
    rw [star1 hn]; rfl
  refine (ps_expr (pe_bm F.plainAttrs_list F.slot_list_append F.type_list_append mt_append (pe_cells (H0 := H0) (EX := EX) T hi hv ho) (pa1 he hn) rfl few hl (star_no hn) rfl) rfl).weak fun N σ H q => ?_
  obtain ⟨γ, ρ, s, r, x0, g⟩ := q
  obtain ⟨hd, g⟩ := g.guard
  have e1 := isDeck_of hd
  · obtain ⟨a, pc, k, hΔ, e4, e5, e6, e7⟩ := deck_at r e1
    refine ⟨γ, ρ, s, a, pc, k, r, e1, hΔ, e4, .inl ⟨rfl, _, SqL.of e5⟩, ?_⟩
    refine tE.thenS (c := X.ci H0 EX) r x0 g fun v d s1 H1 γ1 r1 x1 l1 hd g1 => ?_
    have hΔ1 := l1.Δ _ hΔ
    obtain ⟨f1, f2, ne, k1, z1, z2, z3⟩ := r1.g.dk _ _ hΔ1
    cases d with
    | int y =>
      cases hd
      subst z1
      have g1 : GoS (X.ci H0 EX) γ0 γ1 N (if k1.cells.length < lim then .ok (.nx ρ) (some ⟨k1.cells ++ [y], k1.flds⟩) else .stuck) := g1
      by_cases hlt : k1.cells.length < lim
      · rw [if_pos hlt] at g1
        refine ⟨pc, _, .int y, rfl, rfl, z3, by rw [List.length_map, ← lim_eq]; exact hlt, ?_⟩
        have ea : k1.cells.map V.int ++ [V.int y] = (k1.cells ++ [y]).map V.int := by simp
        rw [ea]
        obtain ⟨g2, x2⟩ := deck_cells (cs := k1.cells ++ [y]) r1.g hΔ1
        exact GoS.nx (c := X.ci H0 EX) g1 (r1.step x2 g2) (x1.trans x2)
      · rw [if_neg hlt] at g1; exact g1.elim
    | _ => exact (show False from g1).elim

/-! ### o[i] = v: a field of the deck, a place of an own list, of an own dict -/
def putD (kvs : List (D × D)) (k : Key) (v : D) : List (D × D) := if (kvs.any fun p => decide (keyOf p.1 = some k)) = true then kvs.map (fun p => if keyOf p.1 = some k then (p.1, v) else p) else kvs ++ [(keyD k, v)]
/-- an own thing in a slot -/
def ownS (ρ : Env) (i : Nat) : Option D := match ρ[i]? with
  | some (some (.own d)) => some d
  | _ => none
theorem ownS_of {ρ : Env} {i : Nat} {d : D} (h : ownS ρ i = some d) : ρ[i]? = some (some (.own d)) := by
  unfold ownS at h
  split at h
  · cases h; assumption
  · cases h
def dPut (d ix v : D) : Option D := match d, ix with
  | .lst xs, .int n => (ixN xs.length n).map fun j => .lst (xs.set j v)
  | .dic kvs, k => (keyOf k).bind fun k => if kvs.length < lim then some (.dic (putD kvs k v)) else none
  | _, _ => none
def mPutDk (ρ : Env) (ix v : D) : M O := fun s => match s, ix, v with
  | some k, .str f, .int n => if f = cellsKey ∨ lim ≤ k.flds.length + 1 then .stuck else .ok (.nx ρ) (some ⟨k.cells, putF k.flds f n⟩)
  | _, _, _ => .stuck
def mPut (i : Nat) (v ix : Env → M D) : MS := fun ρ => v ρ >>= fun dv => if isDeck ρ i = true then ix ρ >>= fun di => mPutDk ρ di dv else
  M.opt (ownS ρ i) >>= fun d => ix ρ >>= fun di => M.opt (dPut d di dv) >>= fun d => pure (.nx (ρ.set i (some (.own d))))
theorem RepKv.put {K : PySem.W.Frag} {γ : Gh} {k : Key} {v : V} {d : D} (hv : Rep K γ v d) {kvs : List (Key × V)} {ds : List (D × D)} (h : RepKv K γ kvs ds) : RepKv K γ (putK kvs k v) (putD ds k d) := by
  have ea : ∀ {kvs : List (Key × V)} {ds : List (D × D)}, RepKv K γ kvs ds → (kvs.any fun p => decide (p.1 = k)) = (ds.any fun p => decide (keyOf p.1 = some k)) := by
    intro kvs ds h
    induction kvs generalizing ds with
    | nil => cases h; rfl
    | cons p kvs ih =>
      cases h with
      | cons h1 h2 =>
        rw [List.any_cons, List.any_cons, ih h2, keyOf_keyD]
        congr 1
        simp
  have em : ∀ {kvs : List (Key × V)} {ds : List (D × D)}, RepKv K γ kvs ds → RepKv K γ (kvs.map fun p => if p.1 = k then (p.1, v) else p) (ds.map fun p => if keyOf p.1 = some k then (p.1, d) else p) := by
    intro kvs ds h
    induction kvs generalizing ds with
    | nil => cases h; exact .nil
    | cons p kvs ih =>
      cases h with
      | @cons j w _ e _ h1 h2 =>
        rw [List.map_cons, List.map_cons, keyOf_keyD]
        by_cases z : j = k
        · simp only [z, if_true]
          exact .cons hv (ih h2)
        · have z' : ¬ (some j = some k) := fun q => z (by injection q)
          simp only [z, z', if_false]
          exact .cons h1 (ih h2)
  have eap : ∀ {kvs : List (Key × V)} {ds : List (D × D)}, RepKv K γ kvs ds → RepKv K γ (kvs ++ [(k, v)]) (ds ++ [(keyD k, d)]) := by
    intro kvs ds h
    induction kvs generalizing ds with
    | nil => cases h; exact .cons hv .nil
    | cons p kvs ih =>
      cases h with
      | cons h1 h2 => exact .cons h1 (ih h2)
  unfold putK putD
  rw [ea h]
  by_cases q : (ds.any fun p => decide (keyOf p.1 = some k)) = true
  · rw [if_pos q, if_pos q]; exact em h
  · rw [if_neg q, if_neg q]; exact eap h
/-- an own object is rewritten -/
theorem SR.ownW {K : PySem.W.Frag} {H0 : Hp} {σ : L2.St} {H : Hp} {γ : Gh} {ρ : Env} {s : DS} {i : Nat} {p : Addr} {d0 d : D} {o : HO} (r : SR K H0 σ H γ ρ s) (h : ρ[i]? = some (some (.own d0))) (hσ : σ[i]? = some (some (.ref p))) (ho : OwnAt K (upd H p o) γ p d) :
    SR K H0 σ (upd H p o) γ (ρ.set i (some (.own d))) s := by
  obtain ⟨p', k1, k2, k3, k4, k5⟩ := r.own i d0 h
  rw [hσ] at k1; cases k1
  have hi : i < ρ.length := (List.getElem?_eq_some_iff.mp h).1
  refine ⟨r.g.write k5 k3, by simp [r.len], fun j e hj => ?_, fun j e hj => ?_, fun j l e f q h1 h2 h3 h4 => ?_⟩
  · by_cases z : i = j
    · subst z; rw [List.getElem?_set_self hi] at hj; cases hj
    · rw [List.getElem?_set_ne z] at hj; exact r.val j e hj
  · by_cases z : i = j
    · subst z; rw [List.getElem?_set_self hi] at hj; cases hj
      exact ⟨p, hσ, ho, k3, k4, k5⟩
    · rw [List.getElem?_set_ne z] at hj
      obtain ⟨q, m1, m2, m3, m4, m5⟩ := r.own j e hj
      have ne : q ≠ p := fun w => z (r.sep i j d0 e p h hj hσ (w ▸ m1))
      exact ⟨q, m1, m2.step (GLe.refl _) fun o e => by rw [upd_ne ne]; exact e, m3, m4, m5⟩
  · have cv : ∀ (j : Nat) (e : D), (ρ.set i (some (.own d)))[j]? = some (some (Sl.own e)) → ∃ e', ρ[j]? = some (some (Sl.own e')) := fun j e hj => by
      by_cases z : i = j
      · subst z; exact ⟨d0, h⟩
      · rw [List.getElem?_set_ne z] at hj; exact ⟨e, hj⟩
    obtain ⟨e1, w1⟩ := cv j e h1
    obtain ⟨e2, w2⟩ := cv l f h2
    exact r.sep j l e1 e2 q w1 w2 h3 h4
theorem Step.ownW {γ γ0 : Gh} {H H0 : Hp} {p : Addr} {o : HO} (x : Step γ0 H0 γ H) (h : H0 p = none) : Step γ0 H0 γ (upd H p o) := by
  refine ⟨x.g, fun a u e od => ?_, x.fz, x.new, fun a e => ?_⟩
  · rw [upd_ne (ne_of_none e h)]; exact x.keep a u e od
  · by_cases z : a = p
    · rw [z, upd_same]; exact fun w => nomatch w
    · rw [upd_ne z]; exact x.dom a e
/-- o[i] = v of a list, of a dict -/
def rSetA : TSet := fun o i v H Q => rSetL o i v H Q ∨ rSetD o i v H Q
theorem set_any (T : StX X c) : PSet X rSetA := by
  intro pins s σ H o i v ov iv u Q I r1 r2 r3 h
  rcases h with h | h
  · exact set_list pins s σ H o i v ov iv u Q I r1 r2 r3 h
  · exact set_dict (by have := T.hu; omega) pins s σ H o i v ov iv u Q I r1 r2 r3 h
theorem swap_sub {e o i : Expr} {p : Pos} {l : Nat} {env : PySem.Env} : swapsWith e (some (.Subscript o i p)) l env = pure false := by cases e <;> rfl
theorem putK_length {κ : Type} [DecidableEq κ] (kvs : List (κ × V)) (k : κ) (v : V) : (putK kvs k v).length ≤ kvs.length + 1 := by
  unfold putK
  split
  · rw [List.length_map]; omega
  · simp
theorem ps_dput (T : StX X c) {i : Nat} {x : Str} {ix value : Expr} {p sp pos : Pos} {mi mv : Env → M D} (hi : c.N[i]? = some x) (hv : visB c.sc x = true) (ho : okName x = true) (hsl : isSl ix = false) (he : PE X value (tE (X.ci H0 EX) mv)) (hx : PE X ix (tO (X.ci H0 EX) mi)) :
    PS X (.Assign [.Subscript (.Name x p) ix sp] value pos) (tS (X.ci H0 EX) γ0 (mPut i mv mi)) := by
  obtain ⟨h1, h2, _⟩ := okName_of ho
  have pv : PE X (.Name x p) (tVar i) := pe_var (i := i) (by rw [T.hN]; exact hi) (by rw [T.hs]; exact vis_of hv) h1 h2
  have hw : swappedStores [.Subscript (.Name x p) ix sp] value X.env = pure none := by cases value <;> rfl
  have hsw : swapsWithSole [.Subscript (.Name x p) ix sp] value pos.line X.env = pure false := by cases value <;> rfl
  refine (ps_asg he (pg_sub pv hx (set_any T) (by intro _; cases ix <;> first | rfl | cases hsl)) hsw hw rfl).weak fun N σ H q => ?_
  obtain ⟨γ, ρ, s, r, x0, g⟩ := q
  refine tE.thenS (c := X.ci H0 EX) r x0 g fun v dv s1 H1 γ1 r1 x1 l1 hdv g1 => ?_
  by_cases hd : isDeck ρ i = true
  · have e1 := isDeck_of hd
    rw [if_pos hd] at g1
    obtain ⟨a, pc, k, hΔ, e4, e5, e6, e7⟩ := deck_at r1 e1
    refine ⟨.ref a, e7, ?_⟩
    refine tO.thenS (c := X.ci H0 EX) r1 x1 g1 fun w di s2 H2 γ2 r2 x2 l2 _ hdi g2 => ?_
    have hΔ2 := l2.Δ _ hΔ
    obtain ⟨f1, f2, ne, k2, z1, z2, z3⟩ := r2.g.dk _ _ hΔ2
    subst z1
    cases di with
    | str f =>
      cases dv with
      | int n =>
        cases hdi.str; cases hdv
        have g2 : GoS (X.ci H0 EX) γ0 γ2 N (if f = cellsKey ∨ lim ≤ k2.flds.length + 1 then .stuck else .ok (.nx ρ) (some ⟨k2.cells, putF k2.flds f n⟩)) := g2
        by_cases hf : f = cellsKey ∨ lim ≤ k2.flds.length + 1
        · rw [if_pos hf] at g2; exact g2.elim
        · rw [if_neg hf] at g2
          obtain ⟨hf1, hf2⟩ := not_or.mp hf
          refine .inr ⟨a, _, rfl, DPut.k (k := .inr f) z2 (by unfold deckKv; rw [List.length_cons, List.length_map, ← lim_eq]; omega), ?_⟩
          rw [putF_deck hf1]
          obtain ⟨g3, x3⟩ := deck_flds (fs := putF k2.flds f n) r2.g hΔ2
          exact GoS.nx (c := X.ci H0 EX) g2 (r2.step x3 g3) (x2.trans x3)
      | _ => exact (show False from g2).elim
    | _ => exact (show False from g2).elim
  · rw [if_neg hd] at g1
    obtain ⟨d0, e0, g1⟩ := g1.optE
    have e1 := ownS_of e0
    obtain ⟨q, k1, k2, k3, k4, k5⟩ := r1.own i d0 e1
    refine ⟨.ref q, k1, ?_⟩
    refine tO.thenS (c := X.ci H0 EX) r1 x1 g1 fun w di s2 H2 γ2 r2 x2 l2 _ hdi g2 => ?_
    obtain ⟨d', e2, g3⟩ := g2.optE
    obtain ⟨q', m1, m2, m3, m4, m5⟩ := r2.own i d0 e1
    rw [k1] at m1; cases m1
    have hdv2 := hdv.le l2
    unfold dPut at e2
    split at e2
    · rename_i xs n
      obtain ⟨j, e3, rfl⟩ := Option.map_eq_some_iff.mp e2
      cases hdi.int
      cases m2 with
      | lst hq ra =>
        refine .inl ⟨q, _, n, j, rfl, rfl, hq, by rw [ra.length]; exact e3, ?_⟩
        exact GoS.nx (c := X.ci H0 EX) g3 (r2.ownW e1 k1 (.lst upd_same (ra.set j hdv2))) (x2.ownW m4)
    · rename_i kvs dk
      obtain ⟨kk, e3, e4⟩ := Option.bind_eq_some_iff.mp e2
      split at e4
      · rename_i hl
        cases e4
        cases m2 with
        | dic hq ra =>
          have ew : w = kV kk := key_rep hdi e3
          subst ew
          refine .inr ⟨q, _, rfl, DPut.k hq (by rw [ra.length, ← lim_eq]; exact hl), ?_⟩
          exact GoS.nx (c := X.ci H0 EX) g3 (r2.ownW e1 k1 (.dic upd_same (ra.put hdv2))) (x2.ownW m4)
      · cases e4
    · cases e2
/-! ### append, extend, pop of an own list -/
def ownL (ρ : Env) (i : Nat) : Option (List D) := match ρ[i]? with
  | some (some (.own (.lst xs))) => some xs
  | _ => none
theorem ownL_of {ρ : Env} {i : Nat} {d : List D} (h : ownL ρ i = some d) : ρ[i]? = some (some (.own (.lst d))) := by
  unfold ownL at h
  split at h
  · cases h; assumption
  · cases h
theorem own_at {K : PySem.W.Frag} {H0 : Hp} {σ : L2.St} {H : Hp} {γ : Gh} {ρ : Env} {s : DS} {i : Nat} {ds : List D} (r : SR K H0 σ H γ ρ s) (h : ownL ρ i = some ds) : ∃ q vs, σ[i]? = some (some (.ref q)) ∧ H q = some (.lst vs) ∧ RepAll K γ vs ds ∧ H0 q = none := by
  obtain ⟨q, k1, k2, k3, k4, k5⟩ := r.own i _ (ownL_of h)
  cases k2 with
  | lst h1 h2 => exact ⟨q, _, k1, h1, h2, k4⟩
def mApp (i : Nat) (e : Env → M D) : MS := fun ρ => M.opt (ownL ρ i) >>= fun xs => e ρ >>= fun v => if xs.length < lim then pure (.nx (ρ.set i (some (.own (.lst (xs ++ [v])))))) else M.stop
def mExt (i : Nat) (e : Env → M (List D)) : MS := fun ρ => M.opt (ownL ρ i) >>= fun xs => e ρ >>= fun ys => if xs.length + ys.length ≤ lim then pure (.nx (ρ.set i (some (.own (.lst (xs ++ ys)))))) else M.stop
theorem few1 {X : Cx} {cp : Pos} {e : Expr} (hn : isStar e = false) : ((backTo cp (starEach [e] X.env)).all (fun x => !x.1) && (backToKw cp (keywordEach [] X.env)).all (fun x => x.1.isSome) && decide ([e].length + ([] : List Keyword).length + (if ([] : List Keyword).isEmpty then 0 else 1) < 30)) = true := by
  rw [star1 hn]; rfl
theorem ps_dapp (T : StX X c) {i : Nat} {x : Str} {p ap cp pos : Pos} {e : Expr} {m : Env → M D} (hi : c.N[i]? = some x) (hv : visB c.sc x = true) (ho : okName x = true) (hl : (ap.endLine == cp.line) = true) (hn : isStar e = false) (he : PE X e (tE (X.ci H0 EX) m)) :
    PS X (.Expr (.Call (.Attribute (.Name x p) "append" ap) [e] [] cp) pos) (tS (X.ci H0 EX) γ0 (mApp i m)) := by
  obtain ⟨h1, h2, _⟩ := okName_of ho
  refine (ps_expr (pe_bm F.plainAttrs_list F.slot_list_append F.type_list_append mt_append (pe_var (i := i) (by rw [T.hN]; exact hi) (by rw [T.hs]; exact vis_of hv) h1 h2) (pa1 he hn) rfl (few1 hn) hl (star_no hn) rfl) rfl).weak fun N σ H q => ?_
  obtain ⟨γ, ρ, s, r, x0, g⟩ := q
  obtain ⟨d, e1, g⟩ := g.optE
  obtain ⟨q, vs, k1, k2, k3, k4⟩ := own_at r e1
  refine ⟨.ref q, k1, .inl ⟨rfl, _, SqL.of k2⟩, ?_⟩
  refine tE.thenS (c := X.ci H0 EX) r x0 g fun v dv s1 H1 γ1 r1 x1 l1 hdv g1 => ?_
  obtain ⟨hlt, g1⟩ := g1.guard
  obtain ⟨q', vs', m1, m2, m3, m4⟩ := own_at r1 e1
  rw [k1] at m1; cases m1
  refine ⟨q, vs', v, rfl, rfl, m2, by rw [m3.length, ← lim_eq]; exact hlt, ?_⟩
  exact GoS.nx (c := X.ci H0 EX) g1 (r1.ownW (ownL_of e1) k1 (.lst upd_same (m3.append (.cons hdv .nil)))) (x1.ownW m4)
theorem ps_dext (T : StX X c) {i : Nat} {x : Str} {p ap cp pos : Pos} {e : Expr} {m : Env → M (List D)} (hi : c.N[i]? = some x) (hv : visB c.sc x = true) (ho : okName x = true) (hl : (ap.endLine == cp.line) = true) (hn : isStar e = false) (he : PE X e (tF (X.ci H0 EX) m)) :
    PS X (.Expr (.Call (.Attribute (.Name x p) "extend" ap) [e] [] cp) pos) (tS (X.ci H0 EX) γ0 (mExt i m)) := by
  obtain ⟨h1, h2, _⟩ := okName_of ho
  refine (ps_expr (pe_bm F.plainAttrs_list F.slot_list_extend F.type_list_extend mt_extend (pe_var (i := i) (by rw [T.hN]; exact hi) (by rw [T.hs]; exact vis_of hv) h1 h2) (pa1 he hn) rfl (few1 hn) hl (star_no hn) rfl) rfl).weak fun N σ H q => ?_
  obtain ⟨γ, ρ, s, r, x0, g⟩ := q
  obtain ⟨d, e1, g⟩ := g.optE
  obtain ⟨q, vs, k1, k2, k3, k4⟩ := own_at r e1
  refine ⟨.ref q, k1, .inl ⟨rfl, _, SqL.of k2⟩, ?_⟩
  refine tF.thenS (c := X.ci H0 EX) r x0 g fun p2 ws ys s1 H1 γ1 r1 x1 l1 z1 z2 z3 z4 z5 g1 => ?_
  obtain ⟨hlt, g1⟩ := g1.guard
  obtain ⟨q', vs', m1, m2, m3, m4⟩ := own_at r1 e1
  rw [k1] at m1; cases m1
  refine ⟨q, p2, vs', ws, rfl, rfl, m2, z1, by rw [m3.length, z2.length, ← lim_eq]; exact hlt, ?_⟩
  exact GoS.nx (c := X.ci H0 EX) g1 (r1.ownW (ownL_of e1) k1 (.lst upd_same (m3.append z2))) (x1.ownW m4)
/-- an own thing is frozen: nobody changes it from here -/
def mFrz (i : Nat) : MS := fun ρ => match ownS ρ i with
  | some d => pure (.nx (ρ.set i (some (.val d))))
  | none => pure (.nx ρ)
/-- the statement may start with something locked that it did not lock itself: for good -/
def tLk (t : TS) : TS := fun D σ H => t D σ H ∨ ∃ d u, H d = some u ∧ Mut (some u) ∧ ∀ od, t D σ (upd H d (.frz od u))
theorem ps_lk {X : Cx} {st : Stmt} {t : TS} (h : PS X st t) : PS X st (tLk t) := ⟨fun pins s σ H D I hw => by
  rcases hw with hw | ⟨d, u, hd, mu, hw⟩
  · exact h.run pins s σ H D I hw
  · obtain ⟨od, I1⟩ := I.lock hd mu
    exact h.run pins s σ _ D I1 (hw od)⟩
theorem frz_core {c : CxI} {m : MS} {i : Nat} {N : Ends} {σ : L2.St} {H : Hp} {γ : Gh} {ρ : Env} {s : DS} {d : D} {p : Addr} {o : HO} (r : SR c.K c.H0 σ H γ ρ s) (x : Step γ0 c.H0 γ H) (e : ownS ρ i = some d) (k1 : σ[i]? = some (some (V.ref p))) (k3 : OffDk γ p) (k4 : c.H0 p = none) (k5 : γ.F p = none)
    (hv : GLe γ (γ.put p o) → Rep c.K (γ.put p o) (.ref p) d) (g : GoS c γ0 γ N (m (ρ.set i (some (.val d))) s)) : tS c γ0 m N σ (upd H p o) := by
  have g1 : GWf (upd H p o) γ s := r.g.write k5 k3
  obtain ⟨g2, le⟩ := g1.freeze (p := p) upd_same k5 k3
  have hi : i < ρ.length := (List.getElem?_eq_some_iff.mp (ownS_of e)).1
  have hl := r.len
  have x' := x.ownW (o := o) k4
  refine ⟨γ.put p o, ρ.set i (some (.val d)), s, ⟨g2, by simp [hl], fun j e' h => ?_, fun j e' h => ?_, fun j l a b q h1 h2 h3 h4 => ?_⟩, ⟨x'.g.trans le, x'.keep, fun a u h f => ?_, x'.new, x'.dom⟩, g.mono le⟩
  · by_cases z : i = j
    · subst z
      rw [List.getElem?_set_self hi] at h; cases h
      exact ⟨_, k1, hv le⟩
    · rw [List.getElem?_set_ne z] at h
      obtain ⟨v, m1, m2⟩ := r.val j e' h
      exact ⟨v, m1, m2.le le⟩
  · by_cases z : i = j
    · subst z
      rw [List.getElem?_set_self hi] at h; cases h
    · rw [List.getElem?_set_ne z] at h
      obtain ⟨q, m1, m2, m3, m4, m5⟩ := r.own j e' h
      have ne : q ≠ p := fun w => z (r.sep i j d e' p (ownS_of e) h k1 (w ▸ m1))
      refine ⟨q, m1, m2.step le fun _ e => by rw [upd_ne ne]; exact e, fun z hz => m3 z hz, m4, ?_⟩
      show upd γ.F p o q = none
      rw [upd_ne ne]; exact m5
  · have zj : i ≠ j := fun z => by subst z; rw [List.getElem?_set_self hi] at h1; cases h1
    have zl : i ≠ l := fun z => by subst z; rw [List.getElem?_set_self hi] at h2; cases h2
    rw [List.getElem?_set_ne zj] at h1
    rw [List.getElem?_set_ne zl] at h2
    exact r.sep j l a b q h1 h2 h3 h4
  · have na : a ≠ p := fun z => by rw [z, k4] at h; cases h
    show upd γ.F p o a = none
    rw [upd_ne na]; exact x.fz a u h f
theorem upd_id {H : Hp} {p : Addr} {o : HO} (h : H p = some o) : upd H p o = H := by
  funext a
  by_cases z : a = p
  · rw [z, upd_same, h]
  · rw [upd_ne z]
theorem frz_rd {c : CxI} {m : MS} {i : Nat} {N : Ends} {σ : L2.St} {H : Hp} (q : tS c γ0 (mSeq (mFrz i) m) N σ H) : tLk (tS c γ0 m) N σ H := by
  obtain ⟨γ, ρ, s, r, x, g⟩ := q
  unfold mSeq mFrz at g
  cases e : ownS ρ i with
  | none =>
    rw [e] at g
    exact .inl ⟨γ, ρ, s, r, x, g⟩
  | some d =>
    rw [e] at g
    have g : GoS c γ0 γ N (m (ρ.set i (some (.val d))) s) := g
    obtain ⟨p, k1, k2, k3, k4, k5⟩ := r.own i d (ownS_of e)
    cases k2 with
    | lst h1 h2 =>
      have q := frz_core (o := .lst _) r x e k1 k3 k4 k5 (fun le => .lst upd_same (h2.le le)) g
      rw [upd_id h1] at q
      exact .inl q
    | dic h1 h2 =>
      exact .inr ⟨p, _, h1, trivial, fun od => frz_core (o := .frz od (.dK _)) r x e k1 k3 k4 k5 (fun le => .dic upd_same (h2.le le)) g⟩
theorem ps_frz {st : Stmt} {m : MS} {i : Nat} (h : PS X st (tS (X.ci H0 EX) γ0 m)) : PS X st (tS (X.ci H0 EX) γ0 (mSeq (mFrz i) m)) := (ps_lk h).weak fun N σ H q => frz_rd q
end
end RS

namespace RS
open PySem PySem.Spec PyProof.Rows L2

/-! ### dict displays -/
abbrev Dp2 := List (D × D)
def mPairs : List ((Env → M D) × (Env → M D)) → Env → M Dp2
  | [], _ => pure []
  | (k, v) :: r, ρ => k ρ >>= fun dk => v ρ >>= fun dv => mPairs r ρ >>= fun ps => pure ((dk, dv) :: ps)
def mergeD : Dp2 → Dp2 → Option Dp2
  | acc, [] => some acc
  | acc, (k, v) :: r => (keyOf k).bind fun k => mergeD (putD acc k v) r
def mDisp (ms : List ((Env → M D) × (Env → M D))) : Env → M D := fun ρ => mPairs ms ρ >>= fun ps => M.opt (if ps.length ≤ 15 then (mergeD [] ps).map .dic else none)
inductive RepPs (K : PySem.W.Frag) (γ : Gh) : List (V × V) → Dp2 → Prop
  | nil : RepPs K γ [] []
  | cons {k v : V} {dk dv : D} {ps : List (V × V)} {ds : Dp2} : Rep K γ k dk → Rep K γ v dv → RepPs K γ ps ds → RepPs K γ ((k, v) :: ps) ((dk, dv) :: ds)
theorem RepPs.le {K : PySem.W.Frag} {γ γ' : Gh} (g : GLe γ γ') : ∀ {ps : List (V × V)} {ds : Dp2}, RepPs K γ ps ds → RepPs K γ' ps ds
  | _, _, .nil => .nil
  | _, _, .cons a b t => .cons (a.le g) (b.le g) (t.le g)
theorem RepPs.length {K : PySem.W.Frag} {γ : Gh} : ∀ {ps : List (V × V)} {ds : Dp2}, RepPs K γ ps ds → ps.length = ds.length
  | _, _, .nil => rfl
  | _, _, .cons _ _ t => congrArg Nat.succ t.length
theorem merge_rep {K : PySem.W.Frag} {γ : Gh} {H : Hp} : ∀ {ps : List (V × V)} {ds acc : Dp2} {kvs : List (Key × V)} {r : Dp2}, RepPs K γ ps ds → RepKv K γ kvs acc → mergeD acc ds = some r → ∃ qs : List (Key × V), ps = qs.map (fun kv => (kV kv.1, kv.2)) ∧ qs.length = ps.length ∧ RepKv K γ (mergeK kvs qs) r
  | _, _, _, _, _, .nil, h, e => by
    cases e
    exact ⟨[], rfl, rfl, h⟩
  | _, (k, v) :: _, _, _, _, .cons a b t, h, e => by
    obtain ⟨kk, e1, e2⟩ := Option.bind_eq_some_iff.mp (show (keyOf k).bind _ = _ from e)
    obtain ⟨qs, h1, h2, h3⟩ := merge_rep (H := H) t (h.put (k := kk) b) e2
    have ek := key_rep (H := H) (.rep a) e1
    subst ek
    exact ⟨(kk, _) :: qs, by rw [h1]; rfl, by simp [h2], h3⟩
theorem write_put {γ γ2 : Gh} {H H2 : Hp} {s : DS} {p : Addr} {o0 o : HO} (x : Step γ H γ2 H2) (g : GWf H2 γ2 s) (h0 : H p = none) (h2 : H2 p = some o0) (f : γ2.F p = none) (od : OffDk γ2 p) : GWf (upd H2 p o) (γ2.put p o) s ∧ Step γ H (γ2.put p o) (upd H2 p o) ∧ GLe γ2 (γ2.put p o) := by
  have g3 : GWf (upd H2 p o) γ2 s := g.write f od
  obtain ⟨g4, le⟩ := g3.freeze (p := p) upd_same f od
  have ne : ∀ {a : Addr}, H a ≠ none → a ≠ p := fun h z => h (z ▸ h0)
  refine ⟨g4, ⟨x.g.trans le, fun a u e oa => ?_, fun a u e fa => ?_, x.new, fun a e => ?_⟩, le⟩
  · rw [upd_ne (ne (ne_none e))]; exact x.keep a u e oa
  · show upd γ2.F p o a = none
    rw [upd_ne (ne (ne_none e))]; exact x.fz a u e fa
  · rw [upd_ne (ne e)]; exact x.dom a e
section
variable {X : Cx} {c : Ctx} {H0 : Hp} {EX : XK}
theorem pairs_rd {c : CxI} {σ : L2.St} {ρ : Env} {β : Type} {P : β → DS → Hp → Gh → Prop} : ∀ {ms : List ((Env → M D) × (Env → M D))} {H : Hp} {γ : Gh} {s : DS} {f : Dp2 → M β} {R : List (V × V) → Hp → Prop}, SR c.K c.H0 σ H γ ρ s → Goes c.K c.mg c.EX γ H ((mPairs ms ρ >>= f) s) P →
    (∀ ps ds s' H' γ', SR c.K c.H0 σ H' γ' ρ s' → Step γ H γ' H' → RepPs c.K γ' ps ds → Goes c.K c.mg c.EX γ' H' (f ds s') P → R ps H') → tPairs (ms.map fun m => (tE c m.1, tE c m.2)) σ H R
  | [], H, γ, s, f, R, r, g, k => k [] [] s H γ r (Step.refl _ _) .nil g
  | (mk, mv) :: ms, H, γ, s, f, R, r, g, k => by
    have g : Goes c.K c.mg c.EX γ H ((mk ρ >>= fun dk => mv ρ >>= fun dv => mPairs ms ρ >>= fun ps => f ((dk, dv) :: ps)) s) P := by
      have e : (mPairs ((mk, mv) :: ms) ρ >>= f) = (mk ρ >>= fun dk => mv ρ >>= fun dv => mPairs ms ρ >>= fun ps => f ((dk, dv) :: ps)) := by
        show ((mk ρ >>= fun dk => mv ρ >>= fun dv => mPairs ms ρ >>= fun ps => pure ((dk, dv) :: ps)) >>= f) = _
        rw [M.assoc]; congr 1; funext dk
        rw [M.assoc]; congr 1; funext dv
        rw [M.assoc]; congr 1
      rw [← e]; exact g
    refine tE.then (c := c) r g fun x dk s1 H1 γ1 r1 x1 hk g1 => tE.then (c := c) r1 g1 fun y dv s2 H2 γ2 r2 x2 hv g2 => ?_
    exact pairs_rd r2 g2 fun ps ds s3 H3 γ3 r3 x3 hps g3 => k _ _ s3 H3 γ3 r3 ((x1.trans x2).trans x3) (.cons ((hk.le x2.g).le x3.g) (hv.le x3.g) hps) g3
/-- the pairs, one by one -/
inductive PPd (X : Cx) (pos : Pos) (cc : CxI) : List (Option Expr) → List Expr → List ((Env → M D) × (Env → M D)) → Prop
  | nil : PPd X pos cc [] [] []
  | cons {k v : Expr} {ks : List (Option Expr)} {vs : List Expr} {mk mv : Env → M D} {ms : List ((Env → M D) × (Env → M D))} : PE X k (tE cc mk) → PE X v (tE cc mv) → PPd X pos cc ks vs ms → PPd X pos cc (some k :: ks) (v :: vs) ((mk, mv) :: ms)
theorem PPd.pps {pos : Pos} {cc : CxI} : ∀ {ks : List (Option Expr)} {vs : List Expr} {ms : List ((Env → M D) × (Env → M D))}, PPd X pos cc ks vs ms → PPs X pos ks vs (ms.map fun m => (tE cc m.1, tE cc m.2)) ∧ ks.all (·.isSome) = true ∧ ks.length = vs.length ∧ ks.length = ms.length
  | _, _, _, .nil => ⟨pps_nil, rfl, rfl, rfl⟩
  | _, _, _, .cons a b t => by
    obtain ⟨h1, h2, h3, h4⟩ := t.pps
    exact ⟨pps_cons a b h1, by simpa using h2, by simp [h3], by simp [h4]⟩
/-- the value is locked, for good -/
theorem upd_upd {H : Hp} {p : Addr} {o o' : HO} : upd (upd H p o) p o' = upd H p o' := by
  funext a
  by_cases z : a = p
  · rw [z, upd_same, upd_same]
  · rw [upd_ne z, upd_ne z, upd_ne z]
def tLkE (t : TE) : TE := fun σ H Q => t σ H fun v H1 => ∃ d u, H1 d = some u ∧ Mut (some u) ∧ ∀ od, Q v (upd H1 d (.frz od u))
theorem pe_lk {X : Cx} {e : Expr} {t : TE} (h : PE X e t) : PE X e (tLkE t) := ⟨fun pins s σ H Q I hw => thn (h.run pins s σ H _ I hw) fun v s1 ⟨x, H1, I1, r, d, u, hd, mu, q⟩ => by
  obtain ⟨od, I2⟩ := I1.lock hd mu
  exact ⟨x, _, I2, r, q od⟩⟩
theorem pe_ddisp {pos : Pos} {ks : List (Option Expr)} {vs : List Expr} {ms : List ((Env → M D) × (Env → M D))} (h : PPd X pos (X.ci H0 EX) ks vs ms) (h0 : ms ≠ []) (h15 : ms.length ≤ 15) : PE X (.Dict ks vs pos) (tE (X.ci H0 EX) (mDisp ms)) := by
  obtain ⟨p1, p2, p3, p4⟩ := h.pps
  refine (pe_lk (pe_disp p1 p2 p3 (fun e => h0 (by rw [e] at p4; exact List.length_eq_zero_iff.mp p4.symm)) (by omega))).weak fun σ H Q q => ?_
  obtain ⟨γ, ρ, s, r, g⟩ := q
  intro p hp
  obtain ⟨gA, xA⟩ := Step.add (o := .dK []) r.g hp
  have fp : γ.F p = none := by
    cases q : γ.F p with
    | none => rfl
    | some u => rw [r.g.le _ _ q] at hp; cases hp
  have odp : OffDk γ p := fun z e => by
    obtain ⟨_, _, _, k, _, e2, e3⟩ := r.g.dk z.1 z.2 e
    exact ⟨fun w => (by rw [w, e2] at hp; cases hp), fun w => (by rw [w, e3] at hp; cases hp)⟩
  have rA := r.step xA gA
  -- the same wish from the larger heap
  have gG : Goes X.K X.mg EX γ (upd H p (.dK [])) ((mPairs ms ρ >>= fun ps => M.opt (if ps.length ≤ 15 then (mergeD [] ps).map .dic else none)) s) fun d s' H2 γ2 => ∀ H3 γ3, Step γ H γ3 H3 → GWf H3 γ3 s' → ∀ v, Rep X.K γ3 v d → Q v H3 := by
    have g : Goes X.K X.mg EX γ H ((mPairs ms ρ >>= fun ps => M.opt (if ps.length ≤ 15 then (mergeD [] ps).map .dic else none)) s) fun d _ H' γ' => ∀ v, Rep X.K γ' v d → Q v H' := g
    unfold Goes at g ⊢
    cases e : (mPairs ms ρ >>= fun ps => (M.opt (if ps.length ≤ 15 then (mergeD [] ps).map .dic else none) : M D)) s with
    | ok d s' => rw [e] at g; exact fun _ _ _ _ H3 γ3 x3 g3 v hv => g H3 γ3 x3 g3 v hv
    | exc cl x s' => rw [e] at g; exact Flies.step g xA
    | stuck => rw [e] at g; exact g
  refine pairs_rd (c := X.ci H0 EX) rA gG fun ps ds s2 H2 γ2 r2 x2 hps g2 => ?_
  obtain ⟨dd, e1, k⟩ := g2.optE
  have hl : ds.length ≤ 15 := by
    by_cases z : ds.length ≤ 15
    · exact z
    · rw [if_neg z] at e1; cases e1
  rw [if_pos hl] at e1
  obtain ⟨md, e2, rfl⟩ := Option.map_eq_some_iff.mp e1
  obtain ⟨qs, h1, h2, h3⟩ := merge_rep (H := H2) hps .nil e2
  have hA : upd H p (.dK []) p = some (.dK []) := upd_same
  have d2 : H2 p = some (.dK []) := x2.keep _ _ hA odp
  have f2 : γ2.F p = none := x2.fz _ _ hA fp
  have o2 : OffDk γ2 p := x2.off (ne_none hA) odp
  refine ⟨d2, qs, h1, ?_, ?_⟩
  · rw [h2, hps.length]; exact hl
  · refine ⟨p, _, upd_same, trivial, fun od => ?_⟩
    rw [upd_upd]
    obtain ⟨w1, w2, w3⟩ := write_put (o := .frz od (.dK (mergeK [] qs))) (xA.trans x2) r2.g hp d2 f2 o2
    exact k H2 γ2 (Step.refl _ _) r2.g _ _ w2 w1 _ (.dic upd_same (h3.le w3))
/-! ### the deck is made -/
def mFl : List (Str × (Env → M D)) → Env → M (List (Str × Int))
  | [], _ => pure []
  | (f, m) :: r, ρ => m ρ >>= fun d => M.opt (dInt d) >>= fun i => mFl r ρ >>= fun fs => pure ((f, i) :: fs)
def fldsOf (fs : List (Str × Int)) : List (Str × Int) := fs.foldl (fun a p => putF a p.1 p.2) []
def mkDeck (ds : Ds) (fs : List (Str × Int)) : M D := fun s => match s, intsOf ds with
  | none, some ns => if fs.length ≤ 14 then .ok .deck (some ⟨ns, fldsOf fs⟩) else .stuck
  | _, _ => .stuck
def mDeck (mc : Env → M Ds) (fl : List (Str × (Env → M D))) : Env → M D := fun ρ => mc ρ >>= fun ds => mFl fl ρ >>= fun fs => mkDeck ds fs
inductive FlD (X : Cx) (pos : Pos) (cc : CxI) : List (Option Expr) → List Expr → List (Str × (Env → M D)) → Prop
  | nil : FlD X pos cc [] [] []
  | cons {f : Str} {j} {p : Pos} {v : Expr} {ks : List (Option Expr)} {vs : List Expr} {mv : Env → M D} {ms : List (Str × (Env → M D))} : f ≠ cellsKey → PE X v (tE cc mv) → FlD X pos cc ks vs ms → FlD X pos cc (some (.Constant (.str f) j p) :: ks) (v :: vs) ((f, mv) :: ms)
theorem FlD.pps {pos : Pos} {cc : CxI} : ∀ {ks : List (Option Expr)} {vs : List Expr} {ms : List (Str × (Env → M D))}, FlD X pos cc ks vs ms → PPs X pos ks vs (ms.map fun m => (tC (.str m.1), tE cc m.2)) ∧ ks.all (·.isSome) = true ∧ ks.length = vs.length ∧ ks.length = ms.length ∧ ∀ m ∈ ms, m.1 ≠ cellsKey
  | _, _, _, .nil => ⟨pps_nil, rfl, rfl, rfl, fun _ h => by cases h⟩
  | _, _, _, .cons a b t => by
    obtain ⟨h1, h2, h3, h4, h5⟩ := t.pps
    refine ⟨pps_cons pe_str b h1, by simpa using h2, by simp [h3], by simp [h4], fun m hm => ?_⟩
    rcases List.mem_cons.mp hm with z | z
    · rw [z]; exact a
    · exact h5 m z
theorem fl_rd {c : CxI} {σ : L2.St} {ρ : Env} {β : Type} {P : β → DS → Hp → Gh → Prop} : ∀ {ms : List (Str × (Env → M D))} {H : Hp} {γ : Gh} {s : DS} {f : List (Str × Int) → M β} {R : List (V × V) → Hp → Prop}, SR c.K c.H0 σ H γ ρ s → Goes c.K c.mg c.EX γ H ((mFl ms ρ >>= f) s) P →
    (∀ fs s' H' γ', SR c.K c.H0 σ H' γ' ρ s' → Step γ H γ' H' → fs.map (·.1) = ms.map (·.1) → Goes c.K c.mg c.EX γ' H' (f fs s') P → R (fs.map fun p => (V.str p.1, V.int p.2)) H') → tPairs (ms.map fun m => (tC (.str m.1), tE c m.2)) σ H R
  | [], H, γ, s, f, R, r, g, k => k [] s H γ r (Step.refl _ _) rfl g
  | (n, mv) :: ms, H, γ, s, f, R, r, g, k => by
    have g : Goes c.K c.mg c.EX γ H ((mv ρ >>= fun d => M.opt (dInt d) >>= fun i => mFl ms ρ >>= fun fs => f ((n, i) :: fs)) s) P := by
      have e : (mFl ((n, mv) :: ms) ρ >>= f) = (mv ρ >>= fun d => M.opt (dInt d) >>= fun i => mFl ms ρ >>= fun fs => f ((n, i) :: fs)) := by
        show ((mv ρ >>= fun d => M.opt (dInt d) >>= fun i => mFl ms ρ >>= fun fs => pure ((n, i) :: fs)) >>= f) = _
        rw [M.assoc]; congr 1; funext d
        rw [M.assoc]; congr 1; funext i
        rw [M.assoc]; congr 1
      rw [← e]; exact g
    refine tE.then (c := c) r g fun y dv s2 H2 γ2 r2 x2 hv g2 => ?_
    obtain ⟨i, e1, g3⟩ := g2.opt
    unfold dInt at e1
    split at e1
    · cases e1; cases hv
      exact fl_rd r2 g3 fun fs s3 H3 γ3 r3 x3 hn g4 => k ((n, _) :: fs) s3 H3 γ3 r3 (x2.trans x3) (by simp [hn]) g4
    · cases e1
theorem merge_deck {pc : Addr} : ∀ {fs acc : List (Str × Int)}, (∀ p ∈ fs, p.1 ≠ cellsKey) → mergeK (deckKv pc acc) (fs.map fun p => ((Sum.inr p.1 : Key), V.int p.2)) = deckKv pc (fs.foldl (fun a p => putF a p.1 p.2) acc)
  | [], _, _ => rfl
  | p :: fs, acc, h => by
    show mergeK (putK (deckKv pc acc) (.inr p.1) (.int p.2)) (fs.map fun p => ((Sum.inr p.1 : Key), V.int p.2)) = _
    rw [putF_deck (h p List.mem_cons_self)]
    exact merge_deck fun q hq => h q (List.mem_cons_of_mem _ hq)
theorem Goes.mid {α β : Type} {K : PySem.W.Frag} {mg : Str → Option Value} {EX : XK} {γ γ1 : Gh} {H H1 : Hp} {m : M α} {f : α → M β} {s : DS} {P : β → DS → Hp → Gh → Prop} (h : Goes K mg EX γ H ((m >>= f) s) P) (x : Step γ H γ1 H1) : Goes K mg EX γ1 H1 (m s) fun a s' _ _ => Goes K mg EX γ H (f a s') P := by
  cases e : m s with
  | ok a s' => rw [bnd_ok e] at h; exact fun _ _ _ _ => h
  | exc cl y s' => rw [bnd_exc e] at h; exact Flies.step h x
  | stuck => rw [bnd_stuck e] at h; exact h
theorem pe_ddeck {pos : Pos} {j} {p1 : Pos} {v : Expr} {ks : List (Option Expr)} {vs : List Expr} {mc : Env → M Ds} {fl : List (Str × (Env → M D))} (hv : PE X v (tF (X.ci H0 EX) mc)) (h : FlD X pos (X.ci H0 EX) ks vs fl) (h15 : fl.length ≤ 14) : PE X (.Dict (some (.Constant (.str cellsKey) j p1) :: ks) (v :: vs) pos) (tE (X.ci H0 EX) (mDeck mc fl)) := by
  obtain ⟨q1, q2, q3, q4, q5⟩ := h.pps
  refine (pe_disp (pps_cons pe_str hv q1) (by simpa using q2) (by simp [q3]) (by simp) (by simp; omega)).weak fun σ H Q q => ?_
  obtain ⟨γ, ρ, s, r, g⟩ := q
  intro p hp
  obtain ⟨gA, xA⟩ := Step.add (o := .dK []) r.g hp
  have fp : γ.F p = none := by
    cases q : γ.F p with
    | none => rfl
    | some u => rw [r.g.le _ _ q] at hp; cases hp
  have odp : OffDk γ p := fun z e => by
    obtain ⟨_, _, _, k, _, e2, e3⟩ := r.g.dk z.1 z.2 e
    exact ⟨fun w => (by rw [w, e2] at hp; cases hp), fun w => (by rw [w, e3] at hp; cases hp)⟩
  have rA := r.step xA gA
  have em0 : (mDeck mc fl ρ) = ((mc ρ >>= fun ds => mFl fl ρ >>= fun fs => (pure (ds, fs) : M (Ds × List (Str × Int)))) >>= fun a => mkDeck a.1 a.2) := by
    show (mc ρ >>= fun ds => mFl fl ρ >>= fun fs => mkDeck ds fs) = _
    rw [M.assoc]; congr 1; funext ds
    rw [M.assoc]; congr 1
  rw [em0] at g
  have gG := Goes.mid g xA
  rw [tPairs]
  unfold tC
  dsimp only
  refine tF.then (c := X.ci H0 EX) rA gG fun pc vs2 ds s1 H1 γ1 r1 x1 z1 z2 z3 z4 z5 g1 => ?_
  refine fl_rd (c := X.ci H0 EX) r1 g1 fun fs s2 H2 γ2 r2 x2 hn g2 => ?_
  replace g2 : Goes X.K X.mg EX γ H (mkDeck ds fs s2) fun d _ H' γ' => ∀ v, Rep X.K γ' v d → Q v H' := Goes.pure (P := fun (a : Ds × List (Str × Int)) s' _ _ => Goes X.K X.mg EX γ H (mkDeck a.1 a.2 s') fun d _ H' γ' => ∀ v, Rep X.K γ' v d → Q v H') g2 r2.g
  have hA : upd H p (.dK []) p = some (.dK []) := upd_same
  have npc : pc ≠ p := fun z => by rw [z, hA] at z4; cases z4
  have hpc : H pc = none := by rw [upd_ne npc] at z4; exact z4
  have x12 := x1.trans x2
  have d2 : H2 p = some (.dK []) := x12.keep _ _ hA odp
  have f2 : γ2.F p = none := x12.fz _ _ hA fp
  have o2 : OffDk γ2 p := x12.off (ne_none hA) odp
  have c2 : H2 pc = some (.lst vs2) := x2.keep _ _ z1 z5
  have cf : γ2.F pc = none := x2.fz _ _ z1 z3
  -- the state
  cases s2 with
  | some k => exact (show False from g2).elim
  | none =>
    cases hi : intsOf ds with
    | none =>
      have e : mkDeck ds fs none = .stuck := by unfold mkDeck; rw [hi]
      rw [e] at g2; exact g2.elim
    | some ns =>
      have e : mkDeck ds fs none = if fs.length ≤ 14 then .ok .deck (some ⟨ns, fldsOf fs⟩) else .stuck := by unfold mkDeck; rw [hi]
      rw [e] at g2
      by_cases hl : fs.length ≤ 14
      case neg => rw [if_neg hl] at g2; exact g2.elim
      rw [if_pos hl] at g2
      have hΔ2 : γ2.Δ = none := by
        cases q : γ2.Δ with
        | none => rfl
        | some x =>
          obtain ⟨_, _, _, k, e0, _⟩ := r2.g.dk x.1 x.2 q
          cases e0
      have hΔ : γ.Δ = none := by
        cases q : γ.Δ with
        | none => rfl
        | some x => rw [(xA.trans x12).g.Δ _ q] at hΔ2; cases hΔ2
      refine ⟨d2, (Sum.inr cellsKey, V.ref pc) :: fs.map (fun p => ((Sum.inr p.1 : Key), V.int p.2)), ?_, ?_, ?_⟩
      · rw [List.map_cons, List.map_map]; rfl
      · rw [List.length_cons, List.length_map]; omega
      · have em : mergeK [] ((Sum.inr cellsKey, V.ref pc) :: fs.map (fun p => ((Sum.inr p.1 : Key), V.int p.2))) = deckKv pc (fldsOf fs) := by
          refine merge_deck (acc := []) fun q hq => ?_
          have h1 : q.1 ∈ fs.map (·.1) := List.mem_map_of_mem hq
          rw [hn] at h1
          obtain ⟨m, hm, em⟩ := List.mem_map.mp h1
          rw [← em]; exact q5 m hm
        rw [em]
        have hvs : vs2 = ns.map V.int := ints_rep z2 hi
        have g3 : GWf (upd H2 p (.dK (deckKv pc (fldsOf fs)))) ⟨γ2.F, some (p, pc)⟩ (some ⟨ns, fldsOf fs⟩) := by
          refine GWf.mk (fun a u e => ?_) (fun e => nomatch e) (fun a' c' e => ?_)
          · rw [upd_ne (fun z => by rw [z, f2] at e; cases e)]; exact r2.g.le _ _ e
          · cases e
            exact ⟨f2, cf, Ne.symm npc, _, rfl, upd_same, by rw [upd_ne npc, c2, hvs]⟩
        have xx := xA.trans x12
        have ne : ∀ {a : Addr}, H a ≠ none → a ≠ p := fun h z => h (z ▸ hp)
        have x3 : Step γ H ⟨γ2.F, some (p, pc)⟩ (upd H2 p (.dK (deckKv pc (fldsOf fs)))) := by
          refine ⟨⟨xx.g.F, fun z e => by rw [hΔ] at e; cases e⟩, fun a u e oa => ?_, xx.fz, fun _ z e => ?_, fun a e => ?_⟩
          · rw [upd_ne (ne (ne_none e))]; exact xx.keep a u e oa
          · exact (Option.some.inj e) ▸ ⟨hp, hpc⟩
          · rw [upd_ne (ne e)]; exact xx.dom a e
        exact (show ∀ H' γ', Step γ H γ' H' → GWf H' γ' (some ⟨ns, fldsOf fs⟩) → ∀ v, Rep X.K γ' v .deck → Q v H' from g2) _ _ x3 g3 _ (.deck rfl)
/-- {} -/
theorem pe_dnew0 {pos : Pos} : PE X (.Dict [] [] pos) (tE (X.ci H0 EX) (mC (.dic []))) := (pe_lk pe_dnewK).weak fun σ H Q q => by
  obtain ⟨γ, ρ, s, r, g⟩ := q
  intro p hp
  refine ⟨p, _, upd_same, trivial, fun od => ?_⟩
  rw [upd_upd]
  obtain ⟨g2, x2⟩ := Step.put (o := .frz od (.dK [])) r.g hp
  exact (show ∀ H' γ', Step γ H γ' H' → GWf H' γ' s → ∀ v, Rep X.K γ' v (.dic []) → Q v H' from g) _ _ x2 g2 _ (.dic upd_same .nil)
end
end RS

namespace RS
open PySem PySem.Spec PyProof.Rows L2

/-! ### a dict walked -/
theorem RepKv.get {K : PySem.W.Frag} {γ : Gh} : ∀ {vs : List (Key × V)} {ds : Dp2} {i : Nat} {p : D × D}, RepKv K γ vs ds → ds[i]? = some p → ∃ k v, vs[i]? = some (k, v) ∧ p.1 = keyD k ∧ Rep K γ v p.2
  | _, _, _, _, .nil, h => by simp at h
  | _, _, 0, p, .cons (k := k) (v := v) r t, h => by
    simp only [List.getElem?_cons_zero, Option.some.injEq] at h
    subst h
    exact ⟨k, v, rfl, rfl, r⟩
  | _, _, i + 1, p, .cons r t, h => by
    simp only [List.getElem?_cons_succ] at h ⊢
    exact t.get h
theorem rep_key {K : PySem.W.Frag} {γ : Gh} (k : Key) : Rep K γ (kV k) (keyD k) := by
  cases k with
  | inl i => exact .int i
  | inr x => exact .str x
def pairD (p : D × D) : D := .tup [p.1, p.2]
section
variable {K : PySem.W.Frag} {γ0 : Gh} {ds : Dp2} {d : Addr} {o : Obj} {kvs : List (Key × V)}
theorem walk_items (h : γ0.F d = some (.frz o (.dK kvs))) (r : RepKv K γ0 kvs ds) : WalkD K γ0 (Iti d o kvs) (ds.map pairD) where
  go i H γ s g l hi := ⟨g.le _ _ (l.F _ _ h), by rw [r.length]; simpa using hi⟩
  yld i H γ s x H' e g l y hd := by
    obtain ⟨T, k, v, h1, rfl, hT, rfl⟩ := y
    rw [List.getElem?_map] at hd
    obtain ⟨p, h2, rfl⟩ := Option.map_eq_some_iff.mp hd
    obtain ⟨k', v', h3, h4, h5⟩ := r.get h2
    rw [h1] at h3; cases h3
    have := new_pair g hT (rep_key k) (h5.le l)
    unfold pairD
    rw [h4]; exact this
  stop H γ s g l := ⟨g.le _ _ (l.F _ _ h), by rw [r.length, List.length_map]; exact Nat.le_refl _⟩
theorem walk_keys (h : γ0.F d = some (.frz o (.dK kvs))) (r : RepKv K γ0 kvs ds) : WalkD K γ0 (Itk d o kvs) (ds.map (·.1)) where
  go i H γ s g l hi := ⟨g.le _ _ (l.F _ _ h), by rw [r.length]; simpa using hi⟩
  yld i H γ s x H' e g l y hd := by
    obtain ⟨rfl, k, v, h1, rfl⟩ := y
    rw [List.getElem?_map] at hd
    obtain ⟨p, h2, rfl⟩ := Option.map_eq_some_iff.mp hd
    obtain ⟨k', v', h3, h4, h5⟩ := r.get h2
    rw [h1] at h3; cases h3
    rw [h4]
    exact ⟨γ, Step.refl _ _, g, rep_key k⟩
  stop H γ s g l := ⟨g.le _ _ (l.F _ _ h), by rw [r.length, List.length_map]; exact Nat.le_refl _⟩
theorem walk_vals (h : γ0.F d = some (.frz o (.dK kvs))) (r : RepKv K γ0 kvs ds) : WalkD K γ0 (Itd d o kvs) (ds.map (·.2)) where
  go i H γ s g l hi := ⟨g.le _ _ (l.F _ _ h), by rw [r.length]; simpa using hi⟩
  yld i H γ s x H' e g l y hd := by
    obtain ⟨rfl, k, h1⟩ := y
    rw [List.getElem?_map] at hd
    obtain ⟨p, h2, rfl⟩ := Option.map_eq_some_iff.mp hd
    obtain ⟨k', v', h3, h4, h5⟩ := r.get h2
    rw [h1] at h3; cases h3
    exact ⟨γ, Step.refl _ _, g, h5.le l⟩
  stop H γ s g l := ⟨g.le _ _ (l.F _ _ h), by rw [r.length, List.length_map]; exact Nat.le_refl _⟩
end
def dItems : D → Option Ds
  | .dic kvs => some (kvs.map pairD)
  | _ => none
def dKeys : D → Option Ds
  | .dic kvs => some (kvs.map (·.1))
  | _ => none
def dVals : D → Option Ds
  | .dic kvs => some (kvs.map (·.2))
  | _ => none
def mItemsI (m : Env → M D) : Env → M Ds := fun ρ => m ρ >>= fun d => M.opt (dItems d)
def mKeysI (m : Env → M D) : Env → M Ds := fun ρ => m ρ >>= fun d => M.opt (dKeys d)
def mValsI (m : Env → M D) : Env → M Ds := fun ρ => m ρ >>= fun d => M.opt (dVals d)
def noCall : Expr → Bool
  | .Call .. => false
  | _ => true
theorem base_ok {o : Expr} {a : Str} {env : PySem.Env} {w : Sem Value} (h : noCall o = true) : attributeBase o a env w = w := by cases o <;> first | rfl | cases h
section
variable {X : Cx} {c : Ctx} {H0 : Hp} {EX : XK} {tg e : Expr} {apos cpos : Pos} {m : Env → M D}
theorem pi_ditems {elts : List Expr} {kk : Nat} {tpos : Pos} (he : PE X e (tE (X.ci H0 EX) m)) (hn : noCall e = true) (hl : (apos.endLine == cpos.line) = true) : PI X (.Tuple elts kk tpos) (.Call (.Attribute e "items" apos) [] [] cpos) (tI (X.ci H0 EX) (mItemsI m)) :=
  PI.weak (pi_items he (base_ok hn) hl) fun σ H R q => by
    obtain ⟨γ, ρ, s, r, g⟩ := q
    refine tE.then (c := X.ci H0 EX) r g fun v d s1 H1 γ1 r1 x1 hv g1 => ?_
    obtain ⟨ds, e1, k⟩ := g1.optE
    have k1 := k H1 γ1 (Step.refl _ _) r1.g
    unfold dItems at e1
    split at e1
    · cases e1
      cases hv with
      | dic h1 h2 => exact ⟨_, _, _, rfl, r1.g.le _ _ h1, k1 _ (walk_items h1 h2)⟩
    · cases e1
theorem pi_dvals (he : PE X e (tE (X.ci H0 EX) m)) (hn : noCall e = true) (hl : (apos.endLine == cpos.line) = true) : PI X tg (.Call (.Attribute e "values" apos) [] [] cpos) (tI (X.ci H0 EX) (mValsI m)) :=
  PI.weak (pi_values he (base_ok hn) hl) fun σ H R q => by
    obtain ⟨γ, ρ, s, r, g⟩ := q
    refine tE.then (c := X.ci H0 EX) r g fun v d s1 H1 γ1 r1 x1 hv g1 => ?_
    obtain ⟨ds, e1, k⟩ := g1.optE
    have k1 := k H1 γ1 (Step.refl _ _) r1.g
    unfold dVals at e1
    split at e1
    · cases e1
      cases hv with
      | dic h1 h2 => exact ⟨_, _, _, rfl, r1.g.le _ _ h1, k1 _ (walk_vals h1 h2)⟩
    · cases e1
theorem pi_dkeys (he : PE X e (tE (X.ci H0 EX) m)) : PI X tg e (tI (X.ci H0 EX) (mKeysI m)) :=
  PI.weak (pi_keys he) fun σ H R q => by
    obtain ⟨γ, ρ, s, r, g⟩ := q
    refine tE.then (c := X.ci H0 EX) r g fun v d s1 H1 γ1 r1 x1 hv g1 => ?_
    obtain ⟨ds, e1, k⟩ := g1.optE
    have k1 := k H1 γ1 (Step.refl _ _) r1.g
    unfold dKeys at e1
    split at e1
    · cases e1
      cases hv with
      | dic h1 h2 => exact ⟨_, _, rfl, .inl ⟨_, r1.g.le _ _ h1, k1 _ (walk_keys h1 h2)⟩⟩
    · cases e1
end
end RS

namespace RS
open PySem PySem.Spec PyProof.Rows L2

/-! ### a new dict -/
def tD (c : CxI) (m : Env → M Dp2) : TE := fun σ H Q => ∃ γ ρ s, SR c.K c.H0 σ H γ ρ s ∧ Goes c.K c.mg c.EX γ H (m ρ s) fun ds _ H' γ' => ∀ p vs, H' p = some (.dK vs) → RepKv c.K γ' vs ds → γ'.F p = none → H p = none → OffDk γ' p → Q (.ref p) H'
section
variable {c : CxI} {σ : L2.St} {H : Hp} {γ γ0 : Gh} {ρ : Env} {s : DS} {N : Ends}
theorem tD.thenS {m : Env → M Dp2} {f : Dp2 → M O} (r : SR c.K c.H0 σ H γ ρ s) (x0 : Step γ0 c.H0 γ H) (h : GoS c γ0 γ N ((m ρ >>= f) s)) {Q : VK}
    (k : ∀ p vs ds s1 H1 γ1, SR c.K c.H0 σ H1 γ1 ρ s1 → Step γ0 c.H0 γ1 H1 → GLe γ γ1 → H1 p = some (.dK vs) → RepKv c.K γ1 vs ds → γ1.F p = none → H p = none → OffDk γ1 p → GoS c γ0 γ1 N (f ds s1) → Q (.ref p) H1) : tD c m σ H Q :=
  ⟨γ, ρ, s, r, h.split x0 fun d s1 H1 γ1 x g q p vs h1 h2 h3 h4 h5 => k p vs d s1 H1 γ1 (r.step x g) (x0.trans x) x.g h1 h2 h3 h4 h5 q⟩
theorem tD.then {α : Type} {m : Env → M Dp2} {f : Dp2 → M α} {P : α → DS → Hp → Gh → Prop} (r : SR c.K c.H0 σ H γ ρ s) (h : Goes c.K c.mg c.EX γ H ((m ρ >>= f) s) P) {Q : VK}
    (k : ∀ p vs ds s1 H1 γ1, SR c.K c.H0 σ H1 γ1 ρ s1 → Step γ H γ1 H1 → H1 p = some (.dK vs) → RepKv c.K γ1 vs ds → γ1.F p = none → H p = none → OffDk γ1 p → Goes c.K c.mg c.EX γ1 H1 (f ds s1) P → Q (.ref p) H1) : tD c m σ H Q :=
  ⟨γ, ρ, s, r, h.bind.imp fun d s1 H1 γ1 x g q p vs h1 h2 h3 h4 h5 => k p vs d s1 H1 γ1 (r.step x g) x h1 h2 h3 h4 h5 q⟩
/-- name = {..}, own -/
def mSetD (m : Env → M Dp2) (i : Nat) : MS := fun ρ => m ρ >>= fun ds => if i < ρ.length then pure (.nx (ρ.set i (some (.own (.dic ds))))) else M.stop
theorem setD_rd {m : Env → M Dp2} {i : Nat} (q : tS c γ0 (mSetD m i) N σ H) : tD c m σ H fun x H1 => gName i x σ H1 N.nx := by
  obtain ⟨γ, ρ, s, r, x, h⟩ := q
  refine tD.thenS r x h fun p vs ds s1 H1 γ1 r1 x1 _ h1 h2 h3 h4 h5 g1 => ?_
  obtain ⟨hl, g1⟩ := g1.guard
  refine GoS.nx g1 (r1.setOwn (.dic h1 h2) h5 (Classical.byContradiction fun w => x.dom p w h4) h3 hl fun j e nj hj hσ => ?_) x1
  obtain ⟨q, k1, k2, _⟩ := r.own j e hj
  rw [hσ] at k1; cases k1
  obtain ⟨o, ho⟩ := k2.there
  rw [h4] at ho; cases ho
/-- as a value: locked for good -/
def mDv (m : Env → M Dp2) : Env → M D := fun ρ => m ρ >>= fun ds => pure (.dic ds)
theorem dv_rd {m : Env → M Dp2} {Q : VK} (q : tE c (mDv m) σ H Q) : tLkE (tD c m) σ H Q := by
  obtain ⟨γ, ρ, s, r, g⟩ := q
  refine ⟨γ, ρ, s, r, Goes.split g fun ds s1 H1 γ1 x1 g1 h p vs h1 h2 h3 h4 h5 => ⟨p, _, h1, trivial, fun od => ?_⟩⟩
  obtain ⟨w1, w2, w3⟩ := write_put (o := .frz od (.dK vs)) x1 g1 h4 h1 h3 h5
  exact (show ∀ H' γ', Step γ H γ' H' → GWf H' γ' s1 → ∀ v, Rep c.K γ' v (.dic ds) → Q v H' from h) _ _ w2 w1 _ (.dic upd_same (h2.le w3))
/-! ### {k: v for .. in ..} -/
def mDcGo (g : Tg) (t : Env → M Bool) (ek ev : Env → M D) (ρ : Env) : Dp2 → Ds → M Dp2
  | acc, [] => pure acc
  | acc, d :: ds => M.opt (g d ρ) >>= fun ρ2 => M.calm (t ρ2) >>= fun b =>
    if b then M.calm (ek ρ2) >>= fun y => M.calm (ev ρ2) >>= fun z => M.opt (keyOf y) >>= fun k => mDcGo g t ek ev ρ (putD acc k z) ds else mDcGo g t ek ev ρ acc ds
def mDc (it : Env → M Ds) (g : Tg) (t : Env → M Bool) (ek ev : Env → M D) (vs : List Nat) : Env → M Dp2 := fun ρ => it ρ >>= fun ds => if ds.length ≤ lim then mDcGo g t ek ev (wipeE ρ vs) [] ds else M.stop
structure DSt (c : CxI) (H0 : Hp) (σ : L2.St) (ρ : Env) (vs : List Nat) (γo : Gh) (Ho : Hp) (p : Addr) (n : Nat) (γ : Gh) (H : Hp) (s : DS) (acc : Dp2) : Prop where
  r : SR c.K H0 (L2.wipe σ vs) H γ (wipeE ρ vs) s
  x : Step γo Ho γ H
  d : ∃ vs', H p = some (.dK vs') ∧ RepKv c.K γ vs' acc ∧ vs'.length ≤ n
  f : γ.F p = none
  od : OffDk γ p
theorem dc_in {g : Tg} {t : Env → M Bool} {ek ev : Env → M D} {vs is : List Nat} (hi : ∀ i ∈ is, i ∈ vs) {σ : L2.St} {H0 : Hp} {ρ : Env} {γo γw γ : Gh} {Ho H1 H : Hp} {p : Addr} {s1 : DS} {P : Dp2 → DS → Hp → Gh → Prop} {Nx : Hp → Prop} {J : It} {ds : Ds}
    (hp : Ho p = none) (hp0 : H0 p ≠ none) (wk : WalkD c.K γw J ds) (st : ∃ γ1, GLe γw γ1 ∧ DSt c H0 σ ρ vs γo Ho p 0 γ1 H1 s1 []) (hl : ds.length ≤ lim)
    (h : Goes c.K c.mg c.EX γ H (mDcGo g t ek ev (wipeE ρ vs) [] ds s1) P)
    (fin : ∀ γ2 H2 s2 acc, DSt c H0 σ ρ vs γo Ho p ds.length γ2 H2 s2 acc → GLe γw γ2 → Goes c.K c.mg c.EX γ H ((Pure.pure acc : M Dp2) s2) P → Nx H2) :
    ∃ W : Nat → Nat → Hp → Prop, (∃ m, W 0 m H1) ∧ ∀ i m H, W i m H → (J.stop i H ∧ Nx H) ∨ (J.go i H ∧ ∃ Nx1 : Hp → Prop, (∀ H', Nx1 H' → ∃ m', m' < m ∧ W (i + 1) m' H') ∧ ∀ x H', J.yld i H x H' → gX c is g x (L2.wipe σ vs) H' fun σ2 H2 => L2.wipe σ2 vs = L2.wipe σ vs ∧ bX c t σ2 H2 fun b H3 =>
      if b = true then eX c ek σ2 H3 fun y H4 => eX c ev σ2 H4 fun z H5 => ∃ kvs k, y = kV k ∧ H5 p = some (.dK kvs) ∧ kvs.length < sizeLine ∧ Nx1 (upd H5 p (.dK (putK kvs k z))) else Nx1 H3) := by
  let St : Nat → Hp → Prop := fun i H' => ∃ γ' s' acc, GLe γw γ' ∧ DSt c H0 σ ρ vs γo Ho p i γ' H' s' acc ∧ Goes c.K c.mg c.EX γ H (mDcGo g t ek ev (wipeE ρ vs) acc (ds.drop i) s') P
  obtain ⟨γ1, lw, st⟩ := st
  refine ⟨fun i m H => m = ds.length - i ∧ i ≤ ds.length ∧ St i H, ⟨ds.length, by simp, Nat.zero_le _, γ1, s1, [], lw, st, by rw [List.drop_zero]; exact h⟩, ?_⟩
  rintro i m H2 ⟨rfl, hi', γ2, s2, acc, l2, S2, h2⟩
  by_cases hlt : i < ds.length
  · have hx : ds[i]? = some ds[i] := List.getElem?_eq_getElem hlt
    rw [List.drop_eq_getElem_cons hlt] at h2
    refine .inr ⟨wk.go i H2 γ2 s2 S2.r.g l2 hlt, St (i + 1), fun H' n => ⟨ds.length - (i + 1), by omega, rfl, hlt, n⟩, fun v H3 y => ?_⟩
    obtain ⟨γ3, x3, g3, hv⟩ := wk.yld i H2 γ2 s2 v H3 _ S2.r.g l2 y hx
    have h3 : Goes c.K c.mg c.EX γ H ((M.opt (g ds[i] (wipeE ρ vs)) >>= fun ρ2 => M.calm (t ρ2) >>= fun b => if b then M.calm (ek ρ2) >>= fun y => M.calm (ev ρ2) >>= fun z => M.opt (keyOf y) >>= fun k => mDcGo g t ek ev (wipeE ρ vs) (putD acc k z) (ds.drop (i + 1)) else mDcGo g t ek ev (wipeE ρ vs) acc (ds.drop (i + 1))) s2) P := h2
    obtain ⟨ρ2, eg, h4⟩ := h3.opt
    obtain ⟨b, s5, eb, h5⟩ := h4.andThen
    obtain ⟨vs2, hD2, ra2, ll2⟩ := S2.d
    refine ⟨H0, γ3, wipeE ρ vs, s2, ds[i], ρ2, S2.r.step x3 g3, hv, eg, fun σ4 d4 l4 r4 => ⟨?_, H0, γ3, ρ2, s2, r4, calm_goes eb fun H5 γ5 x5 g5 => ?_⟩⟩
    · rw [wipe_eq d4 l4 hi]
      exact wipe_eq (is := vs) (fun j hj => wipe_out hj) (wipe_length _ _) fun _ h => h
    have keepD : ∀ {γa γb : Gh} {Ha Hb : Hp}, Step γa Ha γb Hb → OffDk γa p → Ha p = some (.dK vs2) → γa.F p = none → OffDk γb p ∧ Hb p = some (.dK vs2) ∧ γb.F p = none := fun st o hh ff => ⟨st.off (ne_none hh) o, st.keep _ _ hh o, st.fz _ _ hh ff⟩
    obtain ⟨od3, hD3, f3⟩ := keepD x3 S2.od hD2 S2.f
    obtain ⟨od5, hD5, f5⟩ := keepD x5 od3 hD3 f3
    have r5 := (S2.r.step x3 g3).step x5 g5
    have x15 := (S2.x.trans x3).trans x5
    have ra5 := ra2.le (x3.g.trans x5.g)
    have l5 := (l2.trans x3.g).trans x5.g
    cases b with
    | false => exact ⟨γ5, s5, acc, l5, ⟨r5, x15, ⟨vs2, hD5, ra5, by omega⟩, f5, od5⟩, h5⟩
    | true =>
      simp only [if_true] at h5 ⊢
      obtain ⟨y, s6, ey, h6⟩ := h5.andThen
      refine ⟨H0, γ5, ρ2, s5, r4.step x5 g5, calm_goes ey fun H6 γ6 x6 g6 w hw => ?_⟩
      obtain ⟨od6, hD6, f6⟩ := keepD x6 od5 hD5 f5
      obtain ⟨z, s7, ez, h7⟩ := h6.andThen
      refine ⟨H0, γ6, ρ2, s6, (r4.step x5 g5).step x6 g6, calm_goes ez fun H7 γ7 x7 g7 u hu => ?_⟩
      obtain ⟨od7, hD7, f7⟩ := keepD x7 od6 hD6 f6
      obtain ⟨k, ek', h8⟩ := h7.opt
      have hk := key_rep (H := H7) (.rep (hw.le x7.g)) ek'
      have e1 : vs2.length < sizeLine := by rw [← lim_eq]; omega
      refine ⟨vs2, k, hk, hD7, e1, ?_⟩
      have x17 := (x15.trans x6).trans x7
      have g8 : GWf (upd H7 p (.dK (putK vs2 k u))) γ7 s7 := g7.write f7 od7
      have neD : ∀ {a : Addr}, Ho a ≠ none → a ≠ p := fun h z => h (z ▸ hp)
      have x18 : Step γo Ho γ7 (upd H7 p (.dK (putK vs2 k u))) := by
        refine ⟨x17.g, fun a o ha oa => ?_, x17.fz, x17.new, fun a ha => ?_⟩
        · rw [upd_ne (neD (ne_none ha))]; exact x17.keep a o ha oa
        · rw [upd_ne (neD ha)]; exact x17.dom a ha
      have r8 : SR c.K H0 (L2.wipe σ vs) (upd H7 p (.dK (putK vs2 k u))) γ7 (wipeE ρ vs) s7 := ((r5.step x6 g6).step x7 g7).stepX hp0 StepX.write g8
      have lp := putK_length vs2 k u
      exact ⟨γ7, s7, putD acc k z, (l5.trans x6.g).trans x7.g, ⟨r8, x18, ⟨_, upd_same, RepKv.put hu ((ra5.le x6.g).le x7.g), by omega⟩, f7, od7⟩, h8⟩
  · have e : i = ds.length := by omega
    subst e
    rw [List.drop_length] at h2
    exact .inl ⟨wk.stop H2 γ2 s2 S2.r.g l2, fin γ2 H2 s2 acc S2 l2 h2⟩
theorem dst_start {H1 : Hp} {γ1 : Gh} {s1 : DS} (vs : List Nat) (r : SR c.K c.H0 σ H γ ρ s) (x1 : Step γ H γ1 H1) (g1 : GWf H1 γ1 s1) {p : Addr} (hp : H1 p = none) : DSt c (upd c.H0 p (.dK [])) σ ρ vs γ1 H1 p 0 γ1 (upd H1 p (.dK [])) s1 [] := by
  obtain ⟨gA, xA⟩ := Step.add (o := .dK []) g1 hp
  have f1 : γ1.F p = none := by
    cases q : γ1.F p with
    | none => rfl
    | some u => rw [g1.le _ _ q] at hp; cases hp
  refine ⟨(((r.wipe vs).step x1 g1).entry hp).step xA gA, xA, ⟨[], upd_same, .nil, Nat.le_refl _⟩, f1, fun z e => ?_⟩
  obtain ⟨_, _, _, k, _, e2, e3⟩ := g1.dk z.1 z.2 e
  exact ⟨fun w => (by rw [w, e2] at hp; cases hp), fun w => (by rw [w, e3] at hp; cases hp)⟩
theorem dc_rd {it : Env → M Ds} {g : Tg} {t : Env → M Bool} {ek ev : Env → M D} {vs is : List Nat} (hi : ∀ i ∈ is, i ∈ vs) {Q : VK} (q : tD c (mDc it g t ek ev vs) σ H Q) :
    tDc (tI c it) (gX c is g) (bX c t) (eX c ek) (eX c ev) vs σ H Q := by
  obtain ⟨γ, ρ, s, r, h⟩ := q
  refine ⟨γ, ρ, s, r, Goes.split h fun ds s1 H1 γ1 x1 g1 h1 J wk p hp => ?_⟩
  by_cases hl : ds.length ≤ lim
  case neg => rw [if_neg hl] at h1; exact h1.elim
  rw [if_pos hl] at h1
  have hDH : H p = none := Classical.byContradiction fun w => x1.dom p w hp
  refine dc_in hi (H0 := upd c.H0 p (.dK [])) hp (by rw [upd_same]; exact fun e => nomatch e) wk ⟨γ1, GLe.refl _, dst_start vs r x1 g1 hp⟩ hl h1 fun γ2 H2 s2 acc S2 l2 h3 => ?_
  obtain ⟨vs2, hD2, ra2, _⟩ := S2.d
  exact (show ∀ H' γ', Step γ H γ' H' → GWf H' γ' s2 → ∀ p vs, H' p = some (.dK vs) → RepKv c.K γ' vs acc → γ'.F p = none → H p = none → OffDk γ' p → Q (.ref p) H' from h3) H2 γ2 (x1.trans S2.x) S2.r.g p vs2 hD2 ra2 S2.f hDH S2.od
end
section
variable {X : Cx} {c : Ctx} {H0 : Hp} {EX : XK} {γ0 : Gh}
/-- {} -/
theorem pe_dnewD {pos : Pos} : PE X (.Dict [] [] pos) (tD (X.ci H0 EX) fun _ => pure []) := pe_dnewK.weak fun σ H Q q => by
  obtain ⟨γ, ρ, s, r, g⟩ := q
  intro p hp
  obtain ⟨g2, x2⟩ := Step.add (o := .dK []) r.g hp
  have f1 : γ.F p = none := by
    cases q : γ.F p with
    | none => rfl
    | some u => rw [r.g.le _ _ q] at hp; cases hp
  refine (show ∀ H' γ', Step γ H γ' H' → GWf H' γ' s → ∀ p vs, H' p = some (.dK vs) → RepKv X.K γ' vs [] → γ'.F p = none → H p = none → OffDk γ' p → Q (.ref p) H' from g) _ _ x2 g2 p [] upd_same .nil f1 hp fun z e => ?_
  obtain ⟨_, _, _, k, _, e2, e3⟩ := r.g.dk z.1 z.2 e
  exact ⟨fun w => (by rw [w, e2] at hp; cases hp), fun w => (by rw [w, e3] at hp; cases hp)⟩
theorem pe_ddc (T : StX X c) {kx vx tg iter : Expr} {ifs : List Expr} {scope : Scope} {own : List (Str × Nat)} {pos : Pos} {it : Env → M Ds} {is : List Nat} {g : Tg} {t : Env → M Bool} {ek ev : Env → M D} (h1 : blkC c.N c.sc scope own = true) (hi : PI X tg iter (tI (X.ci H0 EX) it))
    (his : ∀ i ∈ is, i ∈ own.map (·.2)) (hg : Runs X scope fun Y => ∀ H0, PG Y tg (tG (Y.ci H0 noX) is g)) (ht : IfsR X scope ifs t) (hk : Runs X scope fun Y => ∀ H0, PE Y kx (tE (Y.ci H0 noX) ek)) (he : Runs X scope fun Y => ∀ H0, PE Y vx (tE (Y.ci H0 noX) ev)) (hs : ∀ x, foldedSetIterable iter X.env x = pure x) :
    PE X (.DictComp kx vx [⟨tg, iter, ifs, 0⟩] scope pos) (tD (X.ci H0 EX) (mDc it g t ek ev (own.map (·.2)))) :=
  (pe_dc T.calm (by rw [T.hN]; exact T.nd) hi (blkOk_of T h1) (runs_g (H0 := H0) (EX := EX) hg) (ht.pts (H0 := H0) (EX := EX)) (runs_e (H0 := H0) (EX := EX) hk) (runs_e (H0 := H0) (EX := EX) he) hs).weak fun σ H Q q => dc_rd (c := X.ci H0 EX) his q
theorem pe_dval {e : Expr} {m : Env → M Dp2} (h : PE X e (tD (X.ci H0 EX) m)) : PE X e (tE (X.ci H0 EX) (mDv m)) := (pe_lk h).weak fun σ H Q q => dv_rd (c := X.ci H0 EX) q
theorem ps_dsetD (T : StX X c) {i : Nat} {x : Str} {e : Expr} {m : Env → M Dp2} {p pos : Pos} (hi : c.N[i]? = some x) (hx : stoB c x = true) (he : PE X e (tD (X.ci H0 EX) m)) (hs : swapsWith e (some (.Name x p)) pos.line X.env = pure false) : PS X (.Assign [.Name x p] e pos) (tS (X.ci H0 EX) γ0 (mSetD m i)) := by
  obtain ⟨hl, hf⟩ := T.stores hx
  exact (ps_set (pos := pos) (by rw [T.hN]; exact T.nd) (by rw [T.hN]; exact hi) hl he hs hf).weak fun N σ H q => setD_rd q
/-- name = {k: v for ..} on one line: the value goes to the name within -/
theorem ps_dsetDc (T : StX X c) {i : Nat} {x : Str} {p : Pos} {kx vx tg iter : Expr} {ifs : List Expr} {scope : Scope} {own : List (Str × Nat)} {pos spos : Pos} {it : Env → M Ds} {is : List Nat} {g : Tg} {t : Env → M Bool} {ek ev : Env → M D} (hx : c.N[i]? = some x) (hl : c.sc.names.lookup x = some .local)
    (hsw : swapsWith (.DictComp kx vx [⟨tg, iter, ifs, 0⟩] scope pos) (some (.Name x p)) spos.line X.env = pure true) (h1 : blkC c.N c.sc scope own = true) (hi : PI X tg iter (tI (X.ci H0 EX) it))
    (his : ∀ i ∈ is, i ∈ own.map (·.2)) (hg : Runs X scope fun Y => ∀ H0, PG Y tg (tG (Y.ci H0 noX) is g)) (ht : IfsR X scope ifs t) (hk : Runs X scope fun Y => ∀ H0, PE Y kx (tE (Y.ci H0 noX) ek)) (he : Runs X scope fun Y => ∀ H0, PE Y vx (tE (Y.ci H0 noX) ev)) (hs : ∀ x, foldedSetIterable iter X.env x = pure x) :
    PS X (.Assign [.Name x p] (.DictComp kx vx [⟨tg, iter, ifs, 0⟩] scope pos) spos) (tS (X.ci H0 EX) γ0 (mSetD (mDc it g t ek ev (own.map (·.2))) i)) := by
  have hN : X.N.Nodup := by rw [T.hN]; exact T.nd
  have hy : X.N[i]? = some x := by rw [T.hN]; exact hx
  have hyl : X.env.scope.names.lookup x = some .local := by rw [T.hs]; exact hl
  refine ⟨fun pins s σ H D I q => ?_⟩
  rw [exec_Assign_Name_used _ _ _ _ hsw]
  refine wpAny_bind (wpAny_standAt (wpAny_bind ?_))
  have q := dc_rd (c := X.ci H0 EX) his (setD_rd q)
  refine wpAny_bind (thn (dc_core (use := some (assign (.Name x p) X.env)) (Qf := fun _ s' => SP X pins D .next s') T.calm hN I hi (blkOk_of T h1) (runs_g (H0 := H0) (EX := EX) hg) (ht.pts (H0 := H0) (EX := EX)) (runs_e (H0 := H0) (EX := EX) hk) (runs_e (H0 := H0) (EX := EX) he) hs q fun L C s' m H' I' q hn f => ?_) fun _ s' hq => wpAny_pure (wpAny_pure hq))
  show wpAny _ _ (assign (.Name x p) X.env (.ref L)) _ _ _
  refine wpAny_assign_Name (store_ok2 (v := V.ref L) I' hN hy (.inl hyl) rfl (fun s2 I2 ⟨a, sb, ha⟩ => ?_) (.inr hyl))
  obtain ⟨f0, f1, f2, f3, f4, f5⟩ := f
  have haC : C ≠ a := ha.elim (fun z => z ▸ f1) fun z e => f4 x a z e.symm
  exact ⟨m, hn.sameBut sb haC, fun h3 sb3 => ⟨_, H', I2.turned (t' := s2.toks) (fun b o hb e => (sb3.2 b hb).trans e) f0 f1 f3 f4 f5, q⟩⟩
end
end RS

namespace RS
open PySem PySem.Spec PyProof.Rows L2

/-! ### x, y = .., ..: what is new may be one's own -/
abbrev Sls := List Sl
/-- a value in a slot: frozen, or new since Hb -/
inductive RepSl (K : PySem.W.Frag) (Hb H : Hp) (γ : Gh) : V → Sl → Prop
  | val {v : V} {d : D} : Rep K γ v d → RepSl K Hb H γ v (.val d)
  | own {p : Addr} {d : D} : OwnAt K H γ p d → OffDk γ p → γ.F p = none → Hb p = none → RepSl K Hb H γ (.ref p) (.own d)
/-- the address of an own one -/
def ownAd : V → Sl → Option Addr
  | .ref p, .own _ => some p
  | _, _ => none
inductive RepSls (K : PySem.W.Frag) (Hb H : Hp) (γ : Gh) : List V → Sls → Prop
  | nil : RepSls K Hb H γ [] []
  | cons {v : V} {vs : List V} {a : Sl} {as : Sls} : RepSl K Hb H γ v a → RepSls K Hb H γ vs as → (∀ p, ownAd v a = some p → ∀ (j : Nat) (w : V) (b : Sl), vs[j]? = some w → as[j]? = some b → ownAd w b ≠ some p) → RepSls K Hb H γ (v :: vs) (a :: as)
def tSl (c : CxI) (m : Env → M Sls) : TA := fun σ H Q => ∃ γ ρ s, SR c.K c.H0 σ H γ ρ s ∧ Goes c.K c.mg c.EX γ H (m ρ s) fun as _ H' γ' => ∀ vs, RepSls c.K H H' γ' vs as → Q vs H'
theorem OwnAt.some {K : PySem.W.Frag} {H : Hp} {γ : Gh} {p : Addr} {d : D} (h : OwnAt K H γ p d) : H p ≠ none := by
  obtain ⟨o, e⟩ := h.there
  rw [e]; exact Option.some_ne_none _
theorem RepSl.step {K : PySem.W.Frag} {Hb H H' : Hp} {γ γ' : Gh} {v : V} {a : Sl} (h : RepSl K Hb H γ v a) (x : Step γ H γ' H') : RepSl K Hb H' γ' v a := by
  cases h with
  | val r => exact .val (r.le x.g)
  | own o od f n =>
    obtain ⟨ob, e⟩ := o.there
    exact .own (o.step x.g fun o e => x.keep _ o e od) (x.off (ne_none e) od) (x.fz _ _ e f) n
theorem RepSl.base {K : PySem.W.Frag} {Hb Hb' H : Hp} {γ : Gh} {v : V} {a : Sl} (h : RepSl K Hb H γ v a) (k : ∀ p, Hb p = none → Hb' p = none) : RepSl K Hb' H γ v a := by
  cases h with
  | val r => exact .val r
  | own o od f n => exact .own o od f (k _ n)
theorem RepSls.base {K : PySem.W.Frag} {Hb Hb' H : Hp} {γ : Gh} (k : ∀ p, Hb p = none → Hb' p = none) : ∀ {vs : List V} {as : Sls}, RepSls K Hb H γ vs as → RepSls K Hb' H γ vs as
  | _, _, .nil => .nil
  | _, _, .cons r t d => .cons (r.base k) (t.base k) d
theorem RepSls.fresh {K : PySem.W.Frag} {Hb H : Hp} {γ : Gh} : ∀ {vs : List V} {as : Sls}, RepSls K Hb H γ vs as → ∀ (j : Nat) (w : V) (b : Sl) (p : Addr), vs[j]? = some w → as[j]? = some b → ownAd w b = some p → Hb p = none
  | _, _, .nil, j, w, b, p, h, _, _ => by simp at h
  | _, _, .cons (v := v) (a := a) r t _, 0, w, b, p, h1, h2, h3 => by
    simp at h1 h2
    subst h1; subst h2
    cases r with
    | val r => cases v <;> simp [ownAd] at h3
    | own o od f n => simp [ownAd] at h3; subst h3; exact n
  | _, _, .cons r t _, j + 1, w, b, p, h1, h2, h3 => t.fresh j w b p (by simpa using h1) (by simpa using h2) h3
def mSNil : Env → M Sls := fun _ => pure []
def mSVal (a : Env → M D) (r : Env → M Sls) : Env → M Sls := fun ρ => a ρ >>= fun x => r ρ >>= fun xs => pure (.val x :: xs)
def mSLst (a : Env → M (List D)) (r : Env → M Sls) : Env → M Sls := fun ρ => a ρ >>= fun x => r ρ >>= fun xs => pure (.own (.lst x) :: xs)
def mSDic (a : Env → M Dp2) (r : Env → M Sls) : Env → M Sls := fun ρ => a ρ >>= fun x => r ρ >>= fun xs => pure (.own (.dic x) :: xs)
section
variable {X : Cx} {c : Ctx} {H0 : Hp} {EX : XK}
theorem pa_snil : PA X [] (tSl (X.ci H0 EX) mSNil) := pa_nil.weak fun σ H Q q => by
  obtain ⟨γ, ρ, s, r, g⟩ := q
  exact Goes.pure (P := fun as _ H' γ' => ∀ vs, RepSls X.K H H' γ' vs as → Q vs H') g r.g _ .nil
theorem tSl.then {α : Type} {c : CxI} {σ : L2.St} {H : Hp} {γ : Gh} {ρ : Env} {s : DS} {m : Env → M Sls} {f : Sls → M α} {P : α → DS → Hp → Gh → Prop} (r : SR c.K c.H0 σ H γ ρ s) (h : Goes c.K c.mg c.EX γ H ((m ρ >>= f) s) P) {Q : List V → Hp → Prop}
    (k : ∀ vs as s1 H1 γ1, SR c.K c.H0 σ H1 γ1 ρ s1 → Step γ H γ1 H1 → RepSls c.K H H1 γ1 vs as → Goes c.K c.mg c.EX γ1 H1 (f as s1) P → Q vs H1) : tSl c m σ H Q :=
  ⟨γ, ρ, s, r, h.bind.imp fun d s1 H1 γ1 x g q vs hv => k vs d s1 H1 γ1 (r.step x g) x hv q⟩
theorem tSl.thenS {c : CxI} {σ : L2.St} {H : Hp} {γ γ0 : Gh} {ρ : Env} {s : DS} {N : Ends} {m : Env → M Sls} {f : Sls → M O} (r : SR c.K c.H0 σ H γ ρ s) (x0 : Step γ0 c.H0 γ H) (h : GoS c γ0 γ N ((m ρ >>= f) s)) {Q : List V → Hp → Prop}
    (k : ∀ vs as s1 H1 γ1, SR c.K c.H0 σ H1 γ1 ρ s1 → Step γ0 c.H0 γ1 H1 → GLe γ γ1 → RepSls c.K H H1 γ1 vs as → GoS c γ0 γ1 N (f as s1) → Q vs H1) : tSl c m σ H Q :=
  ⟨γ, ρ, s, r, h.split x0 fun d s1 H1 γ1 x g q vs hv => k vs d s1 H1 γ1 (r.step x g) (x0.trans x) x.g hv q⟩
theorem none_back {H H1 : Hp} {γ γ1 : Gh} (x : Step γ H γ1 H1) : ∀ p, H1 p = none → H p = none := fun p h => Classical.byContradiction fun w => x.dom p w h
theorem pa_sval {e : Expr} {es : List Expr} {me : Env → M D} {ms : Env → M Sls} (he : PE X e (tE (X.ci H0 EX) me)) (hs : PA X es (tSl (X.ci H0 EX) ms)) (hn : isStar e = false) : PA X (e :: es) (tSl (X.ci H0 EX) (mSVal me ms)) := by
  refine (pa_cons he hs (star_no hn)).weak fun σ H Q q => ?_
  obtain ⟨γ, ρ, s, r, g⟩ := q
  refine tE.then (c := X.ci H0 EX) r g fun v d s1 H1 γ1 r1 x1 hv g1 => tSl.then (c := X.ci H0 EX) r1 g1 fun vs as s2 H2 γ2 r2 x2 hvs g2 => ?_
  exact Goes.pure (P := fun as _ H' γ' => ∀ vs, RepSls X.K H H' γ' vs as → Q vs H') g2 r2.g _ (.cons (.val (hv.le x2.g)) (hvs.base (none_back x1)) fun p h => by cases v <;> simp [ownAd] at h)
theorem own_apart {K : PySem.W.Frag} {H1 H2 : Hp} {γ2 : Gh} {p : Addr} {d : D} {vs : List V} {as : Sls} (h1 : H1 p ≠ none) (hvs : RepSls K H1 H2 γ2 vs as) : ∀ q, ownAd (.ref p) (.own d) = some q → ∀ (j : Nat) (w : V) (b : Sl), vs[j]? = some w → as[j]? = some b → ownAd w b ≠ some q := fun q hq j w b k1 k2 k3 => by
  simp [ownAd] at hq
  subst hq
  exact h1 (hvs.fresh j w b p k1 k2 k3)
theorem pa_slst {e : Expr} {es : List Expr} {me : Env → M (List D)} {ms : Env → M Sls} (he : PE X e (tF (X.ci H0 EX) me)) (hs : PA X es (tSl (X.ci H0 EX) ms)) (hn : isStar e = false) : PA X (e :: es) (tSl (X.ci H0 EX) (mSLst me ms)) := by
  refine (pa_cons he hs (star_no hn)).weak fun σ H Q q => ?_
  obtain ⟨γ, ρ, s, r, g⟩ := q
  refine tF.then (c := X.ci H0 EX) r g fun p us d s1 H1 γ1 r1 x1 h1 h2 h3 h4 h5 g1 => tSl.then (c := X.ci H0 EX) r1 g1 fun vs as s2 H2 γ2 r2 x2 hvs g2 => ?_
  have o : RepSl X.K H H1 γ1 (.ref p) (.own (.lst d)) := .own (.lst h1 h2) h5 h3 h4
  exact Goes.pure (P := fun as _ H' γ' => ∀ vs, RepSls X.K H H' γ' vs as → Q vs H') g2 r2.g _ (.cons (o.step x2) (hvs.base (none_back x1)) (own_apart (by rw [h1]; exact Option.some_ne_none _) hvs))
theorem pa_sdic {e : Expr} {es : List Expr} {me : Env → M Dp2} {ms : Env → M Sls} (he : PE X e (tD (X.ci H0 EX) me)) (hs : PA X es (tSl (X.ci H0 EX) ms)) (hn : isStar e = false) : PA X (e :: es) (tSl (X.ci H0 EX) (mSDic me ms)) := by
  refine (pa_cons he hs (star_no hn)).weak fun σ H Q q => ?_
  obtain ⟨γ, ρ, s, r, g⟩ := q
  refine tD.then (c := X.ci H0 EX) r g fun p us d s1 H1 γ1 r1 x1 h1 h2 h3 h4 h5 g1 => tSl.then (c := X.ci H0 EX) r1 g1 fun vs as s2 H2 γ2 r2 x2 hvs g2 => ?_
  have o : RepSl X.K H H1 γ1 (.ref p) (.own (.dic d)) := .own (.dic h1 h2) h5 h3 h4
  exact Goes.pure (P := fun as _ H' γ' => ∀ vs, RepSls X.K H H' γ' vs as → Q vs H') g2 r2.g _ (.cons (o.step x2) (hvs.base (none_back x1)) (own_apart (by rw [h1]; exact Option.some_ne_none _) hvs))
end
/-- a slot stored: it is apart from the others -/
def Apart (σ : L2.St) (ρ : Env) (v : V) (a : Sl) : Prop := ∀ p, ownAd v a = some p → ∀ (j : Nat) (e : D), ρ[j]? = some (some (Sl.own e)) → σ[j]? ≠ some (some (V.ref p))
theorem SR.setSl {K : PySem.W.Frag} {H0 Hb H : Hp} {σ : L2.St} {γ : Gh} {ρ : Env} {s : DS} {i : Nat} {v : V} {a : Sl} (r : SR K H0 σ H γ ρ s) (h : RepSl K Hb H γ v a) (hb : ∀ p, Hb p = none → H0 p = none) (hi : i < ρ.length) (ap : Apart σ ρ v a) : SR K H0 (σ.set i (some v)) H γ (ρ.set i (some a)) s := by
  cases h with
  | val hv => exact r.setVal hv hi
  | own o od f n => exact r.setOwn o od (hb _ n) f hi fun j e _ hj => ap _ rfl j e hj
theorem Apart.base {K : PySem.W.Frag} {H0 Hb : Hp} {H1 H : Hp} {σ : L2.St} {γ γ1 : Gh} {ρ : Env} {s s1 : DS} {v : V} {a : Sl} (r : SR K H0 σ Hb γ ρ s) (h : RepSl K Hb H1 γ1 v a) : Apart σ ρ v a := fun p hp j e hj hσ => by
  cases h with
  | val _ => cases v <;> simp [ownAd] at hp
  | own o od f n =>
    simp [ownAd] at hp
    subst hp
    obtain ⟨q, k1, k2, _⟩ := r.own j e hj
    rw [hσ] at k1; cases k1
    exact k2.some n
theorem Apart.set {σ : L2.St} {ρ : Env} {v w : V} {a b : Sl} {i : Nat} (h : Apart σ ρ w b) (hi : i < ρ.length) (hl : ρ.length = σ.length) (d : ∀ p, ownAd w b = some p → ownAd v a ≠ some p) : Apart (σ.set i (some v)) (ρ.set i (some a)) w b := fun p hp j e hj hσ => by
  by_cases z : i = j
  · subst z
    rw [List.getElem?_set_self hi] at hj
    rw [List.getElem?_set_self (by omega)] at hσ
    cases hj; cases hσ
    exact d p hp rfl
  · rw [List.getElem?_set_ne z] at hj hσ
    exact h p hp j e hj hσ
def setSs (ρ : Env) : List Nat → Sls → Option Env
  | [], [] => some ρ
  | i :: is, a :: as => if i < ρ.length then setSs (ρ.set i (some a)) is as else none
  | _, _ => none
def mParO (is : List Nat) (m : Env → M Sls) : MS := fun ρ => m ρ >>= fun as => M.opt (setSs ρ is as) >>= fun ρ' => pure (.nx ρ')
section
variable {X : Cx} {c : Ctx} {H0 : Hp} {EX : XK} {γ0 : Gh} {pos : Pos}
theorem ps_dparO2 (T : StX X c) {i j : Nat} {x y : Str} {a b : Expr} {m : Env → M Sls} {px py pt : Pos} {kt k2 pt2} (hi : c.N[i]? = some x) (hj : c.N[j]? = some y) (hij : i ≠ j) (hx : c.sc.names.lookup x = some .local) (hy : c.sc.names.lookup y = some .local)
    (ha : PA X [a, b] (tSl (X.ci H0 EX) m)) (hw : swappedStores [.Tuple [.Name x px, .Name y py] kt pt] (.Tuple [a, b] k2 pt2) X.env = pure (some [x, y])) (hs : swapsWithSole [.Tuple [.Name x px, .Name y py] kt pt] (.Tuple [a, b] k2 pt2) pos.line X.env = pure false) :
    PS X (.Assign [.Tuple [.Name x px, .Name y py] kt pt] (.Tuple [a, b] k2 pt2) pos) (tS (X.ci H0 EX) γ0 (mParO [i, j] m)) := by
  refine (ps_par T.calm (by rw [T.hN]; exact T.nd) (by rw [T.hN]; exact hi) (by rw [T.hN]; exact hj) hij (by rw [T.hs]; exact hx) (by rw [T.hs]; exact hy) ha hw hs).weak fun N σ H q => ?_
  obtain ⟨γ, ρ, s, r, x, h⟩ := q
  refine tSl.thenS (c := X.ci H0 EX) r x h fun vs as s1 H1 γ1 r1 x1 _ hv g1 => ?_
  have hb : ∀ p, H p = none → H0 p = none := none_back x
  cases hv with
  | nil => exact (gos_stop (s := s1) g1).elim
  | cons h1 hv d1 =>
    cases hv with
    | nil =>
      simp only [setSs] at g1
      split at g1 <;> exact (gos_stop (s := s1) g1).elim
    | cons h2 hv d2 =>
      cases hv with
      | cons _ _ _ =>
        simp only [setSs] at g1
        split at g1
        · split at g1 <;> exact (gos_stop (s := s1) g1).elim
        · exact (gos_stop (s := s1) g1).elim
      | nil =>
        rename_i v a w b
        simp only [setSs] at g1
        by_cases l1 : i < ρ.length
        · by_cases l2 : j < ρ.length
          · rw [if_pos l1, if_pos (by simpa using l2)] at g1
            have r2 := r1.setSl h1 hb l1 (Apart.base (H := H1) (s1 := s1) r h1)
            have ap2 : Apart (σ.set i (some v)) (ρ.set i (some a)) w b := (Apart.base (H := H1) (s1 := s1) r h2).set l1 r.len fun p hp h3 => d1 p h3 0 w b rfl rfl hp
            exact ⟨_, _, rfl, GoS.nx (c := X.ci H0 EX) g1 (r2.setSl h2 hb (by simpa using l2) ap2) x1⟩
          · rw [if_pos l1, if_neg (by simpa using l2)] at g1
            exact (gos_stop (s := s1) g1).elim
        · rw [if_neg l1] at g1
          exact (gos_stop (s := s1) g1).elim
theorem ps_dparO3 (T : StX X c) {i j l : Nat} {x y z : Str} {a b e : Expr} {m : Env → M Sls} {px py pz pt : Pos} {kt k2 pt2} (hi : c.N[i]? = some x) (hj : c.N[j]? = some y) (hl : c.N[l]? = some z) (hij : i ≠ j) (hil : i ≠ l) (hjl : j ≠ l)
    (hx : c.sc.names.lookup x = some .local) (hy : c.sc.names.lookup y = some .local) (hz : c.sc.names.lookup z = some .local)
    (ha : PA X [a, b, e] (tSl (X.ci H0 EX) m)) (hw : swappedStores [.Tuple [.Name x px, .Name y py, .Name z pz] kt pt] (.Tuple [a, b, e] k2 pt2) X.env = pure (some [x, y, z])) (hs : swapsWithSole [.Tuple [.Name x px, .Name y py, .Name z pz] kt pt] (.Tuple [a, b, e] k2 pt2) pos.line X.env = pure false) :
    PS X (.Assign [.Tuple [.Name x px, .Name y py, .Name z pz] kt pt] (.Tuple [a, b, e] k2 pt2) pos) (tS (X.ci H0 EX) γ0 (mParO [i, j, l] m)) := by
  refine (ps_par3 T.calm (by rw [T.hN]; exact T.nd) (by rw [T.hN]; exact hi) (by rw [T.hN]; exact hj) (by rw [T.hN]; exact hl) hij hil hjl (by rw [T.hs]; exact hx) (by rw [T.hs]; exact hy) (by rw [T.hs]; exact hz) ha hw hs).weak fun N σ H q => ?_
  obtain ⟨γ, ρ, s, r, x, h⟩ := q
  refine tSl.thenS (c := X.ci H0 EX) r x h fun vs as s1 H1 γ1 r1 x1 _ hv g1 => ?_
  have hb : ∀ p, H p = none → H0 p = none := none_back x
  have stop : ∀ {o : Option Env}, o = none → GoS (X.ci H0 EX) γ0 γ1 N ((M.opt o >>= fun ρ' => pure (O.nx ρ')) s1) → False := fun e g => by
    subst e
    exact gos_stop (s := s1) g
  cases hv with
  | nil => exact (stop rfl g1).elim
  | cons h1 hv d1 =>
    cases hv with
    | nil =>
      refine (stop ?_ g1).elim
      simp [setSs]
    | cons h2 hv d2 =>
      cases hv with
      | nil =>
        refine (stop ?_ g1).elim
        simp [setSs]
      | cons h3 hv d3 =>
        cases hv with
        | cons _ _ _ =>
          refine (stop ?_ g1).elim
          simp [setSs]
        | nil =>
          rename_i v a w b u e
          by_cases l1 : i < ρ.length
          · by_cases l2 : j < ρ.length
            · by_cases l3 : l < ρ.length
              · have es : setSs ρ [i, j, l] [a, b, e] = some (((ρ.set i (some a)).set j (some b)).set l (some e)) := by simp [setSs, l1, l2, l3]
                have g1 : GoS (X.ci H0 EX) γ0 γ1 N ((M.opt (setSs ρ [i, j, l] [a, b, e]) >>= fun ρ' => pure (O.nx ρ')) s1) := g1
                rw [es] at g1
                have r2 := r1.setSl h1 hb l1 (Apart.base (H := H1) (s1 := s1) r h1)
                have ap2 : Apart (σ.set i (some v)) (ρ.set i (some a)) w b := (Apart.base (H := H1) (s1 := s1) r h2).set l1 r.len fun p hp h3 => d1 p h3 0 w b rfl rfl hp
                have r3 := r2.setSl h2 hb (by simpa using l2) ap2
                have ap3 : Apart ((σ.set i (some v)).set j (some w)) ((ρ.set i (some a)).set j (some b)) u e := ((Apart.base (H := H1) (s1 := s1) r h3).set l1 r.len fun p hp h4 => d1 p h4 1 u e rfl rfl hp).set (by simpa using l2) r2.len fun p hp h4 => d2 p h4 0 u e rfl rfl hp
                exact ⟨_, _, _, rfl, GoS.nx (c := X.ci H0 EX) g1 (r3.setSl h3 hb (by simpa using l3) ap3) x1⟩
              · refine (stop ?_ g1).elim
                simp [setSs, l3]
            · refine (stop ?_ g1).elim
              simp [setSs, l2]
          · refine (stop ?_ g1).elim
            simp [setSs, l1]
end
end RS

namespace RS
open PySem PySem.Spec PyProof.Rows L2

/-! ### readings that take from an own list -/
def GoX {α : Type} (c : CxI) (σ : L2.St) (γ0 γ : Gh) (r : R (α × Env)) (P : α → Env → DS → Hp → Gh → Prop) : Prop := match r with
  | .ok (a, ρ') s' => ∀ H' γ', GLe γ γ' → SR c.K c.H0 σ H' γ' ρ' s' → Step γ0 c.H0 γ' H' → P a ρ' s' H' γ'
  | .exc cl x s' => Flies c.K c.mg γ0 c.H0 c.EX cl x s'
  | .stuck => False
def tX (c : CxI) (γ0 : Gh) (m : Env → M (D × Env)) : TE := fun σ H Q => ∃ γ ρ s, SR c.K c.H0 σ H γ ρ s ∧ Step γ0 c.H0 γ H ∧ GoX c σ γ0 γ (m ρ s) fun d _ _ H' γ' => ∀ v, Rep c.K γ' v d → Q v H'
def tXs (c : CxI) (γ0 : Gh) (m : Env → M (List D × Env)) : TA := fun σ H Q => ∃ γ ρ s, SR c.K c.H0 σ H γ ρ s ∧ Step γ0 c.H0 γ H ∧ GoX c σ γ0 γ (m ρ s) fun d _ _ H' γ' => ∀ v, RepAll c.K γ' v d → Q v H'
section
variable {c : CxI} {σ : L2.St} {H : Hp} {γ γ0 : Gh} {ρ : Env} {s : DS} {N : Ends}
theorem GoX.mono {α : Type} {γ' : Gh} {r : R (α × Env)} {P : α → Env → DS → Hp → Gh → Prop} (h : GoX c σ γ0 γ r P) (g : GLe γ γ') : GoX c σ γ0 γ' r P := by
  cases r with
  | ok a s => exact fun H' γ2 l r x => h H' γ2 (g.trans l) r x
  | exc => exact h
  | stuck => exact h
theorem GoX.bind {α β : Type} {m : M (α × Env)} {f : α × Env → M (β × Env)} {P : β → Env → DS → Hp → Gh → Prop} (h : GoX c σ γ0 γ ((m >>= f) s) P) : GoX c σ γ0 γ (m s) fun a ρ' s' H' γ' => SR c.K c.H0 σ H' γ' ρ' s' ∧ Step γ0 c.H0 γ' H' ∧ GLe γ γ' ∧ GoX c σ γ0 γ' (f (a, ρ') s') P := by
  cases e : m s with
  | ok a s' =>
    rw [bnd_ok e] at h
    exact fun H' γ' g r x => ⟨r, x, g, h.mono g⟩
  | exc cl x s' =>
    rw [bnd_exc e] at h
    exact h
  | stuck => rw [bnd_stuck e] at h; exact h.elim
theorem GoX.imp {α : Type} {r : R (α × Env)} {P P' : α → Env → DS → Hp → Gh → Prop} (h : GoX c σ γ0 γ r P) (k : ∀ a ρ s H γ, P a ρ s H γ → P' a ρ s H γ) : GoX c σ γ0 γ r P' := by
  cases r with
  | ok a s => exact fun H' γ2 l r x => k _ _ _ _ _ (h H' γ2 l r x)
  | exc => exact h
  | stuck => exact h
theorem GoS.bindX {α : Type} {m : M (α × Env)} {f : α × Env → M O} (h : GoS c γ0 γ N ((m >>= f) s)) : GoX c σ γ0 γ (m s) fun a ρ' s' H' γ' => SR c.K c.H0 σ H' γ' ρ' s' ∧ Step γ0 c.H0 γ' H' ∧ GLe γ γ' ∧ GoS c γ0 γ' N (f (a, ρ') s') := by
  cases e : m s with
  | ok a s' =>
    rw [bnd_ok e] at h
    exact fun H' γ' g r x => ⟨r, x, g, h.mono g⟩
  | exc cl x s' =>
    rw [bnd_exc e] at h
    exact h
  | stuck => rw [bnd_stuck e] at h; exact h.elim
theorem GoX.ret {α : Type} {a : α} {P : α → Env → DS → Hp → Gh → Prop} (h : GoX c σ γ0 γ ((pure (a, ρ) : M (α × Env)) s) P) (r : SR c.K c.H0 σ H γ ρ s) (x : Step γ0 c.H0 γ H) : P a ρ s H γ :=
  (show ∀ H' γ', GLe γ γ' → SR c.K c.H0 σ H' γ' ρ s → Step γ0 c.H0 γ' H' → P a ρ s H' γ' from h) H γ (GLe.refl _) r x
theorem GoX.optE {α β : Type} {o : Option α} {f : α → M (β × Env)} {P : β → Env → DS → Hp → Gh → Prop} (h : GoX c σ γ0 γ ((M.opt o >>= f) s) P) : ∃ a, o = some a ∧ GoX c σ γ0 γ (f a s) P := by
  cases o with
  | none => exact h.elim
  | some a => exact ⟨a, rfl, h⟩
/-- the end of a plain reading -/
theorem GoX.fin {α β : Type} {m : M α} {f : α → M (β × Env)} {P : β → Env → DS → Hp → Gh → Prop} (h : GoX c σ γ0 γ ((m >>= f) s) P) (r : SR c.K c.H0 σ H γ ρ s) (x : Step γ0 c.H0 γ H) : Goes c.K c.mg c.EX γ H (m s) fun a s' H' γ' => SR c.K c.H0 σ H' γ' ρ s' ∧ Step γ0 c.H0 γ' H' ∧ GLe γ γ' ∧ GoX c σ γ0 γ' (f a s') P := by
  cases e : m s with
  | ok a s' =>
    rw [bnd_ok e] at h
    exact fun H' γ' y g => ⟨r.step y g, x.trans y, y.g, h.mono y.g⟩
  | exc cl z s' =>
    rw [bnd_exc e] at h
    exact Flies.step h x
  | stuck => rw [bnd_stuck e] at h; exact h.elim
theorem tX.then {β : Type} {m : Env → M (D × Env)} {f : D × Env → M (β × Env)} {P : β → Env → DS → Hp → Gh → Prop} (r : SR c.K c.H0 σ H γ ρ s) (x : Step γ0 c.H0 γ H) (h : GoX c σ γ0 γ ((m ρ >>= f) s) P) {Q : VK}
    (k : ∀ v d ρ1 s1 H1 γ1, SR c.K c.H0 σ H1 γ1 ρ1 s1 → Step γ0 c.H0 γ1 H1 → GLe γ γ1 → Rep c.K γ1 v d → GoX c σ γ0 γ1 (f (d, ρ1) s1) P → Q v H1) : tX c γ0 m σ H Q :=
  ⟨γ, ρ, s, r, x, h.bind.imp fun d ρ1 s1 H1 γ1 ⟨r1, x1, l, g1⟩ v hv => k v d ρ1 s1 H1 γ1 r1 x1 l hv g1⟩
theorem tXs.then {β : Type} {m : Env → M (List D × Env)} {f : List D × Env → M (β × Env)} {P : β → Env → DS → Hp → Gh → Prop} (r : SR c.K c.H0 σ H γ ρ s) (x : Step γ0 c.H0 γ H) (h : GoX c σ γ0 γ ((m ρ >>= f) s) P) {Q : List V → Hp → Prop}
    (k : ∀ v d ρ1 s1 H1 γ1, SR c.K c.H0 σ H1 γ1 ρ1 s1 → Step γ0 c.H0 γ1 H1 → GLe γ γ1 → RepAll c.K γ1 v d → GoX c σ γ0 γ1 (f (d, ρ1) s1) P → Q v H1) : tXs c γ0 m σ H Q :=
  ⟨γ, ρ, s, r, x, h.bind.imp fun d ρ1 s1 H1 γ1 ⟨r1, x1, l, g1⟩ v hv => k v d ρ1 s1 H1 γ1 r1 x1 l hv g1⟩
theorem tX.thenS {m : Env → M (D × Env)} {f : D × Env → M O} (r : SR c.K c.H0 σ H γ ρ s) (x : Step γ0 c.H0 γ H) (h : GoS c γ0 γ N ((m ρ >>= f) s)) {Q : VK}
    (k : ∀ v d ρ1 s1 H1 γ1, SR c.K c.H0 σ H1 γ1 ρ1 s1 → Step γ0 c.H0 γ1 H1 → GLe γ γ1 → Rep c.K γ1 v d → GoS c γ0 γ1 N (f (d, ρ1) s1) → Q v H1) : tX c γ0 m σ H Q :=
  ⟨γ, ρ, s, r, x, (GoS.bindX (σ := σ) h).imp fun d ρ1 s1 H1 γ1 ⟨r1, x1, l, g1⟩ v hv => k v d ρ1 s1 H1 γ1 r1 x1 l hv g1⟩
end
theorem RepAll.erase {K : PySem.W.Frag} {γ : Gh} : ∀ {vs : List V} {ds : List D} (n : Nat), RepAll K γ vs ds → RepAll K γ (vs.eraseIdx n) (ds.eraseIdx n)
  | _, _, _, .nil => .nil
  | _, _, 0, .cons _ t => t
  | _, _, n + 1, .cons r t => .cons r (t.erase n)
def mLift (m : Env → M D) : Env → M (D × Env) := fun ρ => m ρ >>= fun d => pure (d, ρ)
/-- x.pop(i) -/
def popD (xs : List D) : D → Option (D × List D)
  | .int k => if -(2 ^ 63) ≤ k ∧ k < 2 ^ 63 then (seqIndex? k xs.length).bind fun j => (xs[j]?).map fun y => (y, xs.eraseIdx j) else none
  | _ => none
theorem popD_of {xs : List D} {d : D} {y : D × List D} (h : popD xs d = some y) : ∃ k j yd, d = .int k ∧ -(2 ^ 63) ≤ k ∧ k < 2 ^ 63 ∧ seqIndex? k xs.length = some j ∧ xs[j]? = some yd ∧ y = (yd, xs.eraseIdx j) := by
  cases d with
  | int k =>
    have h : (if -(2 ^ 63) ≤ k ∧ k < 2 ^ 63 then (seqIndex? k xs.length).bind fun j => (xs[j]?).map fun y => (y, xs.eraseIdx j) else none) = some y := h
    split at h
    · rename_i kb
      obtain ⟨j, e5, e6⟩ := Option.bind_eq_some_iff.mp h
      obtain ⟨yd, e7, e8⟩ := Option.map_eq_some_iff.mp e6
      exact ⟨k, j, yd, rfl, kb.1, kb.2, e5, e7, e8.symm⟩
    · cases h
  | _ => cases h
def mPopX (i : Nat) (m : Env → M (D × Env)) : Env → M (D × Env) := fun ρ => M.opt (ownL ρ i) >>= fun _ => m ρ >>= fun r => M.opt ((ownL r.2 i).bind fun xs => popD xs r.1) >>= fun y => pure (y.1, r.2.set i (some (.own (.lst y.2))))
def mNilX : Env → M (List D × Env) := fun ρ => pure ([], ρ)
def mConsX (a : Env → M (D × Env)) (b : Env → M (List D × Env)) : Env → M (List D × Env) := fun ρ => a ρ >>= fun r => b r.2 >>= fun q => pure (r.1 :: q.1, q.2)
def mCallX (F : List D → M D) (m : Env → M (List D × Env)) : Env → M (D × Env) := fun ρ => m ρ >>= fun r => F r.1 >>= fun d => pure (d, r.2)
def mAppX (i : Nat) (m : Env → M (D × Env)) : MS := fun ρ => M.opt (ownL ρ i) >>= fun _ => m ρ >>= fun r => M.opt (ownL r.2 i) >>= fun xs => if xs.length < lim then pure (.nx (r.2.set i (some (.own (.lst (xs ++ [r.1])))))) else M.stop
def mAsgX (m : Env → M (D × Env)) (g : Tg) : MS := fun ρ => m ρ >>= fun r => M.opt (g r.1 r.2) >>= fun ρ' => pure (.nx ρ')
def mDropX (m : Env → M (D × Env)) : MS := fun ρ => m ρ >>= fun r => pure (.nx r.2)
section
variable {X : Cx} {c : Ctx} {H0 : Hp} {EX : XK} {γ0 : Gh} {pos : Pos}
theorem px_lift {e : Expr} {m : Env → M D} (he : PE X e (tE (X.ci H0 EX) m)) : PE X e (tX (X.ci H0 EX) γ0 (mLift m)) := he.weak fun σ H Q q => by
  obtain ⟨γ, ρ, s, r, x, g⟩ := q
  exact ⟨γ, ρ, s, r, (GoX.fin (c := X.ci H0 EX) g r x).imp fun d s' H' γ' _ _ ⟨r1, x1, _, g1⟩ v hv => GoX.ret (c := X.ci H0 EX) g1 r1 x1 v hv⟩
theorem px_nil : PA X [] (tXs (X.ci H0 EX) γ0 mNilX) := pa_nil.weak fun σ H Q q => by
  obtain ⟨γ, ρ, s, r, x, g⟩ := q
  exact GoX.ret (c := X.ci H0 EX) g r x _ .nil
theorem px_cons {e : Expr} {es : List Expr} {a : Env → M (D × Env)} {b : Env → M (List D × Env)} (he : PE X e (tX (X.ci H0 EX) γ0 a)) (hs : PA X es (tXs (X.ci H0 EX) γ0 b)) (hn : isStar e = false) : PA X (e :: es) (tXs (X.ci H0 EX) γ0 (mConsX a b)) := (pa_cons he hs (star_no hn)).weak fun σ H Q q => by
  obtain ⟨γ, ρ, s, r, x, g⟩ := q
  refine tX.then (c := X.ci H0 EX) r x g fun v d ρ1 s1 H1 γ1 r1 x1 l1 hv g1 => tXs.then (c := X.ci H0 EX) r1 x1 g1 fun vs ds ρ2 s2 H2 γ2 r2 x2 l2 hvs g2 => ?_
  exact GoX.ret (c := X.ci H0 EX) g2 r2 x2 _ (.cons (hv.le l2) hvs)
theorem px_pop (T : StX X c) {i : Nat} {x : Str} {p ap cp : Pos} {e : Expr} {m : Env → M (D × Env)} (hi : c.N[i]? = some x) (hv : visB c.sc x = true) (ho : okName x = true) (hl : (ap.endLine == cp.line) = true) (hn : isStar e = false) (he : PE X e (tX (X.ci H0 EX) γ0 m)) :
    PE X (.Call (.Attribute (.Name x p) "pop" ap) [e] [] cp) (tX (X.ci H0 EX) γ0 (mPopX i m)) := by
  obtain ⟨h1, h2, _⟩ := okName_of ho
  refine (pe_bm F.plainAttrs_list F.slot_list_pop F.type_list_pop mt_popAt (pe_var (i := i) (by rw [T.hN]; exact hi) (by rw [T.hs]; exact vis_of hv) h1 h2) (pa1 he hn) rfl (few1 hn) hl (star_no hn) rfl).weak fun σ H Q q => ?_
  obtain ⟨γ, ρ, s, r, x0, g⟩ := q
  obtain ⟨d, e1, g⟩ := g.optE
  obtain ⟨q, vs, k1, k2, k3, k4⟩ := own_at r e1
  refine ⟨.ref q, k1, .inl ⟨rfl, _, SqL.of k2⟩, ?_⟩
  refine tX.then (c := X.ci H0 EX) r x0 g fun v dv ρ1 s1 H1 γ1 r1 x1 l1 hdv g1 => ?_
  obtain ⟨y, e2, g1⟩ := g1.optE
  obtain ⟨xs, e3, e4⟩ := Option.bind_eq_some_iff.mp e2
  obtain ⟨q', vs', m1, m2, m3, m4⟩ := own_at r1 e3
  rw [k1] at m1; cases m1
  obtain ⟨k, j, yd, ed, kb1, kb2, e5, e7, rfl⟩ := popD_of e4
  have hdv : Rep X.K γ1 v (.int k) := by
    have : dv = .int k := ed
    exact this ▸ hdv
  cases hdv
  obtain ⟨w, w1, w2⟩ := m3.get e7
  refine ⟨q, vs', k, j, w, rfl, rfl, m2, kb1, kb2, by rw [m3.length]; exact e5, w1, ?_⟩
  exact GoX.ret (c := X.ci H0 EX) g1 (r1.ownW (ownL_of e3) k1 (.lst upd_same (m3.erase j))) (x1.ownW m4) w w2
theorem px_call (T : StX X c) {x : Str} {p : Pos} {ps : List Str} {F : List D → M D} (A : FnAt X x ps F) (hx : Passes (L2.CX X.prog X.w) X EX) {e : Expr} {es : List Expr} {m : Env → M (List D × Env)} (hg : c.sc.names.lookup x = gB) (ho : okName x = true) (hn : noStars (e :: es) = true) (nd : ps.Nodup) (ha : PA X (e :: es) (tXs (X.ci H0 EX) γ0 m)) :
    PE X (.Call (.Name x p) (e :: es) [] pos) (tX (X.ci H0 EX) γ0 (mCallX (lenG ps.length F) m)) := by
  obtain ⟨k, f, fd, G, hr, hm, hk, hP⟩ := A.ex
  refine ⟨fun pins s σ H Q I q => ?_⟩
  obtain ⟨n1, n2⟩ := Bool.and_eq_true_iff.mp (show ((!isStar e) && noStars es) = true from hn)
  refine wpAny_Call_Name_kw (ld_glob I (kind_of T hg) hm ?_ (okName_of ho).1)
  have q' : tXs (X.ci H0 EX) γ0 m σ H fun vs H1 => vs.length = ps.length ∧ spD X.K X.mg ps.length F vs H1 Q EX := by
    obtain ⟨γ, ρ, sd, r, x0, g⟩ := q
    refine tXs.then (c := X.ci H0 EX) r x0 g fun vs ds ρ1 s1 H1 γ1 r1 x1 l1 hv g1 => ?_
    have g2 := GoX.fin (c := X.ci H0 EX) g1 r1 x1
    by_cases hl : ds.length = ps.length
    · refine ⟨hv.length.trans hl, γ1, s1, ds, r1.g, hv, hl, ?_⟩
      have e : lenG ps.length F ds s1 = F ds s1 := by
        unfold lenG
        rw [if_pos hl]
      rw [← e]
      exact g2.imp fun d s' H' γ' _ _ ⟨r2, x2, _, g3⟩ v hv => GoX.ret (c := X.ci H0 EX) g3 r2 x2 v hv
    · have e : lenG ps.length F ds s1 = (M.stop : M D) s1 := by
        unfold lenG
        rw [if_neg hl]
      rw [e] at g2
      exact g2.elim
  refine PySem.W.callWith_K (h₀ := X.base) I.ok.mod.kin hk (thn (ha.run pos pins s σ H _ I q') fun us s1 ⟨vs, H1, I1, r, hl, sp⟩ => ⟨I1.kIn, ?_⟩) (star_no (by simpa using n1)) (stars_no n2)
  have hu : us.length = ps.length := r.length.symm.trans hl
  have b : bindC ps ps.length [] = true := by
    unfold bindC
    simp [nd]
  have b2 := bind_ok hP b hu (ws := []) rfl
  rw [ordV_pos nd hu] at b2
  exact G.call hr T.guards hx I1 (b2.1 _ I1.kIn) r sp
theorem ps_dappX (T : StX X c) {i : Nat} {x : Str} {p ap cp pos : Pos} {e : Expr} {m : Env → M (D × Env)} (hi : c.N[i]? = some x) (hv : visB c.sc x = true) (ho : okName x = true) (hl : (ap.endLine == cp.line) = true) (hn : isStar e = false) (he : PE X e (tX (X.ci H0 EX) γ0 m)) :
    PS X (.Expr (.Call (.Attribute (.Name x p) "append" ap) [e] [] cp) pos) (tS (X.ci H0 EX) γ0 (mAppX i m)) := by
  obtain ⟨h1, h2, _⟩ := okName_of ho
  refine (ps_expr (pe_bm F.plainAttrs_list F.slot_list_append F.type_list_append mt_append (pe_var (i := i) (by rw [T.hN]; exact hi) (by rw [T.hs]; exact vis_of hv) h1 h2) (pa1 he hn) rfl (few1 hn) hl (star_no hn) rfl) rfl).weak fun N σ H q => ?_
  obtain ⟨γ, ρ, s, r, x0, g⟩ := q
  obtain ⟨d, e1, g⟩ := g.optE
  obtain ⟨q, vs, k1, k2, k3, k4⟩ := own_at r e1
  refine ⟨.ref q, k1, .inl ⟨rfl, _, SqL.of k2⟩, ?_⟩
  refine tX.thenS (c := X.ci H0 EX) r x0 g fun v dv ρ1 s1 H1 γ1 r1 x1 l1 hdv g1 => ?_
  obtain ⟨xs, e3, g1⟩ := g1.optE
  obtain ⟨hlt, g1⟩ := g1.guard
  obtain ⟨q', vs', m1, m2, m3, m4⟩ := own_at r1 e3
  rw [k1] at m1; cases m1
  refine ⟨q, vs', v, rfl, rfl, m2, by rw [m3.length, ← lim_eq]; exact hlt, ?_⟩
  exact GoS.nx (c := X.ci H0 EX) g1 (r1.ownW (ownL_of e3) k1 (.lst upd_same (m3.append (.cons hdv .nil)))) (x1.ownW m4)
theorem asg_rdX {m : Env → M (D × Env)} {is : List Nat} {g : Tg} {N : Ends} {σ : L2.St} {H : Hp} (q : tS (X.ci H0 EX) γ0 (mAsgX m g) N σ H) : tAsg (tX (X.ci H0 EX) γ0 m) (tG (X.ci H0 EX) is g) N σ H := by
  obtain ⟨γ, ρ, s, r, x, h⟩ := q
  refine tX.thenS (c := X.ci H0 EX) r x h fun v d ρ1 s1 H1 γ1 r1 x1 _ hv g1 => ?_
  obtain ⟨ρ', e1, g2⟩ := g1.optE
  exact ⟨γ1, ρ1, s1, d, ρ', r1, hv, e1, fun σ' _ _ r2 => GoS.nx (c := X.ci H0 EX) g2 r2 x1⟩
theorem ps_dasgX {tg e : Expr} {m : Env → M (D × Env)} {is : List Nat} {g : Tg} (he : PE X e (tX (X.ci H0 EX) γ0 m)) (hg : PG X tg (tG (X.ci H0 EX) is g)) (hs : swapsWithSole [tg] e pos.line X.env = pure false) (hw : swappedStores [tg] e X.env = pure none)
    (h1 : (assignEach [tg] X.env).map (·.2) = [assign tg X.env]) : PS X (.Assign [tg] e pos) (tS (X.ci H0 EX) γ0 (mAsgX m g)) := (ps_asg he hg hs hw h1).weak fun N σ H q => asg_rdX q
theorem ps_dropX {e : Expr} {m : Env → M (D × Env)} (he : PE X e (tX (X.ci H0 EX) γ0 m)) (hs : swapsWith e none pos.line X.env = pure false) : PS X (.Expr e pos) (tS (X.ci H0 EX) γ0 (mDropX m)) := (ps_expr he hs).weak fun N σ H q => by
  obtain ⟨γ, ρ, s, r, x, h⟩ := q
  exact tX.thenS (c := X.ci H0 EX) r x h fun v d ρ1 s1 H1 γ1 r1 x1 _ hv g1 => GoS.nx (c := X.ci H0 EX) g1 r1 x1
end
end RS

namespace RS
open PySem PySem.Spec PyProof.Rows L2

/-! ### own slots where the tuple is built first -/
theorem RepSls.step {K : PySem.W.Frag} {Hb H H' : Hp} {γ γ' : Gh} (x : Step γ H γ' H') : ∀ {vs : List V} {as : Sls}, RepSls K Hb H γ vs as → RepSls K Hb H' γ' vs as
  | _, _, .nil => .nil
  | _, _, .cons r t d => .cons (r.step x) (t.step x) d
section
variable {X : Cx} {c : Ctx} {H0 : Hp} {EX : XK} {γ0 : Gh} {pos : Pos}
theorem ps_dparT2 (T : StX X c) {i j : Nat} {x y : Str} {a b : Expr} {m : Env → M Sls} {px py pt : Pos} {kt k2 pt2} (hi : c.N[i]? = some x) (hj : c.N[j]? = some y) (hij : i ≠ j) (hx : stoB c x = true) (hy : stoB c y = true)
    (ha : PA X [a, b] (tSl (X.ci H0 EX) m)) (hw : swappedStores [.Tuple [.Name x px, .Name y py] kt pt] (.Tuple [a, b] k2 pt2) X.env = pure none) (hs : swapsWithSole [.Tuple [.Name x px, .Name y py] kt pt] (.Tuple [a, b] k2 pt2) pos.line X.env = pure false) :
    PS X (.Assign [.Tuple [.Name x px, .Name y py] kt pt] (.Tuple [a, b] k2 pt2) pos) (tS (X.ci H0 EX) γ0 (mParO [i, j] m)) := by
  obtain ⟨lx, fx⟩ := T.stores hx
  obtain ⟨ly, fy⟩ := T.stores hy
  refine (ps_asg (pe_tup ha) (pg_tup (n := 2) T.calm (pgs_cons (pg_name (by rw [T.hN]; exact T.nd) (by rw [T.hN]; exact hi) lx fx) (pgs_cons (pg_name (by rw [T.hN]; exact T.nd) (by rw [T.hN]; exact hj) ly fy) pgs_nil))) hs hw rfl).weak fun N σ H q => ?_
  obtain ⟨γ, ρ, s, r, x, h⟩ := q
  refine tSl.thenS (c := X.ci H0 EX) r x h fun vs as s1 H1 γ1 r1' x1' _ hv' g1' => ?_
  have hb : ∀ p, H p = none → H0 p = none := none_back x
  have fin : ∀ {H1 : Hp} {γ1 : Gh}, SR X.K H0 σ H1 γ1 ρ s1 → Step γ0 H0 γ1 H1 → RepSls X.K H H1 γ1 vs as → GoS (X.ci H0 EX) γ0 γ1 N ((M.opt (setSs ρ [i, j] as) >>= fun ρ' => pure (O.nx ρ')) s1) → ∃ v w, vs = [v, w] ∧ N.nx ((σ.set i (some v)).set j (some w)) H1 := fun {H1 γ1} r1 x1 hv g1 => by
    cases hv with
    | nil => exact (gos_stop (s := s1) g1).elim
    | cons h1 hv d1 =>
      cases hv with
      | nil =>
        simp only [setSs] at g1
        split at g1 <;> exact (gos_stop (s := s1) g1).elim
      | cons h2 hv d2 =>
        cases hv with
        | cons _ _ _ =>
          simp only [setSs] at g1
          split at g1
          · split at g1 <;> exact (gos_stop (s := s1) g1).elim
          · exact (gos_stop (s := s1) g1).elim
        | nil =>
          rename_i v a w b
          simp only [setSs] at g1
          by_cases l1 : i < ρ.length
          · by_cases l2 : j < ρ.length
            · rw [if_pos l1, if_pos (by simpa using l2)] at g1
              have r2 := r1.setSl h1 hb l1 (Apart.base (H := H1) (s1 := s1) r h1)
              have ap2 : Apart (σ.set i (some v)) (ρ.set i (some a)) w b := (Apart.base (H := H1) (s1 := s1) r h2).set l1 r.len fun p hp h3 => d1 p h3 0 w b rfl rfl hp
              exact ⟨_, _, rfl, GoS.nx (c := X.ci H0 EX) g1 (r2.setSl h2 hb (by simpa using l2) ap2) x1⟩
            · rw [if_pos l1, if_neg (by simpa using l2)] at g1
              exact (gos_stop (s := s1) g1).elim
          · rw [if_neg l1] at g1
            exact (gos_stop (s := s1) g1).elim
  have x2 := fun p hp => Step.put (o := .tup vs) r1'.g (p := p) hp
  have two : vs.length = 2 := by
    obtain ⟨v, w, e, _⟩ := fin r1' x1' hv' g1'
    rw [e]; rfl
  refine ⟨by rw [two]; decide, fun p hp => ?_⟩
  obtain ⟨g2, y⟩ := x2 p hp
  obtain ⟨v, w, e, z⟩ := fin (r1'.step y g2) (x1'.trans y) (hv'.step y) (g1'.mono y.g)
  exact ⟨p, vs, rfl, SqT.of upd_same, two, v, [w], e, w, [], rfl, rfl, z⟩
end
end RS

namespace RS
open PySem PySem.Spec PyProof.Rows L2 TS

/-! ### tuples of ints sorted, any number of them -/
section
variable {prog : Program} {w : World} {A : Around} {E : Value → Shared → Prop} {s : Shared} {Q : Bool → Shared → Prop}
theorem lex_all {b fin : Bool} : ∀ {xs ys : List Value} {ns ms : List Int} (i : Nat), IntsAre xs ns → IntsAre ys ms → fin = decide (ns.length < ms.length) → Q (HT.lexLt ns ms) s → PySem.W.KatLex prog w A b fin Q (xs.zip ys) i s
  | _, _, _, _, i, .nil, .nil, e, h => by
    have e : fin = false := e
    rw [e]; exact PySem.W.kat_nil h
  | _, _, _, _, i, .nil, .cons q u hy, e, h => by
    have e : fin = true := e.trans (decide_eq_true (by simp))
    rw [e]; exact PySem.W.kat_nil h
  | _, _, _, _, i, .cons q u hy, .nil, e, h => by
    have e : fin = false := e.trans (decide_eq_false (by simp))
    rw [e]; exact PySem.W.kat_nil h
  | _, _, _, _, i, .cons p t hx, .cons q u hy, e, h => by
    show PySem.W.KatLex prog w A b fin Q ((Value.int p t, Value.int q u) :: _) i s
    refine PySem.W.kat_cons (wpAny_eqBool_int ?_)
    rw [HT.lexLt_cons] at h
    by_cases z : p = q
    · subst z
      rw [beq_self_eq_true]
      rw [if_pos rfl] at h
      exact PySem.W.kat_yes (lex_all (i + 1) hx hy (e.trans (decide_eq_decide.mpr (by simp))) h)
    · rw [show (p == q) = false from beq_eq_false_iff_ne.mpr z]
      rw [if_neg z] at h
      exact PySem.W.kat_no (oneLt_ints _ h)
theorem tups_cmp {vs : List Value} {k : Value → List Int} (hp : ∀ v ∈ vs, TupInts s.heap v (k v)) : SrtO.Cmp prog w A s (tuples' true) (fun p => p.1 ∈ vs) (SrtO.lt2 fun v u => HT.lexLt (k v) (k u)) := by
  intro p q hm hm'
  have h1 := hp _ hm
  have h2 := hp _ hm'
  show wpAny (model prog w) A (keyLt' (tuples' true) p.1 q.1) (fun r s' => s' = s ∧ r = HT.lexLt (k p.1) (k q.1)) (fun _ _ => False) s
  generalize k p.1 = x at h1 ⊢
  generalize k q.1 = y at h2 ⊢
  obtain ⟨a, xs, e, ⟨o, ho, hc, n, hd⟩, i⟩ := h1
  obtain ⟨a', xs', e', ⟨o', ho', hc', n', hd'⟩, i'⟩ := h2
  rw [e, e']
  refine PySem.W.kat_lt ho hd ho' hd' (lex_all 0 i i' ?_ ⟨rfl, rfl⟩)
  have l1 : xs.size = x.length := by rw [← i.length]; simp
  have l2 : xs'.size = y.length := by rw [← i'.length]; simp
  rw [l1, l2]
theorem heads_of {h : Heap} {k : Value → List Int} : ∀ {vs : List Value}, (∀ v ∈ vs, TupInts h v (k v) ∧ k v ≠ []) → ∃ fs : List Value, PySem.W.KatTups h vs fs ∧ fs.length = vs.length ∧ ∀ f ∈ fs, ∃ x t, f = Value.int x t
  | [], _ => ⟨[], PySem.W.KatTups.nil, rfl, fun _ hm => by simp at hm⟩
  | v :: vs, hp => by
    obtain ⟨fs, h1, h2, h3⟩ := heads_of (vs := vs) fun v' hm => hp v' (List.mem_cons_of_mem _ hm)
    obtain ⟨⟨a, xs, e, ⟨o, ho, hc, n, hd⟩, i⟩, hne⟩ := hp v List.mem_cons_self
    subst e
    generalize k (Value.ref a) = ns at i hne
    have hf : ∃ x t, xs[0]? = some (Value.int x t) := by
      have e0 : xs[0]? = xs.toList[0]? := by simp
      rw [e0]
      generalize xs.toList = l at i
      cases i with
      | nil => exact absurd rfl hne
      | cons p t hx => exact ⟨p, t, rfl⟩
    obtain ⟨x, t, hf⟩ := hf
    refine ⟨.int x t :: fs, PySem.W.KatTups.cons ho hc hd hf h1, by rw [List.length_cons, List.length_cons, h2], fun f hm => ?_⟩
    rcases List.mem_cons.mp hm with rfl | hm
    · exact ⟨x, t, rfl⟩
    · exact h3 f hm
theorem tups_sortable {a : Addr} {vs : List Value} {k : Value → List Int} (h0 : 0 < vs.length) (hp : ∀ v ∈ vs, TupInts s.heap v (k v) ∧ k v ≠ []) (ha : ∀ o, s.heap.get? a = some o → o.cls ≠ .type "tuple") : SrtO.SortableO prog w A s a vs fun v u => HT.lexLt (k v) (k u) := by
  intro h' keep
  have hp' : ∀ v ∈ vs, TupInts h' v (k v) ∧ k v ≠ [] := fun v hm => ⟨(hp v hm).1.keeps fun b o e c => keep b o (fun z => by subst z; exact ha o e c) e, (hp v hm).2⟩
  obtain ⟨fs, h1, h2, h3⟩ := heads_of hp'
  refine ⟨tuples' true, fun Q E hq => ?_, tups_cmp fun v hm => (hp' v hm).1⟩
  refine PySem.W.kat_kind (T := .type "int") h1 (by omega) (fun f hm => ?_) (by rfl) ?_
  · obtain ⟨x, t, rfl⟩ := h3 f hm
    exact PySem.W.Looks.now
  · have e : (Value.type "int" != Value.type "tuple") = true := by first | decide +kernel | rfl | decide
    rw [e]
    exact hq
end
/-- rows of ints: their V's, what they hold -/
def RowsV (K : PySem.W.Frag) (H : Hp) (k : V → List Int) (xs : List V) : Prop := ∀ x ∈ xs, ∃ t, x = V.ref t ∧ SqT K H t ((k x).map V.int) ∧ (2 ≤ xs.length → k x ≠ [])
def rSortRows (K : PySem.W.Frag) : List V → Hp → VK → Prop := fun vs H Q => ∃ (a : Addr) (xs : List V) (k : V → List Int), vs = [V.ref a] ∧ SqL K H a xs ∧ RowsV K H k xs ∧
  ∀ (ys : List V) (p : Addr), ys.Perm xs → ys.Pairwise (fun x y => HT.lexLt (k y) (k x) = false) → H p = none → Q (.ref p) (upd H p (.lst ys))
section
variable {X : Cx} {pins : List (Addr × Obj)} {σ : L2.St} {H : Hp} {s : Shared}
theorem rows_vals {its : List Value} {xs : List V} {k : V → List Int} (I : Inv X pins σ H s) (rv : Vals xs its) (hx : RowsV X.K H k xs) : xs = its.map bkV ∧ (∀ u ∈ its, ∃ a, u = Value.ref a) ∧ ∀ v ∈ its, TupInts s.heap v (k (bkV v)) ∧ (2 ≤ its.length → k (bkV v) ≠ []) := by
  obtain ⟨e1, e2⟩ := bkV_refs rv fun x m => by
    obtain ⟨t, e, _⟩ := hx x m
    exact ⟨t, e⟩
  refine ⟨e1, e2, fun v hv => ?_⟩
  have hm : bkV v ∈ xs := by
    rw [e1]; exact List.mem_map.mpr ⟨_, hv, rfl⟩
  obtain ⟨t, e, ht, hne⟩ := hx _ hm
  obtain ⟨t', rfl⟩ := e2 v hv
  cases e
  exact ⟨tupI_raw I ht, fun h => hne (by rw [e1, List.length_map]; exact h)⟩
theorem tups_at {l : Addr} {its : List Value} {kv : Value → List Int} {h₁ : Heap} {a : Addr} (hv : ∀ v ∈ its, TupInts s.heap v (kv v) ∧ (2 ≤ its.length → kv v ≠ [])) (ha : h₁.get? a = some (seqObj "list" its.toArray 0)) (kk : ∀ b o, s.heap.get? b = some o → b ≠ a ∧ h₁.get? b = some o) (h2 : 2 ≤ its.length) {A : Around} :
    SrtO.SortableO X.prog X.w A { s with heap := h₁ } a its fun v u => HT.lexLt (kv v) (kv u) := by
  refine tups_sortable (s := { s with heap := h₁ }) (by omega) (fun v hm => ⟨(hv v hm).1.keeps fun b o e _ => (kk b o e).2, (hv v hm).2 h2⟩) fun o e => ?_
  have e' : some o = some (seqObj "list" its.toArray 0) := e.symm.trans ha
  cases e'
  intro c
  exact absurd (Value.type.inj c) (by decide)
theorem cr_sortRows : CallR X (.builtin "sorted") (rSortRows X.K) := by
  intro pins s σ H vs us Q I r h
  obtain ⟨a, xs, k, rfl, hs, hx, q⟩ := h
  obtain ⟨its, rv, hl, hz⟩ := I.list hs
  rw [Vals.ref1 r]
  obtain ⟨e1, e2, hv⟩ := rows_vals I rv hx
  refine SrtO.sorted_ord (NtL.swo_lexL fun v => k (bkV v)) hl.isList (by rw [← rv.length]; exact hz) (fun h2 h₁ a' ha kk => tups_at (l := a) hv ha kk h2) fun out h1 h2 => ?_
  obtain ⟨ep, he'⟩ := PyProof.Rows.sortedAll_at s.heap its out.toArray
  have hp : (out.map bkV).Perm xs := by rw [e1]; exact h2.perm.map bkV
  have h3 : ∀ u ∈ out, ∃ a, u = Value.ref a := fun u hu => e2 u (h2.perm.mem_iff.mp hu)
  have hlen : (out.map bkV).length ≤ sizeLine := by rw [hp.length_eq]; exact hz
  refine ⟨.ref _, upd H (s.heap.objs.size + 1) (.lst (out.map bkV)), I.laid (t' := s.toks) (fun _ _ => PyProof.Rows.sortedAll_old) (Nat.le_succ _) ⟨hlen, out, ep, bkV_vals h3, he'⟩, rfl, q _ _ hp ?_ (I.hok.fresh (Nat.le_succ _))⟩
  rw [List.pairwise_map]
  exact h1
def rSortRowsR (K : PySem.W.Frag) : List V → List V → Hp → VK → Prop := fun vs zs H Q => zs = [.bl true] ∧ ∃ (a : Addr) (xs : List V) (k : V → List Int), vs = [V.ref a] ∧ SqL K H a xs ∧ RowsV K H k xs ∧
  ∀ (ys : List V) (p : Addr), ys.Perm xs → ys.Pairwise (fun x y => HT.lexLt (k x) (k y) = false) → H p = none → Q (.ref p) (upd H p (.lst ys))
theorem cr_sortRowsR : CallRK X (.builtin "sorted") [Str.ofString "reverse"] (rSortRowsR X.K) := by
  intro pins s σ H vs zs us ws Q I r rz h
  obtain ⟨rfl, a, xs, k, rfl, hs, hx, q⟩ := h
  obtain ⟨its, rv, hl, hz⟩ := I.list hs
  obtain rfl := Vals.ref1 r
  obtain ⟨w1, rfl, e0⟩ := vals1 rz
  obtain rfl : w1 = Value.bool true := e0
  obtain ⟨e1, e2, hv⟩ := rows_vals I rv hx
  refine SrtR.sorted_ordK (b := true) (fun _ => rfl) (PyProof.Rows.args_sorted_rev _ _) (fun _ => PyProof.Rows.args_list_sort_rev _ _) (NtL.swo_lexL fun v => k (bkV v)) hl.isList (by rw [← rv.length]; exact hz) (fun h2 h₁ a' ha kk => tups_at (l := a) hv ha kk h2) fun out h1 h2 => ?_
  obtain ⟨ep, he'⟩ := PyProof.Rows.sortedAll_at s.heap its out.toArray.reverse
  have h2' : out.Perm its := h2.perm.trans (List.reverse_perm _)
  have hp : (out.reverse.map bkV).Perm xs := by rw [e1]; exact ((List.reverse_perm _).trans h2').map bkV
  have h3 : ∀ u ∈ out.reverse, ∃ a, u = Value.ref a := fun u hu => e2 u (h2'.mem_iff.mp (List.mem_reverse.mp hu))
  have hlen : (out.reverse.map bkV).length ≤ sizeLine := by rw [hp.length_eq]; exact hz
  have er : out.reverse.toArray = out.toArray.reverse := by rw [← Array.toList_inj]; simp
  refine ⟨.ref _, upd H (s.heap.objs.size + 1) (.lst (out.reverse.map bkV)), I.laid (t' := s.toks) (fun _ _ => PyProof.Rows.sortedAll_old) (Nat.le_succ _) ⟨hlen, out.reverse, ep, bkV_vals h3, by rw [er]; exact he'⟩, rfl, q _ _ hp ?_ (I.hok.fresh (Nat.le_succ _))⟩
  rw [List.pairwise_map, List.pairwise_reverse]
  exact h1
end
/-! ### the data sorted -/
def insBy {α : Type} (lt : α → α → Bool) (x : α) : List α → List α
  | [] => [x]
  | y :: r => if lt y x then y :: insBy lt x r else x :: y :: r
def sortBy {α : Type} (lt : α → α → Bool) : List α → List α
  | [] => []
  | x :: r => insBy lt x (sortBy lt r)
section
variable {α : Type} {lt : α → α → Bool}
theorem insBy_perm (x : α) : ∀ l : List α, (insBy lt x l).Perm (x :: l)
  | [] => .refl _
  | y :: r => by
    unfold insBy
    split
    · exact ((insBy_perm x r).cons y).trans (.swap ..)
    · exact .refl _
theorem sortBy_perm : ∀ l : List α, (sortBy lt l).Perm l
  | [] => .refl _
  | x :: r => (insBy_perm x _).trans ((sortBy_perm r).cons x)
theorem insBy_sorted (O : SrtO.Swo lt) (x : α) : ∀ {l : List α}, l.Pairwise (fun a b => lt b a = false) → (insBy lt x l).Pairwise (fun a b => lt b a = false)
  | [], _ => List.pairwise_singleton _ _
  | y :: r, h => by
    obtain ⟨h1, h2⟩ := List.pairwise_cons.mp h
    unfold insBy
    split
    · rename_i z
      refine List.pairwise_cons.mpr ⟨fun b hb => ?_, insBy_sorted O x h2⟩
      rcases List.mem_cons.mp ((insBy_perm x r).mem_iff.mp hb) with rfl | hb
      · exact O.asym _ _ z
      · exact h1 b hb
    · rename_i z
      have z : lt y x = false := by simpa using z
      refine List.pairwise_cons.mpr ⟨fun b hb => ?_, h⟩
      rcases List.mem_cons.mp hb with rfl | hb
      · exact z
      · exact O.tr x y b z (h1 b hb)
theorem sortBy_sorted (O : SrtO.Swo lt) : ∀ l : List α, (sortBy lt l).Pairwise (fun a b => lt b a = false)
  | [] => .nil
  | x :: r => insBy_sorted O x (sortBy_sorted O r)
end
theorem lex_total : ∀ xs ys : List Int, HT.lexLt xs ys = false → HT.lexLt ys xs = false → xs = ys
  | [], [], _, _ => rfl
  | [], y :: ys, h, _ => by rw [HT.lexLt_nil_cons] at h; cases h
  | x :: xs, [], _, h => by rw [HT.lexLt_nil_cons] at h; cases h
  | x :: xs, y :: ys, h, h' => by
    rw [HT.lexLt_cons] at h h'
    by_cases e : x = y
    · subst e
      rw [if_pos rfl] at h h'
      rw [lex_total xs ys h h']
    · rw [if_neg e] at h
      rw [if_neg (Ne.symm e)] at h'
      have a := of_decide_eq_false h
      have b := of_decide_eq_false h'
      omega
/-- rows of ints -/
def rowsOf : Ds → Option (List (List Int))
  | [] => some []
  | .tup xs :: r => (intsOf xs).bind fun ns => if ns.isEmpty then none else (rowsOf r).map (ns :: ·)
  | _ :: _ => none
/-- one row alone may be empty -/
def rowsO : Ds → Option (List (List Int))
  | [.tup []] => some [[]]
  | xs => rowsOf xs
def rowD (ns : List Int) : D := .tup (ns.map .int)
def ltI (a b : Int) : Bool := decide (a < b)
def dSorted (rev : Bool) : Ds → Option Ds
  | [.lst xs] => match intsOf xs with
    | some ns => if rev then (if ns.isEmpty then some [] else none) else some ((sortBy ltI ns).map .int)
    | none => (rowsO xs).map fun rs => (if rev then (sortBy HT.lexLt rs).reverse else sortBy HT.lexLt rs).map rowD
  | [.dic kvs] => if rev then none else (intsOf (kvs.map (·.1))).bind fun ns => if ns.length < 64 then some ((sortBy ltI ns).map .int) else none
  | _ => none
theorem intsOf_eq : ∀ {ds : Ds} {ns : List Int}, intsOf ds = some ns → ds = ns.map D.int
  | [], ns, h => by cases h; rfl
  | .int i :: r, ns, h => by
    obtain ⟨m, h1, h2⟩ := Option.map_eq_some_iff.mp (show (intsOf r).map (i :: ·) = some ns from h)
    rw [← h2, intsOf_eq h1]; rfl
  | .non :: _, _, h => by cases h
  | .bl _ :: _, _, h => by cases h
  | .str _ :: _, _, h => by cases h
  | .tup _ :: _, _, h => by cases h
  | .lst _ :: _, _, h => by cases h
  | .dic _ :: _, _, h => by cases h
  | .scr _ :: _, _, h => by cases h
  | .deck :: _, _, h => by cases h
  | .err _ _ :: _, _, h => by cases h
  | .lam _ _ :: _, _, h => by cases h
theorem repInts_eq {K : PySem.W.Frag} {γ : Gh} : ∀ {vs : List V} {ns : List Int}, RepAll K γ vs (ns.map D.int) → vs = ns.map V.int
  | _, [], h => by cases h; rfl
  | _, n :: ns, h => by
    cases h with
    | cons h1 h2 =>
      cases h1
      rw [repInts_eq h2]; rfl
def kI (h : Heap) : V → List Int
  | .ref a => TS.intsOf h (.ref a)
  | _ => []
section
variable {X : Cx} {pins : List (Addr × Obj)} {σ : L2.St} {H : Hp} {s : Shared} {γ : Gh}
theorem rows_rep (I : Inv X pins σ H s) (le : Same γ.F H) : ∀ {xs : Ds} {vs : List V} {rs : List (List Int)}, RepAll X.K γ vs xs → rowsOf xs = some rs → (∀ x ∈ vs, ∃ t, x = V.ref t ∧ SqT X.K H t ((kI s.heap x).map V.int) ∧ kI s.heap x ≠ []) ∧ vs.map (kI s.heap) = rs ∧ ∀ v ∈ vs, Rep X.K γ v (rowD (kI s.heap v))
  | [], _, rs, h, e => by
    cases h; cases e
    exact ⟨fun _ h => (by cases h), rfl, fun _ h => (by cases h)⟩
  | .tup xs :: r, _, rs, h, e => by
    obtain ⟨ns, h1, e⟩ := Option.bind_eq_some_iff.mp (show ((intsOf xs).bind fun ns => if ns.isEmpty then none else (rowsOf r).map (ns :: ·)) = some rs from e)
    split at e
    · cases e
    · rename_i hne
      obtain ⟨rs', h2, rfl⟩ := Option.map_eq_some_iff.mp e
      cases h with
      | cons ha hb =>
        obtain ⟨k1, k2, k3⟩ := rows_rep I le hb h2
        rw [intsOf_eq h1] at ha
        have ha0 := ha
        cases ha with
        | @tup a ws _ m1 m2 =>
          rw [repInts_eq m2] at m1
          have hs := le.tupT m1
          have hk : kI s.heap (.ref a) = ns := (tupI_raw I hs).ints
          have hn : ns ≠ [] := fun z => hne (by rw [z]; rfl)
          refine ⟨fun x hx => ?_, by rw [List.map_cons, hk, k2], fun x hx => ?_⟩
          · rcases List.mem_cons.mp hx with rfl | hx
            · exact ⟨a, rfl, by rw [hk]; exact hs, by rw [hk]; exact hn⟩
            · exact k1 x hx
          · rcases List.mem_cons.mp hx with rfl | hx
            · rw [hk]; exact ha0
            · exact k3 x hx
  | .non :: _, _, _, _, e => by cases e
  | .bl _ :: _, _, _, _, e => by cases e
  | .int _ :: _, _, _, _, e => by cases e
  | .str _ :: _, _, _, _, e => by cases e
  | .lst _ :: _, _, _, _, e => by cases e
  | .dic _ :: _, _, _, _, e => by cases e
  | .scr _ :: _, _, _, _, e => by cases e
  | .deck :: _, _, _, _, e => by cases e
  | .err _ _ :: _, _, _, _, e => by cases e
  | .lam _ _ :: _, _, _, _, e => by cases e
theorem rowsO_rep (I : Inv X pins σ H s) (le : Same γ.F H) {xs : Ds} {vs : List V} {rs : List (List Int)} (h : RepAll X.K γ vs xs) (e : rowsO xs = some rs) : RowsV X.K H (kI s.heap) vs ∧ vs.map (kI s.heap) = rs ∧ ∀ v ∈ vs, Rep X.K γ v (rowD (kI s.heap v)) := by
  unfold rowsO at e
  split at e
  · cases e
    cases h with
    | cons ha hb =>
      cases hb
      have ha0 := ha
      cases ha with
      | @tup a ws _ m1 m2 =>
        cases m2
        have hs := le.tupT m1
        have hk : kI s.heap (.ref a) = [] := (tupI_raw I (ns := []) hs).ints
        refine ⟨fun x hx => ?_, by rw [List.map_cons, hk]; rfl, fun x hx => ?_⟩
        · have := List.mem_singleton.mp hx
          subst this
          exact ⟨a, rfl, by rw [hk]; exact hs, fun h => by simp at h⟩
        · have := List.mem_singleton.mp hx
          subst this
          rw [hk]; exact ha0
  · obtain ⟨k1, k2, k3⟩ := rows_rep I le h e
    refine ⟨fun x hx => ?_, k2, k3⟩
    obtain ⟨t, a, b, c⟩ := k1 x hx
    exact ⟨t, a, b, fun _ => c⟩
theorem rep_map {K : PySem.W.Frag} {γ : Gh} {f : V → D} : ∀ {vs : List V}, (∀ v ∈ vs, Rep K γ v (f v)) → RepAll K γ vs (vs.map f)
  | [], _ => .nil
  | v :: vs, h => .cons (h v List.mem_cons_self) (rep_map fun x hx => h x (List.mem_cons_of_mem _ hx))
theorem sort_uniq {l m : List (List Int)} (h1 : l.Pairwise (fun a b => HT.lexLt b a = false)) (h2 : m.Pairwise (fun a b => HT.lexLt b a = false)) (p : l.Perm m) : l = m := List.Perm.eq_of_pairwise (fun a b _ _ x y => lex_total _ _ y x) h1 h2 p
theorem swo_I : SrtO.Swo ltI := ⟨fun x y h => decide_eq_false (by have := of_decide_eq_true h; omega), fun x y z h1 h2 => decide_eq_false (by have := of_decide_eq_false h1; have := of_decide_eq_false h2; omega)⟩
theorem sort_uniqI {l m : List Int} (h1 : l.Pairwise (· ≤ ·)) (h2 : m.Pairwise (fun a b => ltI b a = false)) (p : l.Perm m) : l = m :=
  List.Perm.eq_of_pairwise (le := (· ≤ ·)) (fun a b _ _ x y => by omega) h1 (h2.imp fun h => by have := of_decide_eq_false h; omega) p
theorem keys_ints {K : PySem.W.Frag} : ∀ {vs : List (Key × V)} {ds : Dp2} {ns : List Int}, RepKv K γ vs ds → ds.map (·.1) = ns.map D.int → vs.map (·.1) = ns.map Sum.inl
  | _, _, [], .nil, _ => rfl
  | _, _, n :: ns, .nil, h => by cases h
  | _, _, [], .cons _ _, h => by cases h
  | _, _, n :: ns, .cons (k := k) r t, h => by
    simp only [List.map_cons, List.cons.injEq] at h
    have hk : k = Sum.inl n := by
      cases k with
      | inl i => cases h.1; rfl
      | inr x => cases h.1
    rw [List.map_cons, List.map_cons, hk, keys_ints t h.2]
theorem call_sorted (hc : X.calm = true) : CallR X (.builtin "sorted") (rLF X.K (dSorted false)) := by
  intro pins s σ H xs us Q I rx h
  obtain ⟨γ, sd, ds, r, g, hx, ho, q⟩ := h
  unfold dSorted at ho
  split at ho
  · rename_i ys
    obtain ⟨v, rfl, hv⟩ := hx.one
    obtain ⟨p, vs, rfl, hp, ra⟩ := hv.lst g
    split at ho
    · rename_i ns hn
      simp only [Bool.false_eq_true, if_false, Option.some.injEq] at ho
      rw [intsOf_eq hn] at ra
      refine L2.cr_sortedI pins s σ H _ us Q I rx ⟨p, ns, rfl, SqL.of (by rw [← repInts_eq ra]; exact hp), fun zs a hz hs hn => ?_⟩
      have e := sort_uniqI hs (sortBy_sorted swo_I ns) (hz.trans (sortBy_perm ns).symm)
      rw [← ho, ← e] at q
      exact put_new g (Step.refl _ _) q RepAll.ints a hn
    · obtain ⟨rs, h1, h2⟩ := Option.map_eq_some_iff.mp ho
      obtain ⟨k1, k2, k3⟩ := rowsO_rep I g.le ra h1
      refine cr_sortRows pins s σ H _ us Q I rx ⟨p, vs, kI s.heap, rfl, SqL.of hp, k1, fun zs a hz hs hn => ?_⟩
      have e : zs.map (kI s.heap) = sortBy HT.lexLt rs := sort_uniq (by rw [List.pairwise_map]; exact hs) (sortBy_sorted (NtL.swo_lexL id) rs) ((hz.map _).trans (by rw [k2]; exact (sortBy_perm rs).symm))
      have er : r = zs.map fun z => rowD (kI s.heap z) := by
        rw [← h2]
        simp only [Bool.false_eq_true, if_false]
        rw [← e, List.map_map]; rfl
      rw [er] at q
      exact put_new g (Step.refl _ _) q (rep_map fun z hz' => k3 z (hz.mem_iff.mp hz')) a hn
  · rename_i kvs
    obtain ⟨v, rfl, hv⟩ := hx.one
    obtain ⟨p, vs, rfl, hp, ra⟩ := hv.dic g
    simp only [Bool.false_eq_true, if_false] at ho
    obtain ⟨ns, h1, h2⟩ := Option.bind_eq_some_iff.mp ho
    split at h2
    · rename_i h64
      simp only [Option.some.injEq] at h2
      refine call_sortedDI hc pins s σ H _ us Q I rx ⟨p, vs, ns, rfl, hp, keys_ints ra (intsOf_eq h1), h64, fun zs a hz hs hn => ?_⟩
      have e := sort_uniqI hs (sortBy_sorted swo_I ns) (hz.trans (sortBy_perm ns).symm)
      rw [← h2, ← e] at q
      exact put_new g (Step.refl _ _) q RepAll.ints a hn
    · cases h2
  · cases ho
end
section
variable {X : Cx} {c : Ctx} {H0 : Hp} {EX : XK}
theorem call_sortedR : CallRK X (.builtin "sorted") [Str.ofString "reverse"] (fun vs zs H Q => zs = [.bl true] ∧ rLF X.K (dSorted true) vs H Q) := by
  intro pins s σ H xs zs us ws Q I rx rz h
  obtain ⟨rfl, γ, sd, ds, r, g, hx, ho, q⟩ := h
  unfold dSorted at ho
  split at ho
  · rename_i ys
    obtain ⟨v, rfl, hv⟩ := hx.one
    obtain ⟨p, vs, rfl, hp, ra⟩ := hv.lst g
    split at ho
    · rename_i ns hn
      simp only [if_true] at ho
      split at ho
      · rename_i he
        have e0 : ns = [] := List.isEmpty_iff.mp he
        subst e0
        have e1 := intsOf_eq hn
        simp only [List.map_nil] at e1
        subst e1
        cases ra
        cases ho
        refine cr_sortRowsR pins s σ H _ _ us ws Q I rx rz ⟨rfl, p, [], kI s.heap, rfl, SqL.of hp, (fun _ h => by cases h), fun zs a hz hs hn => ?_⟩
        have ez : zs = [] := hz.eq_nil
        subst ez
        exact put_new g (Step.refl _ _) q .nil a hn
      · cases ho
    · obtain ⟨rs, h1, h2⟩ := Option.map_eq_some_iff.mp ho
      obtain ⟨k1, k2, k3⟩ := rowsO_rep I g.le ra h1
      refine cr_sortRowsR pins s σ H _ _ us ws Q I rx rz ⟨rfl, p, vs, kI s.heap, rfl, SqL.of hp, k1, fun zs a hz hs hn => ?_⟩
      have e : (zs.map (kI s.heap)).reverse = sortBy HT.lexLt rs := sort_uniq (by rw [List.pairwise_reverse, List.pairwise_map]; exact hs) (sortBy_sorted (NtL.swo_lexL id) rs) (((List.reverse_perm _).trans (hz.map _)).trans (by rw [k2]; exact (sortBy_perm rs).symm))
      have er : r = zs.map fun z => rowD (kI s.heap z) := by
        rw [← h2]
        simp only [if_true]
        rw [← e, List.reverse_reverse, List.map_map]; rfl
      rw [er] at q
      exact put_new g (Step.refl _ _) q (rep_map fun z hz' => k3 z (hz.mem_iff.mp hz')) a hn
  · simp at ho
  · cases ho
theorem pe_dsortedR (T : StX X c) {e : Expr} {m : Env → M D} {p pos kp bp : Pos} {j} (he : PE X e (tO (X.ci H0 EX) m)) (hs : isStar e = false) (hg : c.sc.names.lookup (Str.ofString "sorted") = gB) (hm : X.mg "sorted" = none) :
    PE X (.Call (.Name "sorted" p) [e] [⟨some "reverse", .Constant (.bool true) j bp, kp⟩] pos) (tF (X.ci H0 EX) (mCallF (dSorted true) (mCons m mNil))) := by
  refine (pe_callBK call_sortedR (kind_of T hg) hm rfl (pa_ocons he pa_onil hs) (pk_dcons (H0 := H0) (EX := EX) pe_dbl pk_dnil) (by decide) (by decide) (by rw [star_no hs]; rfl) (by rw [star_no hs]; rfl)).weak fun σ H Q q => ?_
  obtain ⟨γ, ρ, s, r, g⟩ := q
  refine tOs.then (c := X.ci H0 EX) (m := mCons m mNil) r g fun vs ds s1 H1 γ1 r1 x1 hv g1 => ?_
  obtain ⟨o, e1, k⟩ := g1.optE
  refine ⟨γ1, ρ, s1, r1, show ∀ H' γ', Step γ1 H1 γ' H' → GWf H' γ' s1 → ∀ zs, RepAll X.K γ' zs [.bl true] → zs = [.bl true] ∧ rLF X.K (dSorted true) vs H' Q from fun H2 γ2 x2 g2 zs hz => ?_⟩
  refine ⟨?_, γ2, s1, ds, o, g2, RepLs.step x2 hv, e1, fun H' γ' x gw p vs h1 h2 h3 h4 h5 => k H' γ' (x2.trans x) gw p vs h1 h2 h3 (Classical.byContradiction fun w => x1.dom p w (Classical.byContradiction fun w2 => x2.dom p w2 h4)) h5⟩
  cases hz with
  | cons h1 h2 => cases h1; cases h2; rfl
end
end RS

namespace RS
open PySem PySem.Spec PyProof.Rows L2

/-! ### d.get(k, x) -/
def dicOf : D → Option Dp2
  | .dic kvs => some kvs
  | _ => none
def mGet (md mk mx : Env → M D) : Env → M D := fun ρ => md ρ >>= fun d => M.opt (dicOf d) >>= fun kvs => mk ρ >>= fun k => mx ρ >>= fun x => M.opt ((keyOf k).map fun k => (dLook kvs k).getD x)
section
variable {X : Cx} {c : Ctx} {H0 : Hp} {EX : XK}
theorem pe_dget (T : StX X c) {o e f : Expr} {md mk mx : Env → M D} {apos cpos : Pos} (ho : PE X o (tO (X.ci H0 EX) md)) (he : PE X e (tE (X.ci H0 EX) mk)) (hf : PE X f (tE (X.ci H0 EX) mx)) (hn : noCall o = true) (hl : (apos.endLine == cpos.line) = true) (s1 : isStar e = false) (s2 : isStar f = false) :
    PE X (.Call (.Attribute o "get" apos) [e, f] [] cpos) (tE (X.ci H0 EX) (mGet md mk mx)) := by
  have st : starEach [e, f] X.env = [(false, eval e X.env), (false, eval f X.env)] := by first | (rw [star2 s1 s2]; done) | (rw [star2 s1 s2, star1 s2])
  refine (pe_dget2 (by have := T.hu; omega) ho he hf ⟨base_ok hn, by rw [st]; rfl, hl, by rw [st]; rfl⟩).weak fun σ H Q q => ?_
  obtain ⟨γ, ρ, s, r, g⟩ := q
  refine tO.then (c := X.ci H0 EX) r g fun v d s1 H1 γ1 r1 x1 hv g1 => ?_
  obtain ⟨kvs, e1, g1⟩ := Goes.opt g1
  unfold dicOf at e1
  split at e1
  · cases e1
    obtain ⟨p, vs, rfl, hp, ra⟩ := hv.dic r1.g
    refine ⟨p, rfl, .inl ⟨vs, hp⟩, tE.then (c := X.ci H0 EX) r1 g1 fun y k s2 H2 γ2 r2 x2 hk g2 => tE.then (c := X.ci H0 EX) r2 g2 fun z x s3 H3 γ3 r3 x3 hx g3 => ?_⟩
    obtain ⟨w, e2, k3⟩ := g3.optE
    obtain ⟨key, h1, h2⟩ := Option.map_eq_some_iff.mp e2
    have hk' := key_rep (H := H3) (.rep (hk.le x3.g)) h1
    subst hk'
    obtain ⟨p', vs', e3, hp3, ra3⟩ := ((hv.step x2).step x3).dic r3.g
    cases e3
    have hl := look_rep (k := key) ra3
    refine ⟨valV vs' key, .inl ⟨_, _, hp3, rfl, rfl⟩, k3 H3 γ3 (Step.refl _ _) r3.g _ ?_⟩
    rw [← h2]
    cases q : dLook kvs key with
    | none => rw [q] at hl; rw [show valV vs' key = none from hl]; exact hx
    | some d0 =>
      rw [q] at hl
      obtain ⟨v0, h3, h4⟩ := hl
      rw [h3]; exact h4
  · cases e1
end
end RS

namespace RS
open PySem PySem.Spec PyProof.Rows L2

/-! ### what a text is compiled by -/
abbrev Tab := Str → Ds → M D
abbrev EM := Tab → Env → M D
abbrev FM := Tab → Env → M Ds
abbrev BM := Tab → Env → M Bool
abbrev SM := Tab → MS
structure CC where
  x : Ctx
  sig : List (Str × List Str)
  glob : List (Str × D)
  /-- variables that are changed in place -/
  muts : List Str
/-- look at a Bool -/
def chk (b : Bool) : Option Unit := if b then some () else none
theorem chk_ok {b : Bool} {u : Unit} (h : chk b = some u) : b = true := by
  unfold chk at h
  split at h
  · assumption
  · cases h
def findIx : List Str → Str → Nat → Option Nat
  | [], _, _ => none
  | y :: r, x, i => if y = x then some i else findIx r x (i + 1)
theorem findIx_ok : ∀ {N : List Str} {x : Str} {k i : Nat}, findIx N x k = some i → k ≤ i ∧ N[i - k]? = some x
  | [], _, _, _, h => by cases h
  | y :: r, x, k, i, h => by
    unfold findIx at h
    split at h
    · rename_i e
      cases h
      exact ⟨Nat.le_refl _, by rw [Nat.sub_self]; simp [e]⟩
    · obtain ⟨h1, h2⟩ := findIx_ok h
      refine ⟨by omega, ?_⟩
      rw [show i - k = (i - (k + 1)) + 1 by omega]
      simpa using h2
/-- a variable that is seen here -/
def ixOf (c : CC) (x : Str) : Option Nat := (chk (visB c.x.sc x && okName x)).bind fun _ => findIx c.x.N x 0
theorem ixOf_ok {c : CC} {x : Str} {i : Nat} (h : ixOf c x = some i) : c.x.N[i]? = some x ∧ visB c.x.sc x = true ∧ okName x = true := by
  obtain ⟨u, h1, h2⟩ := Option.bind_eq_some_iff.mp h
  have h3 := Bool.and_eq_true_iff.mp (chk_ok h1)
  exact ⟨by simpa using (findIx_ok h2).2, h3.1, h3.2⟩
/-- a name of the module -/
def glB (c : CC) (x : Str) : Bool := decide (c.x.sc.names.lookup x = gB) && okName x
theorem glB_ok {c : CC} {x : Str} (h : glB c x = true) : c.x.sc.names.lookup x = gB ∧ okName x = true := by
  unfold glB at h
  simp only [Bool.and_eq_true, decide_eq_true_eq] at h
  exact h
/-! built-ins on data -/
def bltTab : List (Str × (Ds → Option D)) := [("len", bLen), ("all", bAll), ("any", bAny), ("sum", bSum), ("abs", bAbs), ("max", bMax), ("min", bMin), ("repr", bRepr), ("int", bInt), ("str", bStr), ("tuple", bTuple)]
def bltNames : List Str := ["len", "all", "any", "sum", "abs", "max", "min", "repr", "int", "str", "tuple", "list", "isinstance", "bool", "dict", "range", "enumerate", "zip", "sorted", "set"]
structure WX (X : Cx) (c : CC) (C : Tab) (EX : XK) : Prop where
  st : StX X c.x
  fn : ∀ x ps, c.sig.lookup x = some ps → FnAt X x ps (C x)
  nd : ∀ x ps, c.sig.lookup x = some ps → ps.Nodup
  gl : ∀ x d, c.glob.lookup x = some d → GlobD X x d
  bl : ∀ x ∈ bltNames, X.mg x = none
  pass : Passes (L2.CX X.prog X.w) X EX
def CC.blk (c : CC) (scope : Scope) (own : List (Str × Nat)) : CC := { c with x := c.x.blk scope own }
theorem WX.blk {X : Cx} {c : CC} {C : Tab} {EX : XK} (W : WX X c C EX) {scope : Scope} {own : List (Str × Nat)} (h1 : blkC c.x.N c.x.sc scope own = true) (h2 : stoOk c.x.sc scope own = true) (s : Shared) (H : Hp) (Ca : Addr) (cl : List (Str × Addr)) (fp : List Addr) :
    WX (X.blk s H scope (compEnvC scope cl Ca X.env) fp) (c.blk scope own) C noX := by
  refine ⟨W.st.blk h1 h2 s H Ca cl fp, fun x ps h => ?_, W.nd, W.gl, W.bl, fun pins σ H s e s' I h => ?_⟩
  · obtain ⟨k, f, fd, a, b, d⟩ := (W.fn x ps h).ex
    exact ⟨k, f, fd, a, b, d⟩
  · obtain ⟨a, B, H', cls, d, _, _, _, _, _, _, _, z⟩ := h
    exact z
/-- how a built-in answers on data -/
def BOk (X : Cx) (p : Str × (Ds → Option D)) : Prop := (∃ id, CallR X (.builtin id) (rL X.K p.2) ∧ bootBuiltins p.1 = some (.builtin id)) ∨ ∃ id, CallR X (.type id) (rL X.K p.2) ∧ bootBuiltins p.1 = some (.type id)
theorem blt_ok {X : Cx} {c : Ctx} (T : StX X c) : ∀ p ∈ bltTab, BOk X p ∧ p.1 ∈ bltNames := by
  intro p hp
  simp only [bltTab, List.mem_cons, List.not_mem_nil, or_false] at hp
  rcases hp with rfl | rfl | rfl | rfl | rfl | rfl | rfl | rfl | rfl | rfl | rfl
  · exact ⟨.inl ⟨"len", call_dLen T, rfl⟩, by simp [bltNames]⟩
  · exact ⟨.inl ⟨"all", call_dAll T, rfl⟩, by simp [bltNames]⟩
  · exact ⟨.inl ⟨"any", call_dAny T, rfl⟩, by simp [bltNames]⟩
  · exact ⟨.inl ⟨"sum", call_dSum T, rfl⟩, by simp [bltNames]⟩
  · exact ⟨.inl ⟨"abs", call_dAbs T, rfl⟩, by simp [bltNames]⟩
  · exact ⟨.inl ⟨"max", call_dMax T, rfl⟩, by simp [bltNames]⟩
  · exact ⟨.inl ⟨"min", call_dMin T, rfl⟩, by simp [bltNames]⟩
  · exact ⟨.inl ⟨"repr", call_dRepr T, rfl⟩, by simp [bltNames]⟩
  · exact ⟨.inr ⟨"int", call_dInt T, rfl⟩, by simp [bltNames]⟩
  · exact ⟨.inr ⟨"str", call_dStr T, rfl⟩, by simp [bltNames]⟩
  · exact ⟨.inr ⟨"tuple", call_dTuple T, rfl⟩, by simp [bltNames]⟩
theorem lookup_in {α : Type} : ∀ {l : List (Str × α)} {x : Str} {a : α}, l.lookup x = some a → (x, a) ∈ l
  | [], _, _, h => by simp at h
  | (k, v) :: l, x, a, h => by
    rw [List.lookup_cons] at h
    cases q : x == k with
    | true =>
      rw [q] at h
      cases h
      rw [show x = k by simpa using q]
      exact List.mem_cons_self
    | false =>
      rw [q] at h
      exact List.mem_cons_of_mem _ (lookup_in h)
section
variable {X : Cx} {c : CC} {C : Tab} {H0 : Hp} {EX : XK} {p pos : Pos}
theorem pe_dblt (W : WX X c C EX) {x : Str} {op : Ds → Option D} {e : Expr} {es : List Expr} {m : Env → M Ds} (h : bltTab.lookup x = some op) (hg : glB c x = true) (hn : noStars (e :: es) = true) (ha : PA X (e :: es) (tOs (X.ci H0 EX) m)) : PE X (.Call (.Name x p) (e :: es) [] pos) (tE (X.ci H0 EX) (mCall op m)) := by
  obtain ⟨g1, g2⟩ := glB_ok hg
  obtain ⟨hb, hm⟩ := blt_ok W.st _ (lookup_in h)
  have mg := W.bl x hm
  rcases hb with ⟨id, h1, h2⟩ | ⟨id, h1, h2⟩
  · exact pe_dcallB W.st h1 g1 g2 mg h2 hn ha
  · exact pe_dcallTy W.st h1 g1 g2 mg h2 hn ha
end
/-! texts -/
def isaTab : List (Str × String) := [("int", "int"), ("bool", "bool"), ("tuple", "tuple"), ("list", "list"), ("str", "str"), ("dict", "dict")]
theorem isa_ok : ∀ p ∈ isaTab, p.2 ∈ isaTys ∧ bootBuiltins p.1 = some (.type p.2) ∧ p.1 ∈ bltNames := by
  intro p hp
  simp only [isaTab, List.mem_cons, List.not_mem_nil, or_false] at hp
  rcases hp with rfl | rfl | rfl | rfl | rfl | rfl <;> exact ⟨by simp [isaTys], rfl, by simp [bltNames]⟩

/-! ### small methods -/
def dUpper : D → Option D
  | .str a => if a.length ≤ 5592405 then some (.str (Txt.upper a)) else none
  | _ => none
def mUp (m : Env → M D) : Env → M D := fun ρ => m ρ >>= fun d => M.opt (dUpper d)
section
variable {X : Cx} {c : Ctx} {H0 : Hp} {EX : XK} {γ0 : Gh}
theorem pe_dup (T : StX X c) {o : Expr} {m : Env → M D} {ap cp : Pos} (ho : PE X o (tO (X.ci H0 EX) m)) (hc : noCall o = true) (hl : (ap.endLine == cp.line) = true) : PE X (.Call (.Attribute o "upper" ap) [] [] cp) (tE (X.ci H0 EX) (mUp m)) := by
  refine (pe_m0 PySem.F.slot_str_upper PySem.F.type_str_upper mt_upper ho (base_ok hc) hl).weak fun σ H Q q => ?_
  obtain ⟨γ, ρ, s, r, g⟩ := q
  refine tO.then (c := X.ci H0 EX) r g fun v d s1 H1 γ1 r1 x1 hv g1 => ?_
  obtain ⟨o, e1, k⟩ := g1.optE
  unfold dUpper at e1
  split at e1
  · split at e1
    · rename_i hl
      cases e1; cases hv.str
      exact ⟨⟨_, rfl⟩, _, rfl, rfl, hl, k _ _ (Step.refl _ _) r1.g _ (.str _)⟩
    · cases e1
  · cases e1
def dBackL : D → Option Ds
  | .lst xs => some xs.reverse
  | _ => none
def mBackF (m : Env → M D) : Env → M Ds := fun ρ => m ρ >>= fun d => M.opt (dBackL d)
theorem pe_dbackF {e : Expr} {m : Env → M D} {k : Nat} {p1 p2 p3 pos : Pos} (he : PE X e (tO (X.ci H0 EX) m)) : PE X (.Subscript e (.Slice none none (some (.UnaryOp .USub (.Constant (.int 1) k p1) p2)) p3) pos) (tF (X.ci H0 EX) (mBackF m)) := (pe_back he).weak fun σ H Q q => by
  obtain ⟨γ, ρ, s, r, g⟩ := q
  refine tO.then (c := X.ci H0 EX) r g fun v d s1 H1 γ1 r1 x1 hv g1 => ?_
  obtain ⟨o, e1, kk⟩ := g1.optE
  unfold dBackL at e1
  split at e1
  · cases e1
    obtain ⟨p, vs, rfl, hp, ra⟩ := hv.lst r1.g
    exact ⟨p, vs, rfl, .inl ⟨SqL.of hp, put_new r1.g x1 kk ra.reverse⟩⟩
  · cases e1
end

def isTup : Expr → Bool
  | .Tuple .. => true
  | _ => false
/-! ### stores on the right -/
def isComp : Expr → Bool
  | .ListComp .. | .SetComp .. | .DictComp .. => true
  | _ => false
theorem noComp_swap {e : Expr} {t : Option Expr} {l : Nat} {env : PySem.Env} (h : isComp e = false) : swapsWith e t l env = pure false := by cases e <;> first | rfl | cases h
theorem noComp_sole {ts : List Expr} {e : Expr} {l : Nat} {env : PySem.Env} (h : isComp e = false) : swapsWithSole ts e l env = pure false := by
  match ts with
  | [] => rfl
  | [t] => exact noComp_swap h
  | _ :: _ :: _ => rfl
/-- name = [.. for ..]: stored within? -/
def swapB (c : CC) (x : Str) (p : Pos) (scope : Scope) (cp : Pos) : Bool := decide (c.x.sc.names.lookup x = some .local) && (p.line == cp.line) && !(scope.names.any fun (n, k) => n == x && (k == .local || k == .cell))
section
variable {X : Cx} {c : CC}
theorem swapB_yes (T : StX X c.x) {x : Str} {p cp : Pos} {scope : Scope} {elt : Expr} {gs : List Comprehension} {l : Nat} (h : swapB c x p scope cp = true) : swapsWith (.ListComp elt gs scope cp) (some (.Name x p)) l X.env = pure true ∧ c.x.sc.names.lookup x = some .local := by
  unfold swapB at h
  simp only [Bool.and_eq_true, decide_eq_true_eq, Bool.not_eq_true'] at h
  obtain ⟨⟨h1, h2⟩, h3⟩ := h
  exact ⟨sw_true (by rw [T.hs]; exact T.kind) (by rw [T.hs]; exact h1) h2 h3, h1⟩
theorem swapB_no (T : StX X c.x) {x : Str} {p cp : Pos} {scope : Scope} {elt : Expr} {gs : List Comprehension} {l : Nat} (h : swapB c x p scope cp = false) : swapsWith (.ListComp elt gs scope cp) (some (.Name x p)) l X.env = pure false := by
  unfold swapB at h
  have hb : X.env.blockKind = .function := by unfold Env.blockKind; rw [T.hs, T.kind]; rfl
  have hk : X.env.kindOf x = c.x.sc.names.lookup x := by unfold Env.kindOf; rw [T.hs]
  unfold swapsWith
  simp only [hb, hk, Expr.pos]
  have : ((ScopeKind.function == ScopeKind.function) && (List.lookup x c.x.sc.names == some NameKind.local) && (p.line == cp.line) && !(scope.names.any fun (n, k) => n == x && (k == .local || k == .cell))) = false := by
    rw [← h]
    cases q : List.lookup x c.x.sc.names with
    | none => simp
    | some k => cases k <;> simp
  rw [this]
end
/-- a, b = x, y: which names are stored from the right -/
def swNames (sc : Scope) (ts : List Expr) : List Str :=
  ts.filterMap fun
    | .Name id pos => if sc.names.lookup id == some .local && pos.line == (ts.head?.map (·.pos.line)).getD 0 then some id else none
    | _ => none
def swapC (sc : Scope) (ts vs : List Expr) : Option (Option (List Str)) :=
  if (!(ts.length == 2 || ts.length == 3) || vs.length != ts.length) = true then some none else
  if (vs.any isStar) = true then some none else
  if ((swNames sc ts).length != ts.length || (swNames sc ts).eraseDups.length != (swNames sc ts).length) = true then some none else
  if (vs.all (foldedForSure 8)) = true then some none else
  if (vs.all (constantsAlone 8)) = true then none else some (some (swNames sc ts))
theorem swapC_ok {X : Cx} {c : Ctx} (T : StX X c) {ts vs : List Expr} {k k2 : Nat} {p p2 : Pos} {r : Option (List Str)} (h : swapC c.sc ts vs = some r) : swappedStores [.Tuple ts k p] (.Tuple vs k2 p2) X.env = pure r := by
  have hb : X.env.blockKind = .function := by unfold Env.blockKind; rw [T.hs, T.kind]; rfl
  have hk : ∀ id, X.env.kindOf id = c.sc.names.lookup id := fun id => by unfold Env.kindOf; rw [T.hs]
  unfold swapC at h
  unfold swappedStores
  simp only [hb, hk]
  have e0 : (ScopeKind.function != ScopeKind.function) = false := rfl
  rw [e0, Bool.or_false]
  split at h
  · rename_i h1
    cases h
    exact if_pos h1
  · rename_i h1
    refine (if_neg h1).trans ?_
    split at h
    · rename_i h2
      cases h
      exact if_pos h2
    · rename_i h2
      refine (if_neg h2).trans ?_
      split at h
      · rename_i h3
        cases h
        exact if_pos h3
      · rename_i h3
        refine (if_neg h3).trans ?_
        split at h
        · rename_i h4
          cases h
          exact if_pos h4
        · rename_i h4
          refine (if_neg h4).trans ?_
          split at h
          · cases h
          · rename_i h5
            cases h
            exact if_neg h5
theorem no_stores {ts : List Expr} {e : Expr} {k : Nat} {p : Pos} {env : PySem.Env} (h : isTup e = false) : swappedStores [.Tuple ts k p] e env = pure none := by
  cases e <;> first | rfl | cases h
end RS

namespace RS
open PySem PySem.Spec PyProof.Rows L2

/-! ### expressions compiled -/
structure Fs where
  e : CC → Expr → Option EM
  t : CC → Expr → Option BM
  f : CC → Expr → Option FM
  g : CC → Expr → Option (List Nat × Tg)
def cO (F : Fs) (c : CC) : Expr → Option EM
  | .Name x p => match ixOf c x with
    | some i => some fun _ => mPeek i
    | none => F.e c (.Name x p)
  | e => F.e c e
def cAs (F : Fs) (c : CC) : List Expr → Option FM
  | [] => some fun _ => mNil
  | e :: es => (chk (!isStar e)).bind fun _ => (F.e c e).bind fun m => (cAs F c es).bind fun ms => some fun C => mCons (m C) (ms C)
def cOs (F : Fs) (c : CC) : List Expr → Option FM
  | [] => some fun _ => mNil
  | e :: es => (chk (!isStar e)).bind fun _ => (cO F c e).bind fun m => (cOs F c es).bind fun ms => some fun C => mCons (m C) (ms C)
def cKs (F : Fs) (c : CC) : List Keyword → Option FM
  | [] => some fun _ => mNil
  | ⟨_, e, _⟩ :: es => (F.e c e).bind fun m => (cKs F c es).bind fun ms => some fun C => mCons (m C) (ms C)
def kwNames : List Keyword → Option (List Str)
  | [] => some []
  | ⟨some k, _, _⟩ :: r => (kwNames r).bind fun ks => some (k :: ks)
  | _ => none
def cPs (F : Fs) (c : CC) : List (Option Expr) → List Expr → Option (Tab → List ((Env → M D) × (Env → M D)))
  | [], [] => some fun _ => []
  | some k :: ks, v :: vs => (F.e c k).bind fun mk => (F.e c v).bind fun mv => (cPs F c ks vs).bind fun ms => some fun C => (mk C, mv C) :: ms C
  | _, _ => none
def cFl (F : Fs) (c : CC) : List (Option Expr) → List Expr → Option (Tab → List (Str × (Env → M D)))
  | [], [] => some fun _ => []
  | some (.Constant (.str f) _ _) :: ks, v :: vs => (chk (!decide (f = cellsKey))).bind fun _ => (F.e c v).bind fun mv => (cFl F c ks vs).bind fun ms => some fun C => (f, mv C) :: ms C
  | _, _ => none
/-- a source -/
def cI (F : Fs) (c : CC) (tg : Expr) (e : Expr) : Option FM := (chk (noSet e)).bind fun _ => match e with
  | .Call (.Name x _) [a] [] _ =>
    if x = "range" ∧ c.sig.lookup x = none then (chk (glB c x && !isStar a)).bind fun _ => (cO F c a).bind fun m => some fun C => mRngI1 (m C)
    else if x = "enumerate" ∧ c.sig.lookup x = none then (chk (glB c x && !isStar a && isTup tg)).bind fun _ => (F.e c a).bind fun m => some fun C => mEnumI (m C)
    else (F.e c e).bind fun m => some fun C => mSeqI (m C)
  | .Call (.Name x _) [a, b] [] _ =>
    if x = "range" ∧ c.sig.lookup x = none then (chk (glB c x && !isStar a && !isStar b)).bind fun _ => (cO F c a).bind fun m => (cO F c b).bind fun m' => some fun C => mRngI2 (m C) (m' C)
    else if x = "zip" ∧ c.sig.lookup x = none then (chk (glB c x && !isStar a && !isStar b && isTup tg)).bind fun _ => (F.e c a).bind fun m => (F.e c b).bind fun m' => some fun C => mZipI (m C) (m' C)
    else (F.e c e).bind fun m => some fun C => mSeqI (m C)
  | .Call (.Attribute o a ap) [] [] cp =>
    if a = "items" then (chk (noCall o && (ap.endLine == cp.line) && isTup tg)).bind fun _ => (F.e c o).bind fun m => some fun C => mItemsI (m C)
    else if a = "values" then (chk (noCall o && (ap.endLine == cp.line))).bind fun _ => (F.e c o).bind fun m => some fun C => mValsI (m C)
    else (F.e c e).bind fun m => some fun C => mSeqI (m C)
  | e => (F.e c e).bind fun m => some fun C => mSeqI (m C)
def ownOf (N : List Str) (scope : Scope) : List (Str × Nat) := scope.names.filterMap fun (n, k) => match k with
  | .local | .cell => (findIx N n 0).map fun i => (n, i)
  | _ => none
def subB (is js : List Nat) : Bool := is.all fun i => js.contains i
theorem subB_ok {is js : List Nat} (h : subB is js = true) : ∀ i ∈ is, i ∈ js := fun i hi => by
  have := List.all_eq_true.mp h i hi
  rwa [List.contains_iff_mem] at this
def cIf (F : Fs) (c : CC) : List Expr → Option BM
  | [] => some fun _ => mYes
  | [e] => F.t c e
  | _ => none
/-- one clause; two -/
def cLc (F : Fs) (c : CC) (elt tg iter : Expr) (ifs : List Expr) (scope : Scope) : Option FM :=
  (chk (blkC c.x.N c.x.sc scope (ownOf c.x.N scope) && stoOk c.x.sc scope (ownOf c.x.N scope))).bind fun _ =>
  (cI F c tg iter).bind fun it => (F.g (c.blk scope (ownOf c.x.N scope)) tg).bind fun g => (chk (subB g.1 ((ownOf c.x.N scope).map (·.2)))).bind fun _ =>
  (cIf F (c.blk scope (ownOf c.x.N scope)) ifs).bind fun t => (F.e (c.blk scope (ownOf c.x.N scope)) elt).bind fun e =>
  some fun C => mLc (it C) g.2 (t C) (e C) ((ownOf c.x.N scope).map (·.2))
def cLc2 (F : Fs) (c : CC) (elt tg iter : Expr) (ifs : List Expr) (tg1 iter1 : Expr) (ifs1 : List Expr) (scope : Scope) : Option FM :=
  (chk (blkC c.x.N c.x.sc scope (ownOf c.x.N scope) && stoOk c.x.sc scope (ownOf c.x.N scope))).bind fun _ =>
  (cI F c tg iter).bind fun it => (F.g (c.blk scope (ownOf c.x.N scope)) tg).bind fun g => (chk (subB g.1 ((ownOf c.x.N scope).map (·.2)))).bind fun _ =>
  (cIf F (c.blk scope (ownOf c.x.N scope)) ifs).bind fun t =>
  (cI F (c.blk scope (ownOf c.x.N scope)) tg1 iter1).bind fun it1 => (F.g (c.blk scope (ownOf c.x.N scope)) tg1).bind fun g1 => (chk (subB g1.1 ((ownOf c.x.N scope).map (·.2)))).bind fun _ =>
  (cIf F (c.blk scope (ownOf c.x.N scope)) ifs1).bind fun t1 =>
  (F.e (c.blk scope (ownOf c.x.N scope)) elt).bind fun e =>
  some fun C => mLc2 (it C) g.2 (t C) (it1 C) g1.2 (t1 C) (e C) ((ownOf c.x.N scope).map (·.2)) g1.1
def cF (F : Fs) (c : CC) : Expr → Option FM
  | .List es _ => (cAs F c es).bind fun m => some fun C => mLst (m C)
  | .ListComp elt [⟨tg, iter, ifs, 0⟩] scope _ => cLc F c elt tg iter ifs scope
  | .ListComp elt [⟨tg, iter, ifs, 0⟩, ⟨tg1, iter1, ifs1, 0⟩] scope _ => cLc2 F c elt tg iter ifs tg1 iter1 ifs1 scope
  | .Subscript e (.Slice none none (some (.UnaryOp .USub (.Constant (.int 1) _ _) _)) _) _ => (cO F c e).bind fun m => some fun C => mBackF (m C)
  | .Call (.Name x _) (e :: es) [] _ => if x = "list" ∧ c.sig.lookup x = none then (chk (glB c x && noStars (e :: es))).bind fun _ => (cOs F c (e :: es)).bind fun m => some fun C => mCallF bList (m C)
    else if x = "sorted" ∧ c.sig.lookup x = none then (chk (glB c x && noStars (e :: es))).bind fun _ => (cOs F c (e :: es)).bind fun m => some fun C => mCallF (dSorted false) (m C) else none
  | .Call (.Name x _) [e] [⟨some k, .Constant (.bool true) _ _, _⟩] _ => if x = "sorted" ∧ k = "reverse" ∧ c.sig.lookup x = none then (chk (glB c x && !isStar e)).bind fun _ => (cO F c e).bind fun m => some fun C => mCallF (dSorted true) (mCons (m C) mNil) else none
  | _ => none
def cBoolV (F : Fs) (c : CC) (op : BoolOp) : List Expr → Option EM
  | [] => none
  | [a] => F.e c a
  | a :: b :: r => (F.e c a).bind fun m => (cBoolV F c op (b :: r)).bind fun n => some fun C => match op with
    | .And => mIf (mAsB (m C)) (n C) fun _ => pure (.bl false)
    | .Or => mIf (mAsB (m C)) (fun _ => pure (.bl true)) (n C)
def cBoolT (F : Fs) (c : CC) (op : BoolOp) : List Expr → Option BM
  | [] => none
  | [a] => F.t c a
  | a :: b :: r => (F.t c a).bind fun m => (cBoolT F c op (b :: r)).bind fun n => some fun C => match op with
    | .And => mAndB (m C) (n C)
    | .Or => mOrB (m C) (n C)
def cPO (F : Fs) (c : CC) : Option Expr → Option (Tab → Env → M (Option Int))
  | none => some fun _ => mNoP
  | some e => (cO F c e).bind fun m => some fun C => mP (m C)
def cCall (F : Fs) (c : CC) (x : Str) (args : List Expr) (kws : List Keyword) : Option EM := (chk (glB c x && noStars args)).bind fun _ => match c.sig.lookup x with
  | some ps => match kws with
    | [] => match args with
      | [] => (chk (decide (ps = []))).bind fun _ => some fun C _ => C x []
      | e :: es => (cAs F c (e :: es)).bind fun m => some fun C => mCallD (lenG ps.length (C x)) (m C)
    | k :: ks => (kwNames (k :: ks)).bind fun ns => (chk (bindC ps args.length ns)).bind fun _ => (cAs F c args).bind fun m => (cKs F c (k :: ks)).bind fun m' => some fun C => match args with
      | [] => mKw0 ps ns (C x) (m' C)
      | _ :: _ => mKw ps ns args.length (C x) (m C) (m' C)
  | none => match kws with
    | [] => match args with
      | [] => none
      | [e, .Name t _] => if x = "isinstance" then (isaTab.lookup t).bind fun T => (chk (glB c t && decide (c.sig.lookup t = none))).bind fun _ => (cO F c e).bind fun m => some fun C => mBl (mIsa T (m C))
        else (bltTab.lookup x).bind fun op => (cOs F c args).bind fun m => some fun C => mCall op (m C)
      | _ :: _ => (bltTab.lookup x).bind fun op => (cOs F c args).bind fun m => some fun C => mCall op (m C)
    | _ => none
def cMeth (F : Fs) (c : CC) (o : Expr) (a : Str) (ap : Pos) (args : List Expr) (kws : List Keyword) (cp : Pos) : Option EM := (chk (ap.endLine == cp.line)).bind fun _ => match args, kws with
  | [], [] => if a = "upper" then (chk (noCall o)).bind fun _ => (cO F c o).bind fun m => some fun C => mUp (m C)
    else if a = "pop" then match o with
      | .Subscript (.Name x _) (.Constant (.str k) _ _) _ => (chk (decide (k = cellsKey))).bind fun _ => (ixOf c x).bind fun i => some fun _ => mCellsPop i
      | _ => none
    else none
  | [v, w], [] => if a = "get" then (chk (noCall o && !isStar v && !isStar w)).bind fun _ => (cO F c o).bind fun m => (F.e c v).bind fun k => (F.e c w).bind fun x => some fun C => mGet (m C) (k C) (x C) else none
  | _, _ => none
def cE (F : Fs) (c : CC) : Expr → Option EM
  | .Name x _ => match ixOf c x with
    | some i => some fun _ => mVar i
    | none => (chk (glB c x)).bind fun _ => (c.glob.lookup x).bind fun d => some fun _ => mC d
  | .Constant (.int i) _ _ => some fun _ => mC (.int i)
  | .Constant (.bool i) _ _ => some fun _ => mC (.bl i)
  | .Constant .none _ _ => some fun _ => mC .non
  | .Constant (.str i) _ _ => some fun _ => mC (.str i)
  | .BinOp a op b _ => (cO F c a).bind fun m => (cO F c b).bind fun m' => some fun C => mBin op (m C) (m' C)
  | .UnaryOp .USub a _ => (cO F c a).bind fun m => some fun C => mNeg (m C)
  | .UnaryOp .Not a _ => (F.e c a).bind fun m => some fun C => mBl (mNotB (mAsB (m C)))
  | .Compare a [op] [b] _ => (chk (noSet b)).bind fun _ => (cO F c a).bind fun m => (cO F c b).bind fun m' => some fun C => mBl (mCmpB op (m C) (m' C))
  | .Compare a [op, op'] [b, e] _ => (chk (noSet e)).bind fun _ => (cO F c a).bind fun m => (cO F c b).bind fun m' => (cO F c e).bind fun m'' => some fun C => mBl (mChain op op' (m C) (m' C) (m'' C))
  | .BoolOp op es _ => cBoolV F c op es
  | .IfExp t a b _ => (F.t c t).bind fun t => (F.e c a).bind fun m => (F.e c b).bind fun m' => some fun C => mIf (t C) (m C) (m' C)
  | .Tuple es _ _ => (cAs F c es).bind fun m => some fun C => mTup (m C)
  | .List es p => (cF F c (.List es p)).bind fun m => some fun C ρ => m C ρ >>= fun ds => pure (.lst ds)
  | .ListComp e gs sc p => (cF F c (.ListComp e gs sc p)).bind fun m => some fun C ρ => m C ρ >>= fun ds => pure (.lst ds)
  | .Subscript a (.Slice none none (some (.UnaryOp .USub (.Constant (.int 1) _ _) _)) _) _ => (cO F c a).bind fun m => some fun C => mBack (m C)
  | .Subscript a (.Slice lo hi none _) _ => (cO F c a).bind fun m => (cPO F c lo).bind fun l => (cPO F c hi).bind fun h => some fun C => mSl (m C) (l C) (h C)
  | .Subscript a b _ => (chk (!isSl b)).bind fun _ => (cO F c a).bind fun m => (cO F c b).bind fun m' => some fun C => mIxM (m C) (m' C)
  | .Dict ks vs _ => match ks, vs with
    | some (.Constant (.str k) _ _) :: ks', v :: vs' => if k = cellsKey then (F.f c v).bind fun mc => (cFl F c ks' vs').bind fun fl => (chk (decide (ks'.length ≤ 14))).bind fun _ => some fun C => mDeck (mc C) (fl C)
      else (cPs F c ks vs).bind fun ms => (chk (decide (ks.length ≤ 15))).bind fun _ => some fun C => mDisp (ms C)
    | [], [] => some fun _ => mC (.dic [])
    | some _ :: _, _ :: _ => (cPs F c ks vs).bind fun ms => (chk (decide (ks.length ≤ 15))).bind fun _ => some fun C => mDisp (ms C)
    | _, _ => none
  | .Call (.Name x p) args kws p2 => if x = "list" ∨ x = "sorted" then (F.f c (.Call (.Name x p) args kws p2)).bind fun m => some fun C ρ => m C ρ >>= fun ds => pure (.lst ds) else cCall F c x args kws
  | .Call (.Attribute o a ap) args kws cp => cMeth F c o a ap args kws cp
  | _ => none
/-- the deck's cells asked -/
def cellsQ (c : CC) : Expr → Option Nat
  | .Compare (.Subscript (.Name x _) (.Constant (.str k) _ _) _) [.NotEq] [.List [] _] _ => (chk (decide (k = cellsKey))).bind fun _ => ixOf c x
  | _ => none
def cT (F : Fs) (c : CC) (e : Expr) : Option BM := match cellsQ c e with
  | some i => some fun _ => mCellsNe i
  | none => match e with
    | .Compare a [op] [b] _ => (chk (noSet b)).bind fun _ => (cO F c a).bind fun m => (cO F c b).bind fun m' => some fun C => mCmpB op (m C) (m' C)
    | .Compare a [op, op'] [b, e] _ => (chk (noSet e)).bind fun _ => (cO F c a).bind fun m => (cO F c b).bind fun m' => (cO F c e).bind fun m'' => some fun C => mChain op op' (m C) (m' C) (m'' C)
    | .BoolOp op es _ => cBoolT F c op es
    | .UnaryOp .Not a _ => (F.t c a).bind fun m => some fun C => mNotB (m C)
    | e => (chk (plainT e)).bind fun _ => (cO F c e).bind fun m => some fun C => mTru (m C)
def cGs (F : Fs) (c : CC) : List Expr → Option (List Nat × Tgs)
  | [] => some ([], gNl)
  | e :: es => (chk (!isStar e)).bind fun _ => (F.g c e).bind fun g => (cGs F c es).bind fun gs => some (g.1 ++ gs.1, gCn g.2 gs.2)
def cG (F : Fs) (c : CC) : Expr → Option (List Nat × Tg)
  | .Name x _ => (chk (stoB c.x x)).bind fun _ => (findIx c.x.N x 0).bind fun i => some ([i], gN i)
  | .Tuple es _ _ => (cGs F c es).bind fun gs => some (gs.1, gTp gs.2 es.length)
  | _ => none
def fsStep (F : Fs) : Fs := ⟨cE F, cT F, cF F, cG F⟩
def fs : Nat → Fs
  | 0 => ⟨fun _ _ => none, fun _ _ => none, fun _ _ => none, fun _ _ => none⟩
  | n + 1 => fsStep (fs n)

/-! ### .. and what the compiled answers -/
structure Snd (F : Fs) : Prop where
  e : ∀ c x m, F.e c x = some m → ∀ X C EX, WX X c C EX → ∀ H0, PE X x (tE (X.ci H0 EX) (m C))
  t : ∀ c x m, F.t c x = some m → ∀ X C EX, WX X c C EX → ∀ H0, PT X x (tB (X.ci H0 EX) (m C))
  f : ∀ c x m, F.f c x = some m → ∀ X C EX, WX X c C EX → ∀ H0, PE X x (tF (X.ci H0 EX) (m C))
  g : ∀ c x m, F.g c x = some m → ∀ X C EX, WX X c C EX → ∀ H0, PG X x (tG (X.ci H0 EX) m.1 m.2)
section
variable {F : Fs} {X : Cx} {c : CC} {C : Tab} {EX : XK} {H0 : Hp}
theorem sO (S : Snd F) (W : WX X c C EX) {e : Expr} {m : EM} (h : cO F c e = some m) : PE X e (tO (X.ci H0 EX) (m C)) := by
  cases e with
  | Name x p =>
    have h : (match ixOf c x with
      | some i => some fun _ => mPeek i
      | none => F.e c (.Name x p)) = some m := h
    cases q : ixOf c x with
    | some i =>
      rw [q] at h
      cases h
      obtain ⟨h1, h2, h3⟩ := ixOf_ok q
      exact pe_dpeek W.st h1 h2 h3
    | none => rw [q] at h; exact (S.e _ _ _ h X C EX W H0).loose
  | _ => exact (S.e _ _ _ h X C EX W H0).loose
theorem chkN {b : Bool} {u : Unit} (h : chk (!b) = some u) : b = false := by simpa using chk_ok h
theorem sAs (S : Snd F) (W : WX X c C EX) : ∀ {es : List Expr} {m : FM}, cAs F c es = some m → PA X es (tEs (X.ci H0 EX) (m C))
  | [], _, h => by cases h; exact pa_dnil
  | e :: es, m, h => by
    obtain ⟨u, h1, h⟩ := Option.bind_eq_some_iff.mp (show (chk (!isStar e)).bind _ = _ from h)
    obtain ⟨me, h2, h⟩ := Option.bind_eq_some_iff.mp h
    obtain ⟨ms, h3, h⟩ := Option.bind_eq_some_iff.mp h
    cases h
    exact pa_dcons (S.e _ _ _ h2 X C EX W H0) (sAs S W h3) (chkN h1)
theorem sOs (S : Snd F) (W : WX X c C EX) : ∀ {es : List Expr} {m : FM}, cOs F c es = some m → PA X es (tOs (X.ci H0 EX) (m C))
  | [], _, h => by cases h; exact pa_onil
  | e :: es, m, h => by
    obtain ⟨u, h1, h⟩ := Option.bind_eq_some_iff.mp (show (chk (!isStar e)).bind _ = _ from h)
    obtain ⟨me, h2, h⟩ := Option.bind_eq_some_iff.mp h
    obtain ⟨ms, h3, h⟩ := Option.bind_eq_some_iff.mp h
    cases h
    exact pa_ocons (sO S W h2) (sOs S W h3) (chkN h1)
theorem sKs (S : Snd F) (W : WX X c C EX) : ∀ {es : List Keyword} {m : FM}, cKs F c es = some m → PK X es (tEs (X.ci H0 EX) (m C))
  | [], _, h => by cases h; exact pk_dnil
  | ⟨n, e, p⟩ :: es, m, h => by
    obtain ⟨me, h2, h⟩ := Option.bind_eq_some_iff.mp (show (F.e c e).bind _ = _ from h)
    obtain ⟨ms, h3, h⟩ := Option.bind_eq_some_iff.mp h
    cases h
    exact pk_dcons (S.e _ _ _ h2 X C EX W H0) (sKs S W h3)
theorem kwNames_ok : ∀ {ks : List Keyword} {ns : List Str}, kwNames ks = some ns → ks.map (·.arg) = ns.map some
  | [], _, h => by cases h; rfl
  | ⟨some k, e, p⟩ :: r, ns, h => by
    obtain ⟨ks, h1, h2⟩ := Option.bind_eq_some_iff.mp (show (kwNames r).bind _ = _ from h)
    cases h2
    rw [List.map_cons, List.map_cons, kwNames_ok h1]
  | ⟨none, e, p⟩ :: r, ns, h => by cases h
theorem sPs (S : Snd F) (W : WX X c C EX) {pos : Pos} : ∀ {ks : List (Option Expr)} {vs : List Expr} {ms}, cPs F c ks vs = some ms → PPd X pos (X.ci H0 EX) ks vs (ms C) ∧ (ms C).length = ks.length
  | [], [], _, h => by cases h; exact ⟨.nil, rfl⟩
  | some k :: ks, v :: vs, ms, h => by
    obtain ⟨mk, h1, h⟩ := Option.bind_eq_some_iff.mp (show (F.e c k).bind _ = _ from h)
    obtain ⟨mv, h2, h⟩ := Option.bind_eq_some_iff.mp h
    obtain ⟨mr, h3, h⟩ := Option.bind_eq_some_iff.mp h
    cases h
    obtain ⟨i1, i2⟩ := sPs S W h3
    exact ⟨.cons (S.e _ _ _ h1 X C EX W H0) (S.e _ _ _ h2 X C EX W H0) i1, by simp [i2]⟩
  | none :: _, _, _, h => by cases h
  | some _ :: _, [], _, h => by cases h
  | [], _ :: _, _, h => by cases h
theorem sFl (S : Snd F) (W : WX X c C EX) {pos : Pos} : ∀ {ks : List (Option Expr)} {vs : List Expr} {ms}, cFl F c ks vs = some ms → FlD X pos (X.ci H0 EX) ks vs (ms C) ∧ (ms C).length = ks.length := by
  intro ks
  induction ks with
  | nil =>
    intro vs ms h
    cases vs with
    | nil => cases h; exact ⟨.nil, rfl⟩
    | cons => cases h
  | cons k ks ih =>
    intro vs ms h
    unfold cFl at h
    split at h
    · rename_i heq; cases heq
    · rename_i f j p ks' v vs' heq
      cases heq
      obtain ⟨u, h0, h⟩ := Option.bind_eq_some_iff.mp h
      obtain ⟨mv, h2, h⟩ := Option.bind_eq_some_iff.mp h
      obtain ⟨mr, h3, h⟩ := Option.bind_eq_some_iff.mp h
      cases h
      obtain ⟨i1, i2⟩ := ih h3
      exact ⟨.cons (by simpa using chk_ok h0) (S.e _ _ _ h2 X C EX W H0) i1, by simp [i2]⟩
    · cases h
theorem sPO (S : Snd F) (W : WX X c C EX) {e : Option Expr} {m} (h : cPO F c e = some m) : PO X e (tP (X.ci H0 EX) (m C)) := by
  cases e with
  | none => cases h; exact po_dnone
  | some e =>
    obtain ⟨mv, h2, h⟩ := Option.bind_eq_some_iff.mp (show (cO F c e).bind _ = _ from h)
    cases h
    exact po_dsome (sO S W h2)
theorem sBoolV (S : Snd F) (W : WX X c C EX) {op : BoolOp} {pos : Pos} : ∀ {es : List Expr} {m : EM}, cBoolV F c op es = some m → PE X (.BoolOp op es pos) (tE (X.ci H0 EX) (m C))
  | [], _, h => by cases h
  | [a], m, h => pe_done (S.e _ _ _ h X C EX W H0)
  | a :: b :: r, m, h => by
    obtain ⟨ma, h1, h⟩ := Option.bind_eq_some_iff.mp (show (F.e c a).bind _ = _ from h)
    obtain ⟨mb, h2, h⟩ := Option.bind_eq_some_iff.mp h
    cases h
    cases op with
    | And => exact pe_dand (S.e _ _ _ h1 X C EX W H0) (sBoolV S W h2)
    | Or => exact pe_dor (S.e _ _ _ h1 X C EX W H0) (sBoolV S W h2)
theorem sBoolT (S : Snd F) (W : WX X c C EX) {op : BoolOp} {pos : Pos} : ∀ {es : List Expr} {m : BM}, cBoolT F c op es = some m → PW X (.BoolOp op es pos) (tB (X.ci H0 EX) (m C))
  | [], _, h => by cases h
  | [a], m, h => by
    cases op with
    | And => exact pw_dand1 (S.t _ _ _ h X C EX W H0)
    | Or => exact pw_dor1 (S.t _ _ _ h X C EX W H0)
  | a :: b :: r, m, h => by
    obtain ⟨ma, h1, h⟩ := Option.bind_eq_some_iff.mp (show (F.t c a).bind _ = _ from h)
    obtain ⟨mb, h2, h⟩ := Option.bind_eq_some_iff.mp h
    cases h
    cases op with
    | And => exact pw_dand (S.t _ _ _ h1 X C EX W H0) (sBoolT S W h2)
    | Or => exact pw_dor (S.t _ _ _ h1 X C EX W H0) (sBoolT S W h2)
end
end RS

namespace RS
open PySem PySem.Spec PyProof.Rows L2

theorem noSet_it {e : Expr} {env : PySem.Env} (h : noSet e = true) : ∀ x, foldedSetIterable e env x = pure x := by
  intro x
  cases e <;> first | rfl | cases h
section
variable {F : Fs} {X : Cx} {c : CC} {C : Tab} {EX : XK} {H0 : Hp}
theorem and3 {a b d : Bool} (h : (a && b && d) = true) : a = true ∧ b = true ∧ d = true := by
  simp only [Bool.and_eq_true] at h
  exact ⟨h.1.1, h.1.2, h.2⟩
theorem tup_of {tg : Expr} (h : isTup tg = true) : ∃ es k p, tg = .Tuple es k p := by cases tg <;> first | exact ⟨_, _, _, rfl⟩ | cases h
theorem not_t {b : Bool} (h : (!b) = true) : b = false := by simpa using h
theorem sI (S : Snd F) (W : WX X c C EX) {tg e : Expr} {m : FM} (h : cI F c tg e = some m) : PI X tg e (tI (X.ci H0 EX) (m C)) ∧ noSet e = true := by
  obtain ⟨u, h0, h⟩ := Option.bind_eq_some_iff.mp (show (chk (noSet e)).bind _ = _ from h)
  refine ⟨?_, chk_ok h0⟩
  have gen : ∀ {e : Expr} {m : FM}, ((F.e c e).bind fun m => some fun C => mSeqI (m C)) = some m → PI X tg e (tI (X.ci H0 EX) (m C)) := fun h => by
    obtain ⟨me, h2, h⟩ := Option.bind_eq_some_iff.mp h
    cases h
    exact pi_dseq (S.e _ _ _ h2 X C EX W H0)
  split at h
  · split at h
    · rename_i hx
      obtain ⟨rfl, _⟩ := hx
      obtain ⟨u, h1, h⟩ := Option.bind_eq_some_iff.mp h
      obtain ⟨ma, h2, h⟩ := Option.bind_eq_some_iff.mp h
      cases h
      obtain ⟨g1, g2⟩ := Bool.and_eq_true_iff.mp (chk_ok h1)
      exact pi_drng1 W.st (glB_ok g1).1 (W.bl _ (by simp [bltNames])) (not_t g2) (sO S W h2)
    · split at h
      · rename_i hx
        obtain ⟨rfl, _⟩ := hx
        obtain ⟨u, h1, h⟩ := Option.bind_eq_some_iff.mp h
        obtain ⟨ma, h2, h⟩ := Option.bind_eq_some_iff.mp h
        cases h
        obtain ⟨g1, g2, g3⟩ := and3 (chk_ok h1)
        obtain ⟨es, k, p, rfl⟩ := tup_of g3
        exact pi_denum W.st (glB_ok g1).1 (W.bl _ (by simp [bltNames])) (not_t g2) (S.e _ _ _ h2 X C EX W H0)
      · exact gen h
  · split at h
    · rename_i hx
      obtain ⟨rfl, _⟩ := hx
      obtain ⟨u, h1, h⟩ := Option.bind_eq_some_iff.mp h
      obtain ⟨ma, h2, h⟩ := Option.bind_eq_some_iff.mp h
      obtain ⟨mb, h3, h⟩ := Option.bind_eq_some_iff.mp h
      cases h
      obtain ⟨g1, g2, g3⟩ := and3 (chk_ok h1)
      exact pi_drng2 W.st (glB_ok g1).1 (W.bl _ (by simp [bltNames])) (not_t g2) (not_t g3) (sO S W h2) (sO S W h3)
    · split at h
      · rename_i hx
        obtain ⟨rfl, _⟩ := hx
        obtain ⟨u, h1, h⟩ := Option.bind_eq_some_iff.mp h
        obtain ⟨ma, h2, h⟩ := Option.bind_eq_some_iff.mp h
        obtain ⟨mb, h3, h⟩ := Option.bind_eq_some_iff.mp h
        cases h
        obtain ⟨g0, g4⟩ := Bool.and_eq_true_iff.mp (chk_ok h1)
        obtain ⟨g1, g2, g3⟩ := and3 g0
        obtain ⟨es, k, p, rfl⟩ := tup_of g4
        exact pi_dzip W.st (glB_ok g1).1 (W.bl _ (by simp [bltNames])) (not_t g2) (not_t g3) (S.e _ _ _ h2 X C EX W H0) (S.e _ _ _ h3 X C EX W H0)
      · exact gen h
  · split at h
    · rename_i hx
      rw [hx]
      obtain ⟨u, h1, h⟩ := Option.bind_eq_some_iff.mp h
      obtain ⟨ma, h2, h⟩ := Option.bind_eq_some_iff.mp h
      cases h
      obtain ⟨g1, g2, g3⟩ := and3 (chk_ok h1)
      obtain ⟨es, k, p, rfl⟩ := tup_of g3
      exact pi_ditems (S.e _ _ _ h2 X C EX W H0) g1 g2
    · split at h
      · rename_i hx
        rw [hx]
        obtain ⟨u, h1, h⟩ := Option.bind_eq_some_iff.mp h
        obtain ⟨ma, h2, h⟩ := Option.bind_eq_some_iff.mp h
        cases h
        obtain ⟨g1, g2⟩ := Bool.and_eq_true_iff.mp (chk_ok h1)
        exact pi_dvals (S.e _ _ _ h2 X C EX W H0) g1 g2
      · exact gen h
  · exact gen h
theorem sIf (S : Snd F) {scope : Scope} {own : List (Str × Nat)} (W : WX X c C EX) (h1 : blkC c.x.N c.x.sc scope own = true) (h2 : stoOk c.x.sc scope own = true) {ifs : List Expr} {m : BM} (h : cIf F (c.blk scope own) ifs = some m) : IfsR X scope ifs (m C) := by
  unfold cIf at h
  split at h
  · cases h; exact .nil
  · exact .one fun s H Ca cl fp H0 => S.t _ _ _ h _ C noX (W.blk h1 h2 s H Ca cl fp) H0
  · cases h
theorem sLc (S : Snd F) (W : WX X c C EX) {elt tg iter : Expr} {ifs : List Expr} {scope : Scope} {m : FM} (h : cLc F c elt tg iter ifs scope = some m) :
    ∃ (own : List (Str × Nat)) (it : Env → M Ds) (is : List Nat) (g : Tg) (t : Env → M Bool) (e : Env → M D), m C = mLc it g t e (own.map (·.2)) ∧ blkC c.x.N c.x.sc scope own = true ∧ PI X tg iter (tI (X.ci H0 EX) it) ∧ (∀ i ∈ is, i ∈ own.map (·.2)) ∧
      (Runs X scope fun Y => ∀ H0, PG Y tg (tG (Y.ci H0 noX) is g)) ∧ IfsR X scope ifs t ∧ (Runs X scope fun Y => ∀ H0, PE Y elt (tE (Y.ci H0 noX) e)) ∧ ∀ x, foldedSetIterable iter X.env x = pure x := by
  unfold cLc at h
  generalize ho : ownOf c.x.N scope = own at h
  obtain ⟨u, h1, h⟩ := Option.bind_eq_some_iff.mp h
  obtain ⟨b1, b2⟩ := Bool.and_eq_true_iff.mp (chk_ok h1)
  obtain ⟨it, h2, h⟩ := Option.bind_eq_some_iff.mp h
  obtain ⟨g, h3, h⟩ := Option.bind_eq_some_iff.mp h
  obtain ⟨u, h4, h⟩ := Option.bind_eq_some_iff.mp h
  obtain ⟨t, h5, h⟩ := Option.bind_eq_some_iff.mp h
  obtain ⟨e, h6, h⟩ := Option.bind_eq_some_iff.mp h
  cases h
  obtain ⟨i1, i2⟩ := sI (H0 := H0) S W h2
  exact ⟨own, it C, g.1, g.2, t C, e C, rfl, b1, i1, subB_ok (chk_ok h4), fun s H Ca cl fp H0 => S.g _ _ _ h3 _ C noX (W.blk b1 b2 s H Ca cl fp) H0, sIf S W b1 b2 h5, fun s H Ca cl fp H0 => S.e _ _ _ h6 _ C noX (W.blk b1 b2 s H Ca cl fp) H0, noSet_it i2⟩
theorem sLc2 (S : Snd F) (W : WX X c C EX) {elt tg iter tg1 iter1 : Expr} {ifs ifs1 : List Expr} {scope : Scope} {m : FM} (h : cLc2 F c elt tg iter ifs tg1 iter1 ifs1 scope = some m) :
    ∃ (own : List (Str × Nat)) (it it1 : Env → M Ds) (is is1 : List Nat) (g g1 : Tg) (t t1 : Env → M Bool) (e : Env → M D), m C = mLc2 it g t it1 g1 t1 e (own.map (·.2)) is1 ∧ blkC c.x.N c.x.sc scope own = true ∧ PI X tg iter (tI (X.ci H0 EX) it) ∧ (∀ i ∈ is, i ∈ own.map (·.2)) ∧ (∀ i ∈ is1, i ∈ own.map (·.2)) ∧
      (Runs X scope fun Y => ∀ H0, PG Y tg (tG (Y.ci H0 noX) is g)) ∧ IfsR X scope ifs t ∧ (Runs X scope fun Y => ∀ H0, PI Y tg1 iter1 (tI (Y.ci H0 noX) it1)) ∧ (Runs X scope fun Y => ∀ H0, PG Y tg1 (tG (Y.ci H0 noX) is1 g1)) ∧ IfsR X scope ifs1 t1 ∧
      (Runs X scope fun Y => ∀ H0, PE Y elt (tE (Y.ci H0 noX) e)) ∧ (∀ x, foldedSetIterable iter X.env x = pure x) ∧ ∀ env x, foldedSetIterable iter1 env x = pure x := by
  unfold cLc2 at h
  generalize ho : ownOf c.x.N scope = own at h
  obtain ⟨u, h1, h⟩ := Option.bind_eq_some_iff.mp h
  obtain ⟨b1, b2⟩ := Bool.and_eq_true_iff.mp (chk_ok h1)
  obtain ⟨it, h2, h⟩ := Option.bind_eq_some_iff.mp h
  obtain ⟨g, h3, h⟩ := Option.bind_eq_some_iff.mp h
  obtain ⟨u, h4, h⟩ := Option.bind_eq_some_iff.mp h
  obtain ⟨t, h5, h⟩ := Option.bind_eq_some_iff.mp h
  obtain ⟨it1, h7, h⟩ := Option.bind_eq_some_iff.mp h
  obtain ⟨g1, h8, h⟩ := Option.bind_eq_some_iff.mp h
  obtain ⟨u, h9, h⟩ := Option.bind_eq_some_iff.mp h
  obtain ⟨t1, h10, h⟩ := Option.bind_eq_some_iff.mp h
  obtain ⟨e, h6, h⟩ := Option.bind_eq_some_iff.mp h
  cases h
  obtain ⟨i1, i2⟩ := sI (H0 := H0) S W h2
  have n1 : noSet iter1 = true := by
    obtain ⟨u, z, _⟩ := Option.bind_eq_some_iff.mp (show (chk (noSet iter1)).bind _ = _ from h7)
    exact chk_ok z
  exact ⟨own, it C, it1 C, g.1, g1.1, g.2, g1.2, t C, t1 C, e C, rfl, b1, i1, subB_ok (chk_ok h4), subB_ok (chk_ok h9), fun s H Ca cl fp H0 => S.g _ _ _ h3 _ C noX (W.blk b1 b2 s H Ca cl fp) H0, sIf S W b1 b2 h5,
    fun s H Ca cl fp H0 => (sI S (W.blk b1 b2 s H Ca cl fp) h7).1, fun s H Ca cl fp H0 => S.g _ _ _ h8 _ C noX (W.blk b1 b2 s H Ca cl fp) H0, sIf S W b1 b2 h10, fun s H Ca cl fp H0 => S.e _ _ _ h6 _ C noX (W.blk b1 b2 s H Ca cl fp) H0, noSet_it i2, fun _ => noSet_it n1⟩
theorem sF (S : Snd F) (W : WX X c C EX) {e : Expr} {m : FM} (h : cF F c e = some m) : PE X e (tF (X.ci H0 EX) (m C)) := by
  unfold cF at h
  split at h
  · obtain ⟨ms, h1, h⟩ := Option.bind_eq_some_iff.mp h
    cases h
    exact pe_dlst (sAs S W h1)
  · obtain ⟨own, it, is, g, t, e, em, b1, i1, i2, g1, t1, e1, n1⟩ := sLc (H0 := H0) S W h
    rw [em]
    exact pe_dlc W.st b1 i1 i2 g1 t1 e1 n1
  · obtain ⟨own, it, it1, is, is1, g, gg1, t, t1, e, em, b1, i1, i2, i3, g1, t1', r1, g2, t2, e1, n1, n2⟩ := sLc2 (H0 := H0) S W h
    rw [em]
    exact pe_dlc2 W.st b1 i1 i2 i3 g1 t1' r1 g2 t2 e1 n1 n2
  · obtain ⟨ms, h1, h⟩ := Option.bind_eq_some_iff.mp h
    cases h
    exact pe_dbackF (sO S W h1)
  · split at h
    · rename_i hx
      obtain ⟨rfl, _⟩ := hx
      obtain ⟨u, h1, h⟩ := Option.bind_eq_some_iff.mp h
      obtain ⟨ms, h2, h⟩ := Option.bind_eq_some_iff.mp h
      cases h
      obtain ⟨g1, g2⟩ := Bool.and_eq_true_iff.mp (chk_ok h1)
      exact pe_dcallTyF W.st (call_dList W.st) (glB_ok g1).1 (glB_ok g1).2 (W.bl _ (by simp [bltNames])) rfl g2 (sOs S W h2)
    · split at h
      · rename_i hx
        obtain ⟨rfl, _⟩ := hx
        obtain ⟨u, h1, h⟩ := Option.bind_eq_some_iff.mp h
        obtain ⟨ms, h2, h⟩ := Option.bind_eq_some_iff.mp h
        cases h
        obtain ⟨g1, g2⟩ := Bool.and_eq_true_iff.mp (chk_ok h1)
        exact pe_dcallBF W.st (call_sorted W.st.calm) (glB_ok g1).1 (glB_ok g1).2 (W.bl _ (by simp [bltNames])) rfl g2 (sOs S W h2)
      · cases h
  · split at h
    · rename_i hx
      obtain ⟨rfl, rfl, _⟩ := hx
      obtain ⟨u, h1, h⟩ := Option.bind_eq_some_iff.mp h
      obtain ⟨ms, h2, h⟩ := Option.bind_eq_some_iff.mp h
      cases h
      obtain ⟨g1, g2⟩ := Bool.and_eq_true_iff.mp (chk_ok h1)
      exact pe_dsortedR W.st (sO S W h2) (not_t g2) (glB_ok g1).1 (W.bl _ (by simp [bltNames]))
    · cases h
  · cases h
theorem sCall (S : Snd F) (W : WX X c C EX) {x : Str} {p pos : Pos} {args : List Expr} {kws : List Keyword} {m : EM} (h : cCall F c x args kws = some m) : PE X (.Call (.Name x p) args kws pos) (tE (X.ci H0 EX) (m C)) := by
  obtain ⟨u, h0, hh⟩ := Option.bind_eq_some_iff.mp (show (chk (glB c x && noStars args)).bind _ = _ from h)
  clear h
  revert hh
  intro h
  obtain ⟨g0, hn⟩ := Bool.and_eq_true_iff.mp (chk_ok h0)
  obtain ⟨g1, g2⟩ := glB_ok g0
  cases hs : c.sig.lookup x with
  | some ps =>
    rw [hs] at h
    have A := W.fn x ps hs
    have nd := W.nd x ps hs
    cases kws with
    | nil =>
      cases args with
      | nil =>
        obtain ⟨u, h1, h⟩ := Option.bind_eq_some_iff.mp h
        cases h
        have e : ps = [] := by simpa using chk_ok h1
        subst e
        exact pe_dcall0 W.st A W.pass g1 g2
      | cons e es =>
        obtain ⟨ms, h1, h⟩ := Option.bind_eq_some_iff.mp h
        cases h
        exact pe_dcall W.st A W.pass g1 g2 hn nd (sAs S W h1)
    | cons k ks =>
      obtain ⟨ns, h1, h⟩ := Option.bind_eq_some_iff.mp h
      obtain ⟨u, h2, h⟩ := Option.bind_eq_some_iff.mp h
      obtain ⟨ma, h3, h⟩ := Option.bind_eq_some_iff.mp h
      obtain ⟨mk, h4, h⟩ := Option.bind_eq_some_iff.mp h
      cases h
      cases args with
      | nil => exact pe_dcallKw0 W.st A W.pass g1 g2 (kwNames_ok h1) (chk_ok h2) (sKs S W h4)
      | cons e es => exact pe_dcallKw W.st A W.pass g1 g2 hn (kwNames_ok h1) (chk_ok h2) (sAs S W h3) (sKs S W h4)
  | none =>
    rw [hs] at h
    have blt : ∀ {e : Expr} {es : List Expr} {m : EM}, noStars (e :: es) = true → ((bltTab.lookup x).bind fun op => (cOs F c (e :: es)).bind fun m => some fun C => mCall op (m C)) = some m → PE X (.Call (.Name x p) (e :: es) [] pos) (tE (X.ci H0 EX) (m C)) := fun hn h => by
      obtain ⟨op, h1, h⟩ := Option.bind_eq_some_iff.mp h
      obtain ⟨ma, h3, h⟩ := Option.bind_eq_some_iff.mp h
      cases h
      exact pe_dblt W h1 g0 hn (sOs S W h3)
    dsimp only at h
    split at h
    · split at h
      · cases h
      · split at h
        · rename_i hx
          subst hx
          obtain ⟨T, h1, h⟩ := Option.bind_eq_some_iff.mp h
          obtain ⟨u, h2, h⟩ := Option.bind_eq_some_iff.mp h
          obtain ⟨ma, h3, h⟩ := Option.bind_eq_some_iff.mp h
          cases h
          obtain ⟨k1, k2, k3⟩ := isa_ok _ (lookup_in h1)
          obtain ⟨q1, q2⟩ := Bool.and_eq_true_iff.mp (chk_ok h2)
          obtain ⟨q3, q4⟩ := glB_ok q1
          obtain ⟨n1, _⟩ := Bool.and_eq_true_iff.mp hn
          exact pe_disa W.st k1 k2 g1 q3 q4 (W.bl _ (by simp [bltNames])) (W.bl _ k3) (not_t n1) (sO S W h3)
        · exact blt hn h
      · exact blt hn h
    · cases h
theorem sMeth (S : Snd F) (W : WX X c C EX) {o : Expr} {a : Str} {ap cp : Pos} {args : List Expr} {kws : List Keyword} {m : EM} (h : cMeth F c o a ap args kws cp = some m) : PE X (.Call (.Attribute o a ap) args kws cp) (tE (X.ci H0 EX) (m C)) := by
  obtain ⟨u, h0, hh⟩ := Option.bind_eq_some_iff.mp (show (chk (ap.endLine == cp.line)).bind _ = _ from h)
  clear h
  revert hh
  intro h
  have hl := chk_ok h0
  split at h
  · split at h
    · rename_i hx
      subst hx
      obtain ⟨u, h1, h⟩ := Option.bind_eq_some_iff.mp h
      obtain ⟨ma, h2, h⟩ := Option.bind_eq_some_iff.mp h
      cases h
      exact pe_dup W.st (sO S W h2) (chk_ok h1) hl
    · split at h
      · rename_i hx
        subst hx
        split at h
        · obtain ⟨u, h1, h⟩ := Option.bind_eq_some_iff.mp h
          obtain ⟨i, h2, h⟩ := Option.bind_eq_some_iff.mp h
          cases h
          have e := of_decide_eq_true (chk_ok h1)
          subst e
          obtain ⟨k1, k2, k3⟩ := ixOf_ok h2
          exact pe_dcellsPop W.st k1 k2 k3 hl
        · cases h
      · cases h
  · split at h
    · rename_i hx
      rw [hx]
      obtain ⟨u, h1, h⟩ := Option.bind_eq_some_iff.mp h
      obtain ⟨ma, h2, h⟩ := Option.bind_eq_some_iff.mp h
      obtain ⟨mk, h3, h⟩ := Option.bind_eq_some_iff.mp h
      obtain ⟨mx, h4, h⟩ := Option.bind_eq_some_iff.mp h
      cases h
      obtain ⟨g1, g2, g3⟩ := and3 (chk_ok h1)
      exact pe_dget W.st (sO S W h2) (S.e _ _ _ h3 X C EX W H0) (S.e _ _ _ h4 X C EX W H0) g1 hl (not_t g2) (not_t g3)
    · cases h
  · cases h
theorem sE (S : Snd F) (W : WX X c C EX) {e : Expr} {m : EM} (h : cE F c e = some m) : PE X e (tE (X.ci H0 EX) (m C)) := by
  unfold cE at h
  split at h
  · -- a name
    rename_i x p
    split at h
    · rename_i i q
      cases h
      obtain ⟨h1, h2, h3⟩ := ixOf_ok q
      exact pe_dvar W.st h1 h2 h3
    · obtain ⟨u, h1, h⟩ := Option.bind_eq_some_iff.mp h
      obtain ⟨d, h2, h⟩ := Option.bind_eq_some_iff.mp h
      cases h
      obtain ⟨g1, g2⟩ := glB_ok (chk_ok h1)
      exact pe_dglob W.st g1 g2 (W.gl _ _ h2)
  · cases h; exact pe_dint
  · cases h; exact pe_dbl
  · cases h; exact pe_dnon
  · cases h; exact pe_dstr
  · obtain ⟨ma, h1, h⟩ := Option.bind_eq_some_iff.mp h
    obtain ⟨mb, h2, h⟩ := Option.bind_eq_some_iff.mp h
    cases h
    exact pe_dbin W.st (sO S W h1) (sO S W h2)
  · obtain ⟨ma, h1, h⟩ := Option.bind_eq_some_iff.mp h
    cases h
    exact pe_dneg W.st (sO S W h1)
  · obtain ⟨ma, h1, h⟩ := Option.bind_eq_some_iff.mp h
    cases h
    exact pe_dnot (S.e _ _ _ h1 X C EX W H0)
  · obtain ⟨u, h0, h⟩ := Option.bind_eq_some_iff.mp h
    obtain ⟨ma, h1, h⟩ := Option.bind_eq_some_iff.mp h
    obtain ⟨mb, h2, h⟩ := Option.bind_eq_some_iff.mp h
    cases h
    exact pe_dcmp W.st (sO S W h1) (sO S W h2) (chk_ok h0)
  · obtain ⟨u, h0, h⟩ := Option.bind_eq_some_iff.mp h
    obtain ⟨ma, h1, h⟩ := Option.bind_eq_some_iff.mp h
    obtain ⟨mb, h2, h⟩ := Option.bind_eq_some_iff.mp h
    obtain ⟨mc, h3, h⟩ := Option.bind_eq_some_iff.mp h
    cases h
    exact pe_dchain W.st (sO S W h1) (sO S W h2) (sO S W h3) (chk_ok h0)
  · exact sBoolV S W h
  · obtain ⟨mt, h1, h⟩ := Option.bind_eq_some_iff.mp h
    obtain ⟨ma, h2, h⟩ := Option.bind_eq_some_iff.mp h
    obtain ⟨mb, h3, h⟩ := Option.bind_eq_some_iff.mp h
    cases h
    exact pe_difExp W.st (S.t _ _ _ h1 X C EX W H0) (S.e _ _ _ h2 X C EX W H0) (S.e _ _ _ h3 X C EX W H0)
  · obtain ⟨ma, h1, h⟩ := Option.bind_eq_some_iff.mp h
    cases h
    exact pe_dtup (sAs S W h1)
  · obtain ⟨ma, h1, h⟩ := Option.bind_eq_some_iff.mp h
    cases h
    exact (sF S W h1).frozen
  · obtain ⟨ma, h1, h⟩ := Option.bind_eq_some_iff.mp h
    cases h
    exact (sF S W h1).frozen
  · obtain ⟨ma, h1, h⟩ := Option.bind_eq_some_iff.mp h
    cases h
    exact pe_dback (sO S W h1)
  · obtain ⟨ma, h1, h⟩ := Option.bind_eq_some_iff.mp h
    obtain ⟨ml, h2, h⟩ := Option.bind_eq_some_iff.mp h
    obtain ⟨mh, h3, h⟩ := Option.bind_eq_some_iff.mp h
    cases h
    exact pe_dsl (sO S W h1) (sPO S W h2) (sPO S W h3)
  · obtain ⟨u, h0, h⟩ := Option.bind_eq_some_iff.mp h
    obtain ⟨ma, h1, h⟩ := Option.bind_eq_some_iff.mp h
    obtain ⟨mb, h2, h⟩ := Option.bind_eq_some_iff.mp h
    cases h
    exact pe_dixM W.st (sO S W h1) (sO S W h2) (chkN h0)
  · have disp : ∀ {k : Expr} {ks : List (Option Expr)} {vs : List Expr} {p : Pos} {m : EM}, ((cPs F c (some k :: ks) vs).bind fun ms => (chk (decide ((some k :: ks).length ≤ 15))).bind fun _ => some fun C => mDisp (ms C)) = some m → PE X (.Dict (some k :: ks) vs p) (tE (X.ci H0 EX) (m C)) := fun h => by
      obtain ⟨ms, h1, h⟩ := Option.bind_eq_some_iff.mp h
      obtain ⟨u, h2, h⟩ := Option.bind_eq_some_iff.mp h
      cases h
      obtain ⟨i1, i2⟩ := sPs S W h1
      have hl := of_decide_eq_true (chk_ok h2)
      exact pe_ddisp i1 (fun e => by rw [e] at i2; cases i2) (by rw [i2]; exact hl)
    split at h
    · split at h
      · rename_i hk
        obtain ⟨mc, h1, h⟩ := Option.bind_eq_some_iff.mp h
        obtain ⟨fl, h2, h⟩ := Option.bind_eq_some_iff.mp h
        obtain ⟨u, h3, h⟩ := Option.bind_eq_some_iff.mp h
        cases h
        obtain ⟨i1, i2⟩ := sFl S W h2
        rw [hk]
        exact pe_ddeck (S.f _ _ _ h1 X C EX W H0) i1 (by rw [i2]; exact of_decide_eq_true (chk_ok h3))
      · exact disp h
    · cases h; exact pe_dnew0
    · exact disp h
    · cases h
  · split at h
    · obtain ⟨ma, h1, h⟩ := Option.bind_eq_some_iff.mp h
      cases h
      exact (S.f _ _ _ h1 X C EX W H0).frozen
    · exact sCall S W h
  · exact sMeth S W h
  · cases h
theorem sT (S : Snd F) (W : WX X c C EX) {e : Expr} {m : BM} (h : cT F c e = some m) : PT X e (tB (X.ci H0 EX) (m C)) := by
  unfold cT at h
  cases q : cellsQ c e with
  | some i =>
    rw [q] at h
    cases h
    unfold cellsQ at q
    split at q
    · obtain ⟨u, h1, q⟩ := Option.bind_eq_some_iff.mp q
      have e := of_decide_eq_true (chk_ok h1)
      rw [e]
      obtain ⟨k1, k2, k3⟩ := ixOf_ok q
      exact pt_dcellsNe W.st k1 k2 k3
    · cases q
  | none =>
    rw [q] at h
    dsimp only at h
    split at h
    · obtain ⟨u, h0, h⟩ := Option.bind_eq_some_iff.mp h
      obtain ⟨ma, h1, h⟩ := Option.bind_eq_some_iff.mp h
      obtain ⟨mb, h2, h⟩ := Option.bind_eq_some_iff.mp h
      cases h
      exact pt_dcmp W.st (sO S W h1) (sO S W h2) (chk_ok h0)
    · obtain ⟨u, h0, h⟩ := Option.bind_eq_some_iff.mp h
      obtain ⟨ma, h1, h⟩ := Option.bind_eq_some_iff.mp h
      obtain ⟨mb, h2, h⟩ := Option.bind_eq_some_iff.mp h
      obtain ⟨mc, h3, h⟩ := Option.bind_eq_some_iff.mp h
      cases h
      exact pt_dchain W.st (sO S W h1) (sO S W h2) (sO S W h3) (chk_ok h0)
    · exact (sBoolT S W h).pt
    · obtain ⟨ma, h1, h⟩ := Option.bind_eq_some_iff.mp h
      cases h
      exact pt_dnot (S.t _ _ _ h1 X C EX W H0)
    · obtain ⟨u, h0, h⟩ := Option.bind_eq_some_iff.mp h
      obtain ⟨ma, h1, h⟩ := Option.bind_eq_some_iff.mp h
      cases h
      exact pt_dtru W.st (sO S W h1) (chk_ok h0)
theorem each_no {e : Expr} {es : List Expr} {env : PySem.Env} (h : isStar e = false) : assignEach (e :: es) env = (false, assign e env) :: assignEach es env := by cases e <;> first | rfl | cases h
theorem sGs (S : Snd F) (W : WX X c C EX) : ∀ {es : List Expr} {m : List Nat × Tgs}, cGs F c es = some m → PGs X es (tGs (X.ci H0 EX) m.1 m.2) ∧ (assignEach es X.env).length = es.length ∧ (assignEach es X.env).findIdx? (·.1) = none
  | [], _, h => by cases h; exact ⟨pgs_dnil, rfl, rfl⟩
  | e :: es, m, h => by
    obtain ⟨u, h0, h⟩ := Option.bind_eq_some_iff.mp (show (chk (!isStar e)).bind _ = _ from h)
    obtain ⟨g, h1, h⟩ := Option.bind_eq_some_iff.mp h
    obtain ⟨gs, h2, h⟩ := Option.bind_eq_some_iff.mp h
    cases h
    obtain ⟨i1, i2, i3⟩ := sGs S W h2
    have hs := each_no (es := es) (env := X.env) (chkN h0)
    refine ⟨pgs_dcons (S.g _ _ _ h1 X C EX W H0) i1 (by rw [hs]; rfl), by rw [hs]; simp [i2], ?_⟩
    rw [hs, List.findIdx?_cons]
    simp [i3]
theorem sG (S : Snd F) (W : WX X c C EX) {e : Expr} {m : List Nat × Tg} (h : cG F c e = some m) : PG X e (tG (X.ci H0 EX) m.1 m.2) := by
  unfold cG at h
  split at h
  · obtain ⟨u, h0, h⟩ := Option.bind_eq_some_iff.mp h
    obtain ⟨i, h1, h⟩ := Option.bind_eq_some_iff.mp h
    cases h
    exact pg_dname W.st (by simpa using (findIx_ok h1).2) (chk_ok h0)
  · obtain ⟨gs, h0, h⟩ := Option.bind_eq_some_iff.mp h
    cases h
    obtain ⟨i1, i2, i3⟩ := sGs (H0 := H0) S W h0
    exact pg_dtup W.st i1 i2 i3
  · cases h
end
theorem snd_step {F : Fs} (S : Snd F) : Snd (fsStep F) :=
  ⟨fun _ _ _ h _ _ _ W _ => sE S W h, fun _ _ _ h _ _ _ W _ => sT S W h, fun _ _ _ h _ _ _ W _ => sF S W h, fun _ _ _ h _ _ _ W _ => sG S W h⟩
theorem snd_fs : ∀ n, Snd (fs n)
  | 0 => ⟨(fun _ _ _ h => by cases h), (fun _ _ _ h => by cases h), (fun _ _ _ h => by cases h), (fun _ _ _ h => by cases h)⟩
  | n + 1 => snd_step (snd_fs n)
end RS

namespace RS
open PySem PySem.Spec PyProof.Rows L2

/-! ### statements compiled -/
def whileFuel : Nat := 1048576
structure Ss where
  s : CC → Stmt → Option SM
def cSs (G : Ss) (c : CC) : List Stmt → Option SM
  | [] => some fun _ => mNext
  | [s] => G.s c s
  | s :: t :: r => (G.s c s).bind fun m => (cSs G c (t :: r)).bind fun n => some fun C => mSeq (m C) (n C)
def mutB (c : CC) (x : Str) : Bool := c.muts.contains x
/-- name = e -/
def cSet (F : Fs) (c : CC) (x : Str) (p : Pos) (e : Expr) (line : Nat) : Option SM :=
  (chk (stoB c.x x)).bind fun _ => (findIx c.x.N x 0).bind fun i => match e with
  | .ListComp elt [⟨tg, iter, ifs, 0⟩] scope cp => if swapB c x p scope cp = true then (cLc F c elt tg iter ifs scope).bind fun m => some fun C => if mutB c x = true then mSetO (m C) i else mSetV (m C) i
    else (F.f c e).bind fun m => some fun C => if mutB c x = true then mSetO (m C) i else mSetV (m C) i
  | .ListComp elt [⟨tg, iter, ifs, 0⟩, ⟨tg1, iter1, ifs1, 0⟩] scope cp => if swapB c x p scope cp = true then (cLc2 F c elt tg iter ifs tg1 iter1 ifs1 scope).bind fun m => some fun C => if mutB c x = true then mSetO (m C) i else mSetV (m C) i
    else (F.f c e).bind fun m => some fun C => if mutB c x = true then mSetO (m C) i else mSetV (m C) i
  | e => (chk (!isComp e)).bind fun _ => if mutB c x = true then (F.f c e).bind fun m => some fun C => mSetO (m C) i else (F.e c e).bind fun m => some fun C => mAsg (m C) (gN i)
/-- a dict comprehension; name = a new dict of its own -/
def cDc (F : Fs) (c : CC) (kx vx tg iter : Expr) (ifs : List Expr) (scope : Scope) : Option (Tab → Env → M Dp2) :=
  (chk (blkC c.x.N c.x.sc scope (ownOf c.x.N scope) && stoOk c.x.sc scope (ownOf c.x.N scope))).bind fun _ =>
  (cI F c tg iter).bind fun it => (F.g (c.blk scope (ownOf c.x.N scope)) tg).bind fun g => (chk (subB g.1 ((ownOf c.x.N scope).map (·.2)))).bind fun _ =>
  (cIf F (c.blk scope (ownOf c.x.N scope)) ifs).bind fun t => (F.e (c.blk scope (ownOf c.x.N scope)) kx).bind fun ek => (F.e (c.blk scope (ownOf c.x.N scope)) vx).bind fun ev =>
  some fun C => mDc (it C) g.2 (t C) (ek C) (ev C) ((ownOf c.x.N scope).map (·.2))
def cSetD (F : Fs) (c : CC) (x : Str) (p : Pos) (e : Expr) : Option SM := (chk (stoB c.x x && mutB c x)).bind fun _ => (findIx c.x.N x 0).bind fun i => match e with
  | .Dict [] [] _ => some fun _ => mSetD (fun _ => pure []) i
  | .DictComp kx vx [⟨tg, iter, ifs, 0⟩] scope _ => (cDc F c kx vx tg iter ifs scope).bind fun m => some fun C => mSetD (m C) i
  | _ => none
def orSM (a b : Option SM) : Option SM := match a with
  | some m => some m
  | none => b
def nmIx (c : CC) (x : Str) : Option Nat := (chk (decide (c.x.sc.names.lookup x = some .local))).bind fun _ => findIx c.x.N x 0
/-- what goes into a slot: own ones for names that are changed in place -/
def cSl1 (F : Fs) (c : CC) (x : Str) (e : Expr) : Option (Tab → (Env → M Sls) → Env → M Sls) :=
  (chk (!isStar e)).bind fun _ => if mutB c x = true then match e with
    | .Dict [] [] _ => some fun _ r => mSDic (fun _ => pure []) r
    | .DictComp kx vx [⟨tg, iter, ifs, 0⟩] scope _ => (cDc F c kx vx tg iter ifs scope).bind fun m => some fun C r => mSDic (m C) r
    | e => (F.f c e).bind fun m => some fun C r => mSLst (m C) r
  else (F.e c e).bind fun m => some fun C r => mSVal (m C) r
def cSls (F : Fs) (c : CC) : List Str → List Expr → Option (Tab → Env → M Sls)
  | [], [] => some fun _ => mSNil
  | x :: xs, e :: es => (cSl1 F c x e).bind fun k => (cSls F c xs es).bind fun r => some fun C => k C (r C)
  | _, _ => none
def cOwns (F : Fs) (c : CC) (xs : List Str) (es : List Expr) : Option (Tab → Env → M Sls) := (chk (xs.any (mutB c))).bind fun _ => cSls F c xs es
/-- own slots where the tuple is built first -/
def cParT (F : Fs) (c : CC) : List Expr → List Expr → Option SM
  | [.Name x _, .Name y _], [a, b] => (chk (stoB c.x x && stoB c.x y)).bind fun _ => (findIx c.x.N x 0).bind fun i => (findIx c.x.N y 0).bind fun j => (chk (decide (i ≠ j))).bind fun _ => (cOwns F c [x, y] [a, b]).bind fun m => some fun C => mParO [i, j] (m C)
  | _, _ => none
def cPar (F : Fs) (c : CC) (ts : List Expr) (k : Nat) (p : Pos) (vs : List Expr) (k2 : Nat) (p2 : Pos) : Option SM := (swapC c.x.sc ts vs).bind fun r => match r with
  | none => orSM (cParT F c ts vs) ((F.e c (.Tuple vs k2 p2)).bind fun m => (F.g c (.Tuple ts k p)).bind fun g => some fun C => mAsg (m C) g.2)
  | some [x, y] => match ts, vs with
    | [.Name x' _, .Name y' _], [a, b] => (chk (decide (x = x') && decide (y = y'))).bind fun _ => (nmIx c x).bind fun i => (nmIx c y).bind fun j => (chk (decide (i ≠ j))).bind fun _ => orSM ((cOwns F c [x, y] [a, b]).bind fun m => some fun C => mParO [i, j] (m C)) ((cAs F c [a, b]).bind fun m => some fun C => mPar2 i j (m C))
    | _, _ => none
  | some [x, y, z] => match ts, vs with
    | [.Name x' _, .Name y' _, .Name z' _], [a, b, e] => (chk (decide (x = x') && decide (y = y') && decide (z = z'))).bind fun _ => (nmIx c x).bind fun i => (nmIx c y).bind fun j => (nmIx c z).bind fun l => (chk (decide (i ≠ j) && decide (i ≠ l) && decide (j ≠ l))).bind fun _ => orSM ((cOwns F c [x, y, z] [a, b, e]).bind fun m => some fun C => mParO [i, j, l] (m C)) ((cAs F c [a, b, e]).bind fun m => some fun C => mPar3 i j l (m C))
    | _, _ => none
  | _ => none
/-- an expression for its deed -/
def cX (F : Fs) (c : CC) (e : Expr) : Option SM := match e with
  | .Constant (.str _) _ _ => some fun _ => mNext
  | .Call (.Attribute (.Subscript (.Name x _) (.Constant (.str k) _ _) _) a ap) [v] [] cp => (chk (decide (k = cellsKey) && decide (a = "append") && (ap.endLine == cp.line) && !isStar v)).bind fun _ => (ixOf c x).bind fun i => (F.e c v).bind fun m => some fun C => mCellsApp i (m C)
  | .Call (.Attribute (.Name x _) a ap) [v] [] cp => (chk ((ap.endLine == cp.line) && !isStar v)).bind fun _ => (ixOf c x).bind fun i =>
    if a = "append" then (F.e c v).bind fun m => some fun C => mApp i (m C)
    else if a = "extend" then (F.f c v).bind fun m => some fun C => mExt i (m C)
    else none
  | e => (chk (!isComp e)).bind fun _ => (F.e c e).bind fun m => some fun C => mDrop (m C)
def cS (F : Fs) (G : Ss) (c : CC) : Stmt → Option SM
  | .Return (some e) _ => (F.e c e).bind fun m => some fun C => mRet (m C)
  | .Return none _ => some fun _ => mRet (mC .non)
  | .If t a b _ => (F.t c t).bind fun t => (cSs G c a).bind fun m => (cSs G c b).bind fun n => some fun C => mIf (t C) (m C) (n C)
  | .For tg iter body [] _ => (cI F c tg iter).bind fun it => (F.g c tg).bind fun g => (cSs G c body).bind fun b => some fun C => mFor (it C) g.2 (b C)
  | .While t body [] _ => (F.t c t).bind fun t => (cSs G c body).bind fun b => some fun C => mWhile (t C) (b C) whileFuel
  | .Pass _ => some fun _ => mNext
  | .Break _ => some fun _ => mBrk
  | .Continue _ => some fun _ => mCnt
  | .Expr e _ => cX F c e
  | .Assign [.Name x p] e pos => orSM (cSetD F c x p e) (cSet F c x p e pos.line)
  | .Assign [.Tuple ts k p] e _ => match e with
    | .Tuple vs k2 p2 => cPar F c ts k p vs k2 p2
    | e => (chk (!isComp e && !isTup e)).bind fun _ => (F.e c e).bind fun m => (F.g c (.Tuple ts k p)).bind fun g => some fun C => mAsg (m C) g.2
  | .Assign [.Subscript (.Name x _) ix _] e _ => (chk (!isSl ix)).bind fun _ => (ixOf c x).bind fun i => (F.e c e).bind fun m => (cO F c ix).bind fun n => some fun C => mPut i (m C) (n C)
  | .Raise .. => some fun _ _ => M.stop
  | _ => none
/-! ### x.pop(..) within expressions -/
def cXs (f : Expr → Option (Tab → Env → M (D × Env))) : List Expr → Option (Tab → Env → M (List D × Env))
  | [] => some fun _ => mNilX
  | e :: es => (f e).bind fun a => (cXs f es).bind fun b => some fun C => mConsX (a C) (b C)
def cXe (F : Fs) (c : CC) : Nat → Expr → Option (Tab → Env → M (D × Env))
  | 0, _ => none
  | n + 1, e => match F.e c e with
    | some m => some fun C => mLift (m C)
    | none => match e with
      | .Call (.Attribute (.Name x _) a ap) [v] [] cp => (chk (decide (a = "pop") && (ap.endLine == cp.line) && !isStar v)).bind fun _ => (ixOf c x).bind fun i => (cXe F c n v).bind fun m => some fun C => mPopX i (m C)
      | .Call (.Name x _) (a :: as) [] _ => (chk (glB c x && noStars (a :: as))).bind fun _ => (c.sig.lookup x).bind fun ps => (cXs (cXe F c n) (a :: as)).bind fun m => some fun C => mCallX (lenG ps.length (C x)) (m C)
      | _ => none
def cSX (F : Fs) (c : CC) : Stmt → Option SM
  | .Expr (.Call (.Attribute (.Name x q) a ap) [v] [] cp) _ =>
    if a = "append" then (chk ((ap.endLine == cp.line) && !isStar v)).bind fun _ => (ixOf c x).bind fun i => (cXe F c 20 v).bind fun m => some fun C => mAppX i (m C)
    else (cXe F c 20 (.Call (.Attribute (.Name x q) a ap) [v] [] cp)).bind fun m => some fun C => mDropX (m C)
  | .Assign [.Name x _] e _ => (chk (stoB c.x x && !isComp e && !mutB c x)).bind fun _ => (findIx c.x.N x 0).bind fun i => (cXe F c 20 e).bind fun m => some fun C => mAsgX (m C) (gN i)
  | _ => none
/-- names at a place that wants a frozen thing; soft: a place that reads an own one as well -/
def hardE (c : CC) : Nat → Bool → Expr → List Str
  | 0, _, _ => []
  | n + 1, soft, e => match e with
    | .Name x _ => if soft then [] else [x]
    | .Tuple es _ _ => es.flatMap (hardE c n false)
    | .List es _ => es.flatMap (hardE c n false)
    | .BinOp a _ b _ => hardE c n true a ++ hardE c n true b
    | .Compare a _ bs _ => hardE c n true a ++ bs.flatMap (hardE c n true)
    | .UnaryOp _ a _ => hardE c n true a
    | .BoolOp _ es _ => es.flatMap (hardE c n soft)
    | .IfExp t a b _ => hardE c n true t ++ hardE c n soft a ++ hardE c n soft b
    | .Subscript a b _ => hardE c n true a ++ hardE c n true b
    | .Slice a b d _ => (a.toList ++ b.toList ++ d.toList).flatMap (hardE c n true)
    | .Dict ks vs _ => (ks.flatMap fun k => k.toList.flatMap (hardE c n false)) ++ vs.flatMap (hardE c n false)
    | .ListComp e gs _ _ => hardE c n false e ++ gs.flatMap fun g => hardE c n false g.iter ++ g.ifs.flatMap (hardE c n true)
    | .DictComp k v gs _ _ => hardE c n false k ++ hardE c n false v ++ gs.flatMap fun g => hardE c n false g.iter ++ g.ifs.flatMap (hardE c n true)
    | .Call (.Name f _) as ks _ => as.flatMap (hardE c n ((c.sig.lookup f).isNone && !(f == "enumerate") && !(f == "zip"))) ++ ks.flatMap fun k => hardE c n false k.value
    | .Call (.Attribute o a _) as _ _ => hardE c n (!(a == "items") && !(a == "values")) o ++ as.flatMap (hardE c n false)
    | _ => []
def hardS (c : CC) : Stmt → List Str
  | .Return (some e) _ => hardE c 40 false e
  | .Assign _ e _ => hardE c 40 false e
  | .For _ it _ _ _ => hardE c 40 false it
  | .If t _ _ _ => hardE c 40 true t
  | .Expr e _ => hardE c 40 true e
  | _ => []
def hardN (c : CC) (st : Stmt) : List Nat := (c.muts.filter fun x => (hardS c st).contains x).filterMap fun x => findIx c.x.N x 0
def frzSeq : List Nat → MS → MS
  | [], m => m
  | i :: is, m => mSeq (mFrz i) (frzSeq is m)
def cSF (F : Fs) (G : Ss) (c : CC) (st : Stmt) : Option SM := (orSM (cS F G c st) (cSX F c st)).map fun m C => frzSeq (hardN c st) (m C)
def ss (n : Nat) : Nat → Ss
  | 0 => ⟨fun _ _ => none⟩
  | k + 1 => ⟨cSF (fs n) (ss n k)⟩
structure SndS (G : Ss) : Prop where
  s : ∀ c x m, G.s c x = some m → ∀ X C EX, WX X c C EX → PassesOwn (model X.prog X.w) X.A X.env X.xe → ∀ H0 γ0, PS X x (tS (X.ci H0 EX) γ0 (m C))
section
variable {F : Fs} {G : Ss} {X : Cx} {c : CC} {C : Tab} {EX : XK} {H0 : Hp} {γ0 : Gh} {pos : Pos}
theorem sSs (S : SndS G) (W : WX X c C EX) (hp : PassesOwn (model X.prog X.w) X.A X.env X.xe) : ∀ {st : List Stmt} {m : SM}, cSs G c st = some m → PSs X st (tS (X.ci H0 EX) γ0 (m C))
  | [], _, h => by cases h; exact pss_dnil
  | [s], m, h => pss_done (S.s _ _ _ h X C EX W hp H0 γ0)
  | s :: t :: r, m, h => by
    obtain ⟨m1, h1, h⟩ := Option.bind_eq_some_iff.mp (show (G.s c s).bind _ = _ from h)
    obtain ⟨m2, h2, h⟩ := Option.bind_eq_some_iff.mp h
    cases h
    exact pss_dcons (S.s _ _ _ h1 X C EX W hp H0 γ0) (sSs S W hp h2)
theorem ifS {P : MS → Prop} {b : Bool} {m n : MS} (h : P m ∧ P n) : P (if b = true then n else m) := by
  cases b with
  | true => exact h.2
  | false => exact h.1
theorem sSet (S : Snd F) (W : WX X c C EX) {x : Str} {p : Pos} {e : Expr} {m : SM} (h : cSet F c x p e pos.line = some m) : PS X (.Assign [.Name x p] e pos) (tS (X.ci H0 EX) γ0 (m C)) := by
  obtain ⟨u, h0, hh⟩ := Option.bind_eq_some_iff.mp (show (chk (stoB c.x x)).bind _ = _ from h)
  clear h
  revert hh
  intro h
  have hx := chk_ok h0
  obtain ⟨i, h1, h⟩ := Option.bind_eq_some_iff.mp h
  have hi : c.x.N[i]? = some x := by simpa using (findIx_ok h1).2
  split at h
  · split at h
    · rename_i hs
      obtain ⟨hsw, hl⟩ := swapB_yes (l := pos.line) W.st hs
      obtain ⟨ml, h2, h⟩ := Option.bind_eq_some_iff.mp h
      cases h
      obtain ⟨own, it, is, g, t, e, em, b1, i1, i2, g1, t1, e1, n1⟩ := sLc (H0 := H0) S W h2
      show PS X _ (tS (X.ci H0 EX) γ0 (if mutB c x = true then mSetO (ml C) i else mSetV (ml C) i))
      rw [em]
      exact ifS (P := fun m => PS X _ (tS (X.ci H0 EX) γ0 m)) (ps_dsetLc W.st hi hl (hsw) b1 i1 i2 g1 t1 e1 n1)
    · rename_i hs
      obtain ⟨ml, h2, h⟩ := Option.bind_eq_some_iff.mp h
      cases h
      exact ifS (P := fun m => PS X _ (tS (X.ci H0 EX) γ0 m)) (ps_dsetF W.st hi hx (S.f _ _ _ h2 X C EX W H0) (swapB_no W.st (by simpa using hs)))
  · split at h
    · rename_i hs
      obtain ⟨hsw, hl⟩ := swapB_yes (l := pos.line) W.st hs
      obtain ⟨ml, h2, h⟩ := Option.bind_eq_some_iff.mp h
      cases h
      obtain ⟨own, it, it1, is, is1, g, gg1, t, t1, e, em, b1, i1, i2, i3, g1, t1', r1, g2, t2, e1, n1, n2⟩ := sLc2 (H0 := H0) S W h2
      show PS X _ (tS (X.ci H0 EX) γ0 (if mutB c x = true then mSetO (ml C) i else mSetV (ml C) i))
      rw [em]
      exact ifS (P := fun m => PS X _ (tS (X.ci H0 EX) γ0 m)) (ps_dsetLc2 W.st hi hl hsw b1 i1 i2 i3 g1 t1' r1 g2 t2 e1 n1 n2)
    · rename_i hs
      obtain ⟨ml, h2, h⟩ := Option.bind_eq_some_iff.mp h
      cases h
      exact ifS (P := fun m => PS X _ (tS (X.ci H0 EX) γ0 m)) (ps_dsetF W.st hi hx (S.f _ _ _ h2 X C EX W H0) (swapB_no W.st (by simpa using hs)))
  · rename_i e _ _
    obtain ⟨u, h2, h⟩ := Option.bind_eq_some_iff.mp h
    have nc := chkN h2
    split at h
    · obtain ⟨ml, h3, h⟩ := Option.bind_eq_some_iff.mp h
      cases h
      exact (ps_dsetF W.st hi hx (S.f _ _ _ h3 X C EX W H0) (noComp_swap nc)).2
    · obtain ⟨ml, h3, h⟩ := Option.bind_eq_some_iff.mp h
      cases h
      exact ps_dasg (S.e _ _ _ h3 X C EX W H0) (pg_dname W.st hi hx) (noComp_sole nc) (by cases e <;> rfl) rfl
theorem sDc (S : Snd F) (W : WX X c C EX) {kx vx tg iter : Expr} {ifs : List Expr} {scope : Scope} {m : Tab → Env → M Dp2} (h : cDc F c kx vx tg iter ifs scope = some m) :
    ∃ (own : List (Str × Nat)) (it : Env → M Ds) (is : List Nat) (g : Tg) (t : Env → M Bool) (ek ev : Env → M D), m C = mDc it g t ek ev (own.map (·.2)) ∧ blkC c.x.N c.x.sc scope own = true ∧ PI X tg iter (tI (X.ci H0 EX) it) ∧ (∀ i ∈ is, i ∈ own.map (·.2)) ∧
      (Runs X scope fun Y => ∀ H0, PG Y tg (tG (Y.ci H0 noX) is g)) ∧ IfsR X scope ifs t ∧ (Runs X scope fun Y => ∀ H0, PE Y kx (tE (Y.ci H0 noX) ek)) ∧ (Runs X scope fun Y => ∀ H0, PE Y vx (tE (Y.ci H0 noX) ev)) ∧ ∀ x, foldedSetIterable iter X.env x = pure x := by
  unfold cDc at h
  generalize ho : ownOf c.x.N scope = own at h
  obtain ⟨u, h1, h⟩ := Option.bind_eq_some_iff.mp h
  obtain ⟨b1, b2⟩ := Bool.and_eq_true_iff.mp (chk_ok h1)
  obtain ⟨it, h2, h⟩ := Option.bind_eq_some_iff.mp h
  obtain ⟨g, h3, h⟩ := Option.bind_eq_some_iff.mp h
  obtain ⟨u, h4, h⟩ := Option.bind_eq_some_iff.mp h
  obtain ⟨t, h5, h⟩ := Option.bind_eq_some_iff.mp h
  obtain ⟨ek, h6, h⟩ := Option.bind_eq_some_iff.mp h
  obtain ⟨ev, h7, h⟩ := Option.bind_eq_some_iff.mp h
  cases h
  obtain ⟨i1, i2⟩ := sI (H0 := H0) S W h2
  exact ⟨own, it C, g.1, g.2, t C, ek C, ev C, rfl, b1, i1, subB_ok (chk_ok h4), fun s H Ca cl fp H0 => S.g _ _ _ h3 _ C noX (W.blk b1 b2 s H Ca cl fp) H0, sIf S W b1 b2 h5, fun s H Ca cl fp H0 => S.e _ _ _ h6 _ C noX (W.blk b1 b2 s H Ca cl fp) H0, fun s H Ca cl fp H0 => S.e _ _ _ h7 _ C noX (W.blk b1 b2 s H Ca cl fp) H0, noSet_it i2⟩
theorem sSetD (S : Snd F) (W : WX X c C EX) {x : Str} {p : Pos} {e : Expr} {m : SM} (h : cSetD F c x p e = some m) : PS X (.Assign [.Name x p] e pos) (tS (X.ci H0 EX) γ0 (m C)) := by
  obtain ⟨u, h0, hh⟩ := Option.bind_eq_some_iff.mp (show (chk (stoB c.x x && mutB c x)).bind _ = _ from h)
  clear h
  revert hh
  intro h
  obtain ⟨hx, _⟩ := Bool.and_eq_true_iff.mp (chk_ok h0)
  obtain ⟨i, h1, h⟩ := Option.bind_eq_some_iff.mp h
  have hi : c.x.N[i]? = some x := by simpa using (findIx_ok h1).2
  split at h
  · cases h
    exact ps_dsetD W.st hi hx pe_dnewD rfl
  · rename_i kx vx tg iter ifs scope cp _
    obtain ⟨ml, h2, h⟩ := Option.bind_eq_some_iff.mp h
    cases h
    obtain ⟨own, it, is, g, t, ek, ev, em, b1, i1, i2, g1, t1, e1, e2, n1⟩ := sDc (H0 := H0) S W h2
    show PS X _ (tS (X.ci H0 EX) γ0 (mSetD (ml C) i))
    rw [em]
    cases hs : swapB c x p scope cp with
    | true =>
      obtain ⟨hsw, hl⟩ := swapB_yes (l := pos.line) (elt := kx) (gs := [⟨tg, iter, ifs, 0⟩]) W.st hs
      exact ps_dsetDc W.st hi hl hsw b1 i1 i2 g1 t1 e1 e2 n1
    | false => exact ps_dsetD W.st hi hx (pe_ddc W.st b1 i1 i2 g1 t1 e1 e2 n1) (swapB_no (l := pos.line) (elt := kx) (gs := [⟨tg, iter, ifs, 0⟩]) W.st hs)
  · cases h
theorem nmIx_ok {x : Str} {i : Nat} (h : nmIx c x = some i) : c.x.N[i]? = some x ∧ c.x.sc.names.lookup x = some .local := by
  obtain ⟨u, h1, h2⟩ := Option.bind_eq_some_iff.mp h
  exact ⟨by simpa using (findIx_ok h2).2, of_decide_eq_true (chk_ok h1)⟩
theorem sSl1 (S : Snd F) (W : WX X c C EX) {x : Str} {e : Expr} {k : Tab → (Env → M Sls) → Env → M Sls} (h : cSl1 F c x e = some k) {es : List Expr} {r : Env → M Sls} (hs : PA X es (tSl (X.ci H0 EX) r)) : PA X (e :: es) (tSl (X.ci H0 EX) (k C r)) := by
  obtain ⟨u, h0, hh⟩ := Option.bind_eq_some_iff.mp (show (chk (!isStar e)).bind _ = _ from h)
  clear h
  revert hh
  intro h
  have ns : isStar e = false := by simpa using chk_ok h0
  split at h
  · split at h
    · cases h
      exact pa_sdic pe_dnewD hs ns
    · obtain ⟨m, h1, h⟩ := Option.bind_eq_some_iff.mp h
      cases h
      obtain ⟨own, it, is, g, t, ek, ev, em, b1, i1, i2, g1, t1, e1, e2, n1⟩ := sDc (H0 := H0) S W h1
      show PA X _ (tSl (X.ci H0 EX) (mSDic (m C) r))
      rw [em]
      exact pa_sdic (pe_ddc W.st b1 i1 i2 g1 t1 e1 e2 n1) hs ns
    · obtain ⟨m, h1, h⟩ := Option.bind_eq_some_iff.mp h
      cases h
      exact pa_slst (S.f _ _ _ h1 X C EX W H0) hs ns
  · obtain ⟨m, h1, h⟩ := Option.bind_eq_some_iff.mp h
    cases h
    exact pa_sval (S.e _ _ _ h1 X C EX W H0) hs ns
theorem sSls (S : Snd F) (W : WX X c C EX) : ∀ {xs : List Str} {es : List Expr} {m : Tab → Env → M Sls}, cSls F c xs es = some m → PA X es (tSl (X.ci H0 EX) (m C))
  | [], [], m, h => by
    cases h
    exact pa_snil
  | x :: xs, e :: es, m, h => by
    obtain ⟨k, h1, h⟩ := Option.bind_eq_some_iff.mp (show (cSl1 F c x e).bind _ = _ from h)
    obtain ⟨r, h2, h⟩ := Option.bind_eq_some_iff.mp h
    cases h
    exact sSl1 S W h1 (sSls S W h2)
  | [], _ :: _, m, h => by cases h
  | _ :: _, [], m, h => by cases h
theorem sOwns (S : Snd F) (W : WX X c C EX) {xs : List Str} {es : List Expr} {m : Tab → Env → M Sls} (h : cOwns F c xs es = some m) : PA X es (tSl (X.ci H0 EX) (m C)) := by
  obtain ⟨u, _, h⟩ := Option.bind_eq_some_iff.mp (show (chk _).bind _ = _ from h)
  exact sSls S W h
theorem orSM_of {a b : Option SM} {m : SM} (h : orSM a b = some m) : a = some m ∨ b = some m := by
  unfold orSM at h
  split at h
  · exact .inl h
  · exact .inr h
theorem sParT (S : Snd F) (W : WX X c C EX) {ts vs : List Expr} {k k2 : Nat} {p p2 : Pos} {m : SM} (h : cParT F c ts vs = some m) (sw : swappedStores [.Tuple ts k p] (.Tuple vs k2 p2) X.env = pure none) : PS X (.Assign [.Tuple ts k p] (.Tuple vs k2 p2) pos) (tS (X.ci H0 EX) γ0 (m C)) := by
  unfold cParT at h
  split at h
  · obtain ⟨u, h1, h⟩ := Option.bind_eq_some_iff.mp h
    obtain ⟨i, h2, h⟩ := Option.bind_eq_some_iff.mp h
    obtain ⟨j, h3, h⟩ := Option.bind_eq_some_iff.mp h
    obtain ⟨u, h4, h⟩ := Option.bind_eq_some_iff.mp h
    obtain ⟨ma, h5, h⟩ := Option.bind_eq_some_iff.mp h
    cases h
    obtain ⟨s1, s2⟩ := Bool.and_eq_true_iff.mp (chk_ok h1)
    have hi := (by simpa using (findIx_ok h2).2 : c.x.N[i]? = some _)
    have hj := (by simpa using (findIx_ok h3).2 : c.x.N[j]? = some _)
    exact ps_dparT2 W.st hi hj (of_decide_eq_true (chk_ok h4)) s1 s2 (sOwns S W h5) sw (noComp_sole rfl)
  · cases h
theorem sPar (S : Snd F) (W : WX X c C EX) {ts vs : List Expr} {k k2 : Nat} {p p2 : Pos} {m : SM} (h : cPar F c ts k p vs k2 p2 = some m) : PS X (.Assign [.Tuple ts k p] (.Tuple vs k2 p2) pos) (tS (X.ci H0 EX) γ0 (m C)) := by
  obtain ⟨r, h0, hh⟩ := Option.bind_eq_some_iff.mp (show (swapC c.x.sc ts vs).bind _ = _ from h)
  clear h
  revert hh
  intro h
  have sw := swapC_ok (k := k) (k2 := k2) (p := p) (p2 := p2) W.st h0
  split at h
  · rcases orSM_of h with h | h
    · exact sParT S W h sw
    · obtain ⟨me, h1, h⟩ := Option.bind_eq_some_iff.mp h
      obtain ⟨g, h2, h⟩ := Option.bind_eq_some_iff.mp h
      cases h
      exact ps_dasg (S.e _ _ _ h1 X C EX W H0) (S.g _ _ _ h2 X C EX W H0) (noComp_sole rfl) sw rfl
  · split at h
    · obtain ⟨u, h1, h⟩ := Option.bind_eq_some_iff.mp h
      obtain ⟨i, h2, h⟩ := Option.bind_eq_some_iff.mp h
      obtain ⟨j, h3, h⟩ := Option.bind_eq_some_iff.mp h
      obtain ⟨u, h4, h⟩ := Option.bind_eq_some_iff.mp h
      obtain ⟨e1, e2⟩ := Bool.and_eq_true_iff.mp (chk_ok h1)
      have e1 := of_decide_eq_true e1
      have e2 := of_decide_eq_true e2
      obtain ⟨i1, i2⟩ := nmIx_ok h2
      obtain ⟨j1, j2⟩ := nmIx_ok h3
      rw [e1] at i1 i2 sw
      rw [e2] at j1 j2 sw
      rcases orSM_of h with h | h
      · obtain ⟨ma, h5, h⟩ := Option.bind_eq_some_iff.mp h
        cases h
        exact ps_dparO2 W.st i1 j1 (of_decide_eq_true (chk_ok h4)) i2 j2 (sOwns S W h5) sw rfl
      · obtain ⟨ma, h5, h⟩ := Option.bind_eq_some_iff.mp h
        cases h
        exact ps_dpar2 W.st i1 j1 (of_decide_eq_true (chk_ok h4)) i2 j2 (sAs S W h5) sw rfl
    · cases h
  · split at h
    · obtain ⟨u, h1, h⟩ := Option.bind_eq_some_iff.mp h
      obtain ⟨i, h2, h⟩ := Option.bind_eq_some_iff.mp h
      obtain ⟨j, h3, h⟩ := Option.bind_eq_some_iff.mp h
      obtain ⟨l, h6, h⟩ := Option.bind_eq_some_iff.mp h
      obtain ⟨u, h4, h⟩ := Option.bind_eq_some_iff.mp h
      obtain ⟨e1, e2, e3⟩ := and3 (chk_ok h1)
      have e1 := of_decide_eq_true e1
      have e2 := of_decide_eq_true e2
      have e3 := of_decide_eq_true e3
      obtain ⟨n1, n2, n3⟩ := and3 (chk_ok h4)
      obtain ⟨i1, i2⟩ := nmIx_ok h2
      obtain ⟨j1, j2⟩ := nmIx_ok h3
      obtain ⟨l1, l2⟩ := nmIx_ok h6
      rw [e1] at i1 i2 sw
      rw [e2] at j1 j2 sw
      rw [e3] at l1 l2 sw
      rcases orSM_of h with h | h
      · obtain ⟨ma, h5, h⟩ := Option.bind_eq_some_iff.mp h
        cases h
        exact ps_dparO3 W.st i1 j1 l1 (of_decide_eq_true n1) (of_decide_eq_true n2) (of_decide_eq_true n3) i2 j2 l2 (sOwns S W h5) sw rfl
      · obtain ⟨ma, h5, h⟩ := Option.bind_eq_some_iff.mp h
        cases h
        exact ps_dpar3 W.st i1 j1 l1 (of_decide_eq_true n1) (of_decide_eq_true n2) (of_decide_eq_true n3) i2 j2 l2 (sAs S W h5) sw rfl
    · cases h
  · cases h
theorem sX (S : Snd F) (W : WX X c C EX) {e : Expr} {m : SM} (h : cX F c e = some m) : PS X (.Expr e pos) (tS (X.ci H0 EX) γ0 (m C)) := by
  unfold cX at h
  split at h
  · cases h; exact ps_ddoc
  · obtain ⟨u, h1, h⟩ := Option.bind_eq_some_iff.mp h
    obtain ⟨i, h2, h⟩ := Option.bind_eq_some_iff.mp h
    obtain ⟨mv, h3, h⟩ := Option.bind_eq_some_iff.mp h
    cases h
    obtain ⟨g0, g4⟩ := Bool.and_eq_true_iff.mp (chk_ok h1)
    obtain ⟨g1, g2, g3⟩ := and3 g0
    have e1 := of_decide_eq_true g1
    have e2 := of_decide_eq_true g2
    rw [e1, e2]
    obtain ⟨k1, k2, k3⟩ := ixOf_ok h2
    exact ps_dcellsApp W.st k1 k2 k3 g3 (not_t g4) (S.e _ _ _ h3 X C EX W H0)
  · obtain ⟨u, h1, h⟩ := Option.bind_eq_some_iff.mp h
    obtain ⟨i, h2, h⟩ := Option.bind_eq_some_iff.mp h
    obtain ⟨g3, g4⟩ := Bool.and_eq_true_iff.mp (chk_ok h1)
    obtain ⟨k1, k2, k3⟩ := ixOf_ok h2
    split at h
    · rename_i ha
      obtain ⟨mv, h3, h⟩ := Option.bind_eq_some_iff.mp h
      cases h
      rw [ha]
      exact ps_dapp W.st k1 k2 k3 g3 (not_t g4) (S.e _ _ _ h3 X C EX W H0)
    · split at h
      · rename_i ha
        obtain ⟨mv, h3, h⟩ := Option.bind_eq_some_iff.mp h
        cases h
        rw [ha]
        exact ps_dext W.st k1 k2 k3 g3 (not_t g4) (S.f _ _ _ h3 X C EX W H0)
      · cases h
  · obtain ⟨u, h1, h⟩ := Option.bind_eq_some_iff.mp h
    obtain ⟨mv, h3, h⟩ := Option.bind_eq_some_iff.mp h
    cases h
    exact ps_dexpr (S.e _ _ _ h3 X C EX W H0) (noComp_swap (chkN h1))
theorem sS (S : Snd F) (SS : SndS G) (W : WX X c C EX) (hp : PassesOwn (model X.prog X.w) X.A X.env X.xe) {st : Stmt} {m : SM} (h : cS F G c st = some m) : PS X st (tS (X.ci H0 EX) γ0 (m C)) := by
  unfold cS at h
  split at h
  · obtain ⟨me, h1, h⟩ := Option.bind_eq_some_iff.mp h
    cases h
    exact ps_dret (S.e _ _ _ h1 X C EX W H0)
  · cases h; exact ps_dretN
  · obtain ⟨mt, h1, h⟩ := Option.bind_eq_some_iff.mp h
    obtain ⟨ma, h2, h⟩ := Option.bind_eq_some_iff.mp h
    obtain ⟨mb, h3, h⟩ := Option.bind_eq_some_iff.mp h
    cases h
    exact ps_dif (S.t _ _ _ h1 X C EX W H0) (sSs SS W hp h2) (sSs SS W hp h3)
  · obtain ⟨it, h1, h⟩ := Option.bind_eq_some_iff.mp h
    obtain ⟨g, h2, h⟩ := Option.bind_eq_some_iff.mp h
    obtain ⟨b, h3, h⟩ := Option.bind_eq_some_iff.mp h
    cases h
    obtain ⟨i1, i2⟩ := sI (H0 := H0) S W h1
    exact ps_dfor W.st hp i1 (S.g _ _ _ h2 X C EX W H0) (sSs SS W hp h3) (noSet_it i2)
  · obtain ⟨mt, h1, h⟩ := Option.bind_eq_some_iff.mp h
    obtain ⟨b, h3, h⟩ := Option.bind_eq_some_iff.mp h
    cases h
    exact ps_dwhile hp whileFuel (S.t _ _ _ h1 X C EX W H0) (sSs SS W hp h3)
  · cases h; exact ps_dpass
  · cases h; exact ps_dbreak
  · cases h; exact ps_dcont
  · exact sX S W h
  · unfold orSM at h
    split at h
    · rename_i hd
      cases h
      exact sSetD S W hd
    · exact sSet S W h
  · split at h
    · exact sPar S W h
    · obtain ⟨u, h1, h⟩ := Option.bind_eq_some_iff.mp h
      obtain ⟨me, h2, h⟩ := Option.bind_eq_some_iff.mp h
      obtain ⟨g, h3, h⟩ := Option.bind_eq_some_iff.mp h
      cases h
      refine ps_dasg (S.e _ _ _ h2 X C EX W H0) (S.g _ _ _ h3 X C EX W H0) (noComp_sole (not_t (Bool.and_eq_true_iff.mp (chk_ok h1)).1)) (no_stores (not_t (Bool.and_eq_true_iff.mp (chk_ok h1)).2)) rfl
  · obtain ⟨u, h1, h⟩ := Option.bind_eq_some_iff.mp h
    obtain ⟨i, h2, h⟩ := Option.bind_eq_some_iff.mp h
    obtain ⟨mv, h3, h⟩ := Option.bind_eq_some_iff.mp h
    obtain ⟨mi, h4, h⟩ := Option.bind_eq_some_iff.mp h
    cases h
    obtain ⟨k1, k2, k3⟩ := ixOf_ok h2
    exact ps_dput W.st k1 k2 k3 (chkN h1) (S.e _ _ _ h3 X C EX W H0) (sO S W h4)
  · cases h
    exact ps_never.weak fun N σ H q => by
      obtain ⟨γ, ρ, s, r, x, g⟩ := q
      exact g
  · cases h
theorem sXs (W : WX X c C EX) {f : Expr → Option (Tab → Env → M (D × Env))} (hf : ∀ e m, f e = some m → PE X e (tX (X.ci H0 EX) γ0 (m C))) : ∀ {es : List Expr} {m : Tab → Env → M (List D × Env)}, noStars es = true → cXs f es = some m → PA X es (tXs (X.ci H0 EX) γ0 (m C))
  | [], m, _, h => by
    cases h
    exact px_nil
  | e :: es, m, hn, h => by
    obtain ⟨a, h1, h⟩ := Option.bind_eq_some_iff.mp (show (f e).bind _ = _ from h)
    obtain ⟨b, h2, h⟩ := Option.bind_eq_some_iff.mp h
    cases h
    obtain ⟨n1, n2⟩ := Bool.and_eq_true_iff.mp (show ((!isStar e) && noStars es) = true from hn)
    exact px_cons (hf _ _ h1) (sXs W hf n2 h2) (not_t n1)
theorem sXe (S : Snd F) (W : WX X c C EX) : ∀ (n : Nat) (e : Expr) (m : Tab → Env → M (D × Env)), cXe F c n e = some m → PE X e (tX (X.ci H0 EX) γ0 (m C))
  | 0, _, _, h => by cases h
  | n + 1, e, m, h => by
    unfold cXe at h
    split at h
    · rename_i m0 h0
      cases h
      exact px_lift (S.e _ _ _ h0 X C EX W H0)
    · split at h
      · obtain ⟨u, h1, h⟩ := Option.bind_eq_some_iff.mp h
        obtain ⟨i, h2, h⟩ := Option.bind_eq_some_iff.mp h
        obtain ⟨mv, h3, h⟩ := Option.bind_eq_some_iff.mp h
        cases h
        obtain ⟨g1, g2, g3⟩ := and3 (chk_ok h1)
        rw [of_decide_eq_true g1]
        obtain ⟨k1, k2, k3⟩ := ixOf_ok h2
        exact px_pop W.st k1 k2 k3 g2 (not_t g3) (sXe S W n _ _ h3)
      · obtain ⟨u, h1, h⟩ := Option.bind_eq_some_iff.mp h
        obtain ⟨ps, h2, h⟩ := Option.bind_eq_some_iff.mp h
        obtain ⟨mv, h3, h⟩ := Option.bind_eq_some_iff.mp h
        cases h
        obtain ⟨g1, g2⟩ := Bool.and_eq_true_iff.mp (chk_ok h1)
        obtain ⟨k1, k2⟩ := glB_ok g1
        exact px_call W.st (W.fn _ ps h2) W.pass k1 k2 g2 (W.nd _ ps h2) (sXs W (fun e m he => sXe S W n e m he) g2 h3)
      · cases h
theorem sSX (S : Snd F) (W : WX X c C EX) {st : Stmt} {m : SM} (h : cSX F c st = some m) : PS X st (tS (X.ci H0 EX) γ0 (m C)) := by
  unfold cSX at h
  split at h
  · split at h
    · rename_i ha
      obtain ⟨u, h1, h⟩ := Option.bind_eq_some_iff.mp h
      obtain ⟨i, h2, h⟩ := Option.bind_eq_some_iff.mp h
      obtain ⟨mv, h3, h⟩ := Option.bind_eq_some_iff.mp h
      cases h
      obtain ⟨g3, g4⟩ := Bool.and_eq_true_iff.mp (chk_ok h1)
      obtain ⟨k1, k2, k3⟩ := ixOf_ok h2
      rw [ha]
      exact ps_dappX W.st k1 k2 k3 g3 (not_t g4) (sXe S W _ _ _ h3)
    · obtain ⟨mv, h3, h⟩ := Option.bind_eq_some_iff.mp h
      cases h
      exact ps_dropX (sXe S W _ _ _ h3) (noComp_swap rfl)
  · obtain ⟨u, h1, h⟩ := Option.bind_eq_some_iff.mp h
    obtain ⟨i, h2, h⟩ := Option.bind_eq_some_iff.mp h
    obtain ⟨mv, h3, h⟩ := Option.bind_eq_some_iff.mp h
    cases h
    obtain ⟨g1, g2, g3⟩ := and3 (chk_ok h1)
    have hi := (by simpa using (findIx_ok h2).2 : c.x.N[i]? = some _)
    exact ps_dasgX (sXe S W _ _ _ h3) (pg_dname W.st hi g1) (noComp_sole (not_t g2)) (by rename_i e _ _; cases e <;> first | rfl | cases g2) rfl
  · cases h
theorem ps_frzSeq {st : Stmt} {m : MS} (h : PS X st (tS (X.ci H0 EX) γ0 m)) : ∀ is : List Nat, PS X st (tS (X.ci H0 EX) γ0 (frzSeq is m))
  | [] => h
  | _ :: is => ps_frz (ps_frzSeq h is)
theorem sSF (S : Snd F) (SS : SndS G) (W : WX X c C EX) (hp : PassesOwn (model X.prog X.w) X.A X.env X.xe) {st : Stmt} {m : SM} (h : cSF F G c st = some m) : PS X st (tS (X.ci H0 EX) γ0 (m C)) := by
  obtain ⟨m', h1, h2⟩ := Option.map_eq_some_iff.mp h
  rw [← h2]
  rcases orSM_of h1 with h1 | h1
  · exact ps_frzSeq (sS S SS W hp h1) _
  · exact ps_frzSeq (sSX S W h1) _
end
theorem snd_ss (n : Nat) : ∀ k, SndS (ss n k)
  | 0 => ⟨(fun _ _ _ h => by cases h)⟩
  | k + 1 => ⟨fun _ _ _ h _ _ _ W hp _ _ => sSF (snd_fs n) (snd_ss n k) W hp h⟩
end RS

namespace RS
open PySem PySem.Spec PyProof.Rows L2

/-! ### a text's defs -/
/-- name, parameters, names (the parameters first), the variables changed in place -/
structure FI where
  x : Str
  ps : List Str
  N : List Str
  muts : List Str
def stoOf (sc : Scope) : List Str := sc.names.filterMap fun (n, k) => match k with
  | .local | .cell => some n
  | _ => none
def ccOf (sig : List (Str × List Str)) (gl : List (Str × D)) (f : FI) (sc : Scope) : CC := ⟨⟨f.N, sc, stoOf sc⟩, sig, gl, f.muts⟩
def defOf (body : List Stmt) (x : Str) : Option (Arguments × List Stmt × Scope) := body.findSome? fun
  | .FunctionDef n a b _ _ _ sc _ _ _ => if n = x then some (a, b, sc) else none
  | _ => none
def sigOf (fs : List FI) : List (Str × List Str) := fs.map fun f => (f.x, f.ps)
/-- a body compiled -/
def cDef (top : List Stmt) (fs : List FI) (gl : List (Str × D)) (f : FI) : Option SM := (defOf top f.x).bind fun d => cSs (ss 60 60) (ccOf (sigOf fs) gl f d.2.2) d.2.1
abbrev CT := List (Str × List Str × Nat × SM)
def callD (T : CT) : Nat → Tab
  | 0, _, _ => M.stop
  | k + 1, x, ds => match T.lookup x with
    | some (N, n, b) => if ds.length = n then runB N (b (callD T k)) ds else M.stop
    | none => M.stop
end RS

namespace RS
open PySem PySem.Spec PyProof.Rows L2

/-! ### the law's call, where no guard stands -/
section
variable {P : Program} {w : World} {K : PySem.W.Frag} {mg mb : Str → Option Value} {CX : CXT} {k : Nat} {fa a : Addr} {fd : FuncData} {x : Str} {sp : Sp} {s₁ : Shared} {vs : List Value} {ns : List Int}
theorem call_from (H : Hp) (only : Only H) (seq : SqL K H a (ns.map V.int)) (held : HOk P w H s₁.heap) (alone : ∀ b, H b ≠ none → b = a) (apart : H a ≠ none → K.lookup a = none)
    (kin : K.In s₁.heap) (gns : s₁.heap.Ns mainGlobals mg) (bns : s₁.heap.Ns builtinsNs mb) (bvs : ∀ x : Str, x ≠ "__name__" → mb x = bootBuiltins x) (noLim : s₁.heap.NoLimit) (noGens : s₁.gens = #[]) (arr : s₁.heap.get? a = some { cls := .type "list", data := .seq vs.toArray }) (room : Room k callerA)
    (F : ∀ base : Heap, K.In base → base.Ns mainGlobals mg → FnG P w K mg base CX k fa fd [x] sp) (bind : ∀ (s : Shared) (u : Value), BindsTo s fd ⟨[u], []⟩ [(x, u)]) (wish : sp [.ref a] H (fun v _ => v = .bl true) fun _ _ _ => False) (noExc : ∀ e s', CX [] H s₁ (fun _ _ _ => False) e s' → False) :
    codeAny (model P w) callerA (.call (.ref fa) ⟨[.ref a], []⟩) (fun r s' => r = .ok (.ret (.bool true)) ∧ OldK s₁.heap s'.heap ∧ s'.os = s₁.os ∧ AllBare s'.gens) s₁ := by
  let B := hidT s₁.heap H
  have there : ∀ {b : Addr} {o : Obj}, s₁.heap.get? b = some o → (∀ vs, o.data = .seq vs 0 → False) ∨ b ≠ a → H b = none := by
    intro b o e d
    cases q : H b with
    | none => rfl
    | some u =>
      have eb : b = a := alone b (ne_none q)
      rcases d with d | d
      · rw [eb, arr] at e
        cases e
        exact (d _ rfl).elim
      · exact (d eb).elim
  have nsB : ∀ {b : Addr} {m : Str → Option Value}, s₁.heap.Ns b m → B.Ns b m := by
    rintro b m ⟨o, es, ep, e, d, r⟩
    exact ⟨o, es, ep, hidT_get e (there e (.inl fun vs z => by rw [d] at z; cases z)), d, r⟩
  have kB : K.In B := fun b o e => hidT_get (kin b o e) (by
    cases q : H b with
    | none => rfl
    | some u =>
      have eb := alone b (ne_none q)
      subst eb
      rw [apart (ne_none q)] at e; cases e)
  have md : Mod K mg B := ⟨kB, nsB gns, ⟨mb, nsB bns, bvs⟩, by obtain ⟨mc, h1, h2⟩ := noLim; exact ⟨mc, nsB h1, h2⟩⟩
  have env0 : Env0 P w K mg B callerA [] s₁ H := { frames := rfl, mod := md, bs := fun b o e => of_hidT e, bsz := Nat.le_of_eq (hidT_size _ _), funs := trivial, frf := fun b z => (by cases z), hok := held, bare := .of_eq noGens }
  refine codeAny_mono ((F B kB (nsB gns)).run callerA [] s₁ H ⟨[.ref a], []⟩ [.ref a] [.ref a] _ _ room rfl env0 (bind s₁ (.ref a)) (.cons rfl .nil) wish) ?_
  rintro r s' h
  match r, h with
  | .error e, h => exact (noExc e s' h).elim
  | .ok (.ret u), h =>
    obtain ⟨v, H', hos, hbare, hun, hok', hr, rfl⟩ := h
    have eu : u = Value.bool true := hr
    refine ⟨by rw [eu], OldK.of_keep fun b o e => ?_, hos, hbare⟩
    rcases hH : H b with _ | u
    · exact hun.keep b o e hH (fun z => by cases z) (fun z => by cases z)
    · rcases only b with z | ⟨ob, xs, z⟩
      · rw [hH] at z; cases z
      · obtain ⟨g1, _⟩ := held b _ z
        obtain ⟨g2, _⟩ := hok' b _ (hun.frzs b ob _ z)
        rw [e] at g1
        rw [Option.some.inj g1]
        exact g2
theorem law_callG (kin : K.In s₁.heap) (gns : s₁.heap.Ns mainGlobals mg) (bns : s₁.heap.Ns builtinsNs mb) (bvs : ∀ x : Str, x ≠ "__name__" → mb x = bootBuiltins x) (noLim : s₁.heap.NoLimit) (noGens : s₁.gens = #[])
    (arr : s₁.heap.get? a = some { cls := .type "list", data := .seq vs.toArray }) (allInt : IntsAre vs ns) (short : ns.length ≤ sizeLine) (room : Room k callerA)
    (F : ∀ base : Heap, K.In base → base.Ns mainGlobals mg → FnG P w K mg base CX k fa fd [x] sp) (bind : ∀ (s : Shared) (u : Value), BindsTo s fd ⟨[u], []⟩ [(x, u)])
    (wish : ∀ H : Hp, Only H → SqL K H a (ns.map V.int) → sp [.ref a] H (fun v _ => v = .bl true) fun _ _ _ => False) (noExc : ∀ H e s', CX [] H s₁ (fun _ _ _ => False) e s' → False) :
    codeAny (model P w) callerA (.call (.ref fa) ⟨[.ref a], []⟩) (fun r s' => r = .ok (.ret (.bool true)) ∧ OldK s₁.heap s'.heap ∧ s'.os = s₁.os ∧ AllBare s'.gens) s₁ := by
  have rv : Vals (ns.map V.int) vs := vals_ints allInt
  have len := allInt.length
  cases hk : K.lookup a with
  | some o =>
    have e := kin a o hk
    rw [arr] at e
    cases e
    have only : Only fun _ => none := fun _ => .inl rfl
    have seq : SqL K (fun _ => none) a (ns.map V.int) := .inr ⟨_, vs.toArray, _, hk, rfl, rfl, rfl, by rw [List.size_toArray, len]; exact short, by simpa using rv⟩
    exact call_from _ only seq (fun b u z => by cases z) (fun b z => absurd rfl z) (fun z => absurd rfl z) kin gns bns bvs noLim noGens arr room F bind (wish _ only seq) (noExc _)
  | none =>
    let rec0 : Obj := { cls := .type "list", data := .seq vs.toArray }
    let H : Hp := fun b => if b = a then some (.frz rec0 (.lst (ns.map V.int))) else none
    have at_ : H a = some (.frz rec0 (.lst (ns.map V.int))) := if_pos rfl
    have else_ : ∀ b, b ≠ a → H b = none := fun b n => if_neg n
    have only : Only H := fun b => by
      by_cases z : b = a
      · exact .inr ⟨_, _, by rw [z]; exact at_⟩
      · exact .inl (else_ b z)
    have seq : SqL K H a (ns.map V.int) := .inl (.inr ⟨rec0, at_⟩)
    have held : HOk P w H s₁.heap := fun b u z => by
      by_cases q : b = a
      · subst q
        rw [at_] at z
        cases z
        exact ⟨arr, by rw [List.length_map]; exact short, vs, _, rv, arr⟩
      · rw [else_ b q] at z; cases z
    exact call_from H only seq held (fun b z => Classical.byContradiction fun n => z (else_ b n)) (fun _ => hk) kin gns bns bvs noLim noGens arr room F bind (wish H only seq) (noExc H)
end
theorem walkG {l : PySem.W.OpenLaw} {n k : Nat} {q : Program} {loose : List Str} {XP : (Str → Option Value) → Heap → Prop} {YP : World → Heap → Prop} {d : DefRec} {x : Str} (most : l.most = some n) (small : n ≤ sizeLine) (noDfl : d.params.defaults = []) (room : Room k callerA)
    (F : ∀ (w : World) (mg : Str → Option Value) (fa : Addr) (h : Heap), YP w h → h.Ns mainGlobals mg → mg d.name = some (.ref fa) → ∃ (K : PySem.W.Frag) (fd : FuncData) (sp : Sp), K.In h ∧ (∀ (s : Shared) (u : Value), BindsTo s fd ⟨[u], []⟩ [(x, u)]) ∧
      (∀ (H : Hp) (a : Addr) (ns : List Int), ns.length ≤ n → Only H → SqL K H a (ns.map V.int) → sp [.ref a] H (fun v _ => v = .bl true) fun _ _ _ => False) ∧ ∀ base : Heap, K.In base → base.Ns mainGlobals mg → FnG l.prog w K mg base (L2.CX l.prog w) k fa fd [x] sp) :
    PySem.W.WalkO q loose XP YP l.row.toRowW d [] (fun f vs => PySem.call f vs) :=
  Att.attach_call most noDfl fun w s₀ s₁ mg mb fa o pm cd doc a vs ns G Y ho hd hcd hmg hobj hints hlen hg => by
    obtain ⟨K, fd, sp, KX, hb, hsp, hF⟩ := F w mg fa _ Y G.T.g hmg
    refine law_callG KX G.T.g G.T.b G.T.builtins G.T.nolimit hg hobj hints (Nat.le_trans hlen small) room hF hb (fun H hO hS => hsp H a ns hlen hO hS) fun H e s' z => ?_
    obtain ⟨_, _, _, _, _, _, _, _, _, _, _, _, bad⟩ := z
    exact bad

/-! ### constants of the module -/
mutual
/-- u stands for d, by what K holds -/
def valB (K : PySem.W.Frag) : D → Value → Bool
  | .non, .none => true
  | .bl b, .bool c => b == c
  | .int i, .int j _ => i == j
  | .str x, .str y _ => decide (x = y)
  | .tup ds, .ref a => (match K.lookup a with
    | some ⟨.type c, _, .seq its _, _⟩ => decide (c = "tuple") && decide (its.size ≤ sizeLine) && valsB K ds its.toList
    | _ => false)
  | _, _ => false
def valsB (K : PySem.W.Frag) : List D → List Value → Bool
  | [], [] => true
  | d :: ds, u :: us => valB K d u && valsB K ds us
  | _, _ => false
end
mutual
theorem valB_ok {K : PySem.W.Frag} : ∀ (d : D) (u : Value), valB K d u = true → ∃ v, RelV v u ∧ ∀ γ, Rep K γ v d
  | .non, u, h => by cases u <;> first | exact ⟨.non, rfl, fun _ => .non⟩ | cases h
  | .bl b, u, h => by
    cases u <;> first | cases h | skip
    rename_i c
    have e : b = c := by simpa [valB] using h
    subst e
    exact ⟨.bl b, rfl, fun _ => .bl b⟩
  | .int i, u, h => by
    cases u <;> first | cases h | skip
    rename_i c t
    have e : i = c := by simpa [valB] using h
    subst e
    exact ⟨.int i, ⟨t, rfl⟩, fun _ => .int i⟩
  | .str x, u, h => by
    cases u <;> first | cases h | skip
    rename_i c t
    have e : x = c := by simpa [valB] using h
    subst e
    exact ⟨.str x, ⟨t, rfl⟩, fun _ => .str x⟩
  | .tup ds, u, h => by
    cases u <;> first | cases h | skip
    rename_i a
    unfold valB at h
    cases q : K.lookup a with
    | none => rw [q] at h; cases h
    | some o =>
      obtain ⟨oc, od, dt, osl⟩ := o
      rw [q] at h
      cases oc with
      | type c =>
        cases dt with
        | seq its n =>
          have h' : (decide (c = "tuple") && decide (its.size ≤ sizeLine) && valsB K ds its.toList) = true := h
          obtain ⟨h1, h2, h3⟩ := and3 h'
          obtain ⟨vs, r1, r2⟩ := valsB_ok ds its.toList h3
          exact ⟨.ref a, rfl, fun γ => .tup (.inr ⟨_, its, n, q, congrArg Value.type (of_decide_eq_true h1), rfl, of_decide_eq_true h2, r1⟩) (r2 γ)⟩
        | _ => cases h
      | _ => cases dt <;> cases h
  | .lst _, u, h => by cases u <;> cases h
  | .dic _, u, h => by cases u <;> cases h
  | .scr _, u, h => by cases u <;> cases h
  | .deck, u, h => by cases u <;> cases h
  | .err _ _, u, h => by cases u <;> cases h
  | .lam _ _, u, h => by cases u <;> cases h
theorem valsB_ok {K : PySem.W.Frag} : ∀ (ds : List D) (us : List Value), valsB K ds us = true → ∃ vs, Vals vs us ∧ ∀ γ, RepAll K γ vs ds
  | [], us, h => by
    cases us with
    | nil => exact ⟨[], .nil, fun _ => .nil⟩
    | cons => cases h
  | d :: ds, us, h => by
    cases us with
    | nil => cases h
    | cons u us =>
      obtain ⟨h1, h2⟩ := Bool.and_eq_true_iff.mp (show (valB K d u && valsB K ds us) = true from h)
      obtain ⟨v, r1, r2⟩ := valB_ok d u h1
      obtain ⟨vs, r3, r4⟩ := valsB_ok ds us h2
      exact ⟨v :: vs, .cons r1 r3, fun γ => .cons (r2 γ) (r4 γ)⟩
end
def gloB (K : PySem.W.Frag) (p : Str × D) : Bool := match PySem.W.nsIn K mainGlobals p.1 with
  | some (some u) => valB K p.2 u
  | _ => false

/-! ### the Hook -/
def obsS (gl : List (Str × D)) (fa : List He.Fa) (fn : List He.DefD) (K : PySem.W.Frag) : He.AlD := ((K.lookup sysModules).isSome && gl.all (gloB K) && (He.obsD fa fn K).1, (He.obsD fa fn K).2)
def asS (g : Addr → Option Obj) (n : Nat) : List Addr := sysModules :: He.asD g n
def hookS (n : Nat) (gl : List (Str × D)) (fa : List He.Fa) (fn : List He.DefD) : PySem.W.Hook where
  α := He.AlD
  obs := fun s => obsS gl fa fn (He.frG s.heap.get? (asS s.heap.get? n))
  val := fun _ => He.valD fn
  says := fun _ h => ∃ K : PySem.W.Frag, K.In h ∧ obsS gl fa fn K = He.valD fn
  of := fun _ _ e => ⟨_, He.frG_in, e⟩
  keeps := fun _ _ _ ⟨K, hK, c⟩ k => ⟨K, PySem.W.Frag.In.keeps hK k, c⟩
def obS (n : Nat) (gl : List (Str × D)) (fa : List He.Fa) (fn : List He.DefD) (s : PySem.W.SharedT) : He.AlD := obsS gl fa fn (He.frG (HandSHeadRun.getT s) (asS (HandSHeadRun.getT s) n))
theorem obS_eq {n : Nat} {gl : List (Str × D)} {fa : List He.Fa} {fn : List He.DefD} (s : PySem.W.SharedT) : obS n gl fa fn s = (hookS n gl fa fn).obs s.abs := by
  have e : HandSHeadRun.getT s = s.abs.heap.get? := funext (HandSHeadRun.getT_eq s)
  unfold obS
  rw [e]
  rfl
theorem saysS {gl : List (Str × D)} {fa : List He.Fa} {fn : List He.DefD} {K : PySem.W.Frag} (h : obsS gl fa fn K = He.valD fn) : He.SaysD fa fn K ∧ (∃ o, K.lookup sysModules = some o) ∧ ∀ p ∈ gl, gloB K p = true := by
  have h1 : ((K.lookup sysModules).isSome && gl.all (gloB K) && (He.obsD fa fn K).1) = true := congrArg Prod.fst h
  have h2 : (He.obsD fa fn K).2 = fn.map He.DefD.val := congrArg Prod.snd h
  obtain ⟨a, b, c⟩ := and3 h1
  exact ⟨Prod.ext c h2, Option.isSome_iff_exists.mp a, List.all_eq_true.mp b⟩
theorem glob_ok {K : PySem.W.Frag} {h : Heap} {mg : Str → Option Value} {X : Cx} {p : Str × D} (hK : X.K = K) (hm : X.mg = mg) (kin : K.In h) (G : h.Ns mainGlobals mg) (b : gloB K p = true) : GlobD X p.1 p.2 := by
  unfold gloB at b
  split at b
  · rename_i u e
    obtain ⟨v, r1, r2⟩ := valB_ok _ _ b
    exact ⟨u, v, by rw [hm]; exact PySem.W.mg_of kin G e, r1, fun γ => by rw [hK]; exact r2 γ⟩
  · cases b
end RS

namespace RS
open PySem PySem.Spec PyProof.Rows L2

/-! ### all defs keep what the evaluator says -/
def cDv : Expr → Option He.Dv
  | .Constant (.int i) _ _ => some (.int i)
  | .Constant (.bool b) _ _ => some (.bl b)
  | .Constant .none _ _ => some .non
  | _ => none
def dflC : List Expr → Option (List He.Dv)
  | [] => some []
  | e :: es => match cDv e, dflC es with
    | some d, some ds => some (d :: ds)
    | _, _ => none
theorem dflC_nil {es : List Expr} (h : es.isEmpty = true) : dflC es = some [] := by
  cases es with
  | nil => rfl
  | cons => cases h
def plainA (a : Arguments) (ps : List Str) : Bool := (dflC a.defaults).isSome && a.posonlyargs.isEmpty && decide (a.args.map (·.arg) = ps) && a.vararg.isNone && a.kwonlyargs.isEmpty && a.kwarg.isNone
def stoC (sc : Scope) : Bool := (stoOf sc).all fun x => decide (sc.names.lookup x = some .local) || decide (sc.names.lookup x = some .cell)
def okDef (top : List Stmt) (fs : List FI) (gl : List (Str × D)) (f : FI) : Bool := match defOf top f.x with
  | some (a, b, sc) => plainA a f.ps && C8.scC f.N f.ps sc && stoC sc && decide f.ps.Nodup && (cDef top fs gl f).isSome
  | none => false
def ctOf (top : List Stmt) (fs gs : List FI) (gl : List (Str × D)) : CT := gs.filterMap fun f => (cDef top fs gl f).map fun m => (f.x, f.N, f.ps.length, m)
theorem ct_look {top : List Stmt} {fs : List FI} {gl : List (Str × D)} : ∀ {gs : List FI} {f : FI} {m : SM}, (gs.map (·.x)).Nodup → f ∈ gs → cDef top fs gl f = some m → (ctOf top fs gs gl).lookup f.x = some (f.N, f.ps.length, m)
  | [], _, _, _, h, _ => by cases h
  | g :: gs, f, m, nd, h, e => by
    obtain ⟨n1, n2⟩ := List.nodup_cons.mp (show (g.x :: gs.map (·.x)).Nodup from nd)
    unfold ctOf
    rw [List.filterMap_cons]
    rcases List.mem_cons.mp h with rfl | h
    · rw [e]
      simp [List.lookup_cons]
    · have ih := ct_look (top := top) (fs := fs) (gl := gl) n2 h e
      have ne : (f.x == g.x) = false := by
        cases q : f.x == g.x with
        | false => rfl
        | true =>
          have z : f.x = g.x := by simpa using q
          exact absurd (z ▸ List.mem_map_of_mem h) n1
      cases q : cDef top fs gl g with
      | none => simpa [ctOf] using ih
      | some mg =>
        simp only [Option.map_some, List.lookup_cons, ne]
        exact ih
/-- what the head tells of a text -/
structure Told (K : PySem.W.Frag) (mg : Str → Option Value) (top : List Stmt) (fs : List FI) (gl : List (Str × D)) : Prop where
  fn : ∀ f ∈ fs, ∀ a b sc, defOf top f.x = some (a, b, sc) → mg f.x = some (.ref (He.ga K f.x)) ∧ ∃ fd dvs, FunD K f.x f.x a b sc dvs [] (He.ga K f.x) fd ∧ (a.defaults.isEmpty = true → dvs = [])
  free : ∀ x ∈ bltNames, mg x = none
  glo : ∀ p ∈ gl, ∀ X : Cx, X.K = K → X.mg = mg → GlobD X p.1 p.2
  sys : ∃ o, K.lookup sysModules = some o
  nd : (fs.map (·.x)).Nodup
  ok : ∀ f ∈ fs, okDef top fs gl f = true
theorem sig_in {fs : List FI} {x : Str} {ps : List Str} (h : (sigOf fs).lookup x = some ps) : ∃ f ∈ fs, f.x = x ∧ f.ps = ps := by
  have z := lookup_in h
  obtain ⟨f, h1, h2⟩ := List.mem_map.mp z
  cases h2
  exact ⟨f, h1, rfl, rfl⟩
section
variable {P : Program} {w : World} {K : PySem.W.Frag} {mg : Str → Option Value} {base : Heap} {top : List Stmt} {fs : List FI} {gl : List (Str × D)}
theorem stuck_fn {k : Nat} {f : Addr} {fd : FuncData} {ps : List Str} : FnG P w K mg base (L2.CX P w) k f fd ps (spD K mg ps.length fun _ => M.stop) where
  len vs H Q E h := by
    obtain ⟨γ, s, ds, g, r, hn, h⟩ := h
    exact h.elim
  run A outer s H args us vs Q E hr hg e0 hb hv h := by
    obtain ⟨γ, sd, ds, g, r, hn, h⟩ := h
    exact h.elim
theorem plain_of {f : FI} {fd : FuncData} {a : Arguments} {b : List Stmt} {sc : Scope} {dvs : List V} {ad : Addr} (F : FunD K f.x f.x a b sc dvs [] ad fd) (o1 : plainA a f.ps = true) : PlainP K fd f.ps := by
  obtain ⟨oc, od, dV, kV, doc, pm, an, cdv, ct, osl, rfl, lk, hcd, hD, hK⟩ := F.ex
  unfold plainA at o1
  simp only [Bool.and_eq_true, List.isEmpty_iff, decide_eq_true_eq, Option.isNone_iff_eq_none] at o1
  obtain ⟨⟨⟨⟨⟨p0, p1⟩, p2⟩, p3⟩, p4⟩, p5⟩ := o1
  refine ⟨p1, p2, p3, p4, p5, ?_⟩
  rcases hD with ⟨_, e⟩ | ⟨_, T, o, its, n, e, lT, oT, _⟩
  · exact .inl e
  · exact .inr ⟨T, o, its, n, e, lT, oT⟩
theorem okDef_of {top : List Stmt} {f : FI} (h : okDef top fs gl f = true) : ∃ a b sc m, defOf top f.x = some (a, b, sc) ∧ plainA a f.ps = true ∧ C8.scC f.N f.ps sc = true ∧ stoC sc = true ∧ f.ps.Nodup ∧ cDef top fs gl f = some m := by
  unfold okDef at h
  split at h
  · rename_i a b sc e
    simp only [Bool.and_eq_true, decide_eq_true_eq] at h
    obtain ⟨⟨⟨⟨o1, o2⟩, o3⟩, o4⟩, o5⟩ := h
    obtain ⟨m, hm⟩ := Option.isSome_iff_exists.mp o5
    exact ⟨a, b, sc, m, e, o1, o2, o3, o4, hm⟩
  · cases h
theorem tab_ok (t : Told K mg top fs gl) : ∀ k, ∀ f ∈ fs, ∀ a b sc, defOf top f.x = some (a, b, sc) → ∀ fd dvs, FunD K f.x f.x a b sc dvs [] (He.ga K f.x) fd → FnG P w K mg base (L2.CX P w) k (He.ga K f.x) fd f.ps (spD K mg f.ps.length (callD (ctOf top fs fs gl) k f.x)) := by
  intro k
  induction k with
  | zero => exact fun f hf a b sc e fd dvs F => stuck_fn
  | succ k ih =>
    intro f hf a b sc e fd dvs F
    obtain ⟨a', b', sc', m, e', o1, o2, o3, o4, hm⟩ := okDef_of (t.ok f hf)
    rw [e] at e'
    cases e'
    have look := ct_look t.nd hf hm
    have S := C8.fnScope_by o2
    obtain ⟨oc, od, dV, kV, doc, pm, an, cdv, ct, osl, rfl, lk, hcd, hD, hK⟩ := F.ex
    refine FnG.ok (N := f.N) lk hcd S ?_ ?_
    · rintro vs H Q E ⟨γ, s, ds, g, r, hn, h⟩
      rw [r.length]; exact hn
    · rintro A outer s H vs Q E hr hgu ⟨γ, sd, ds, g, r, hn, h⟩
      have h2 : Goes K mg E γ H (runB f.N (m (callD (ctOf top fs fs gl) k)) ds sd) fun d _ H' γ' => ∀ v, Rep K γ' v d → Q v H' := by
        have ec : callD (ctOf top fs fs gl) (k + 1) f.x ds = runB f.N (m (callD (ctOf top fs fs gl) k)) ds := by
          show (match (ctOf top fs fs gl).lookup f.x with
            | some (N, n, b) => if ds.length = n then runB N (b (callD (ctOf top fs fs gl) k)) ds else M.stop
            | none => M.stop) = _
          rw [look]
          simp only [hn, if_true]
        rw [ec] at h
        exact h
      obtain ⟨γ0, hb⟩ := body_ok (X := cxOf (L2.CX P w) P w K mg base f.N f.x sc (He.ga K f.x) cdv A outer s H E) (N := f.N) (n := f.ps.length) ⟨γ, sd, ds, g, r, hn, h2⟩
      refine ⟨_, ?_, hb⟩
      have tk := takes_of (X := cxOf (L2.CX P w) P w K mg base f.N f.x sc (He.ga K f.x) cdv A outer s H E) (E := E) rfl rfl rfl rfl
      have W : WX (cxOf (L2.CX P w) P w K mg base f.N f.x sc (He.ga K f.x) cdv A outer s H E) (ccOf (sigOf fs) gl f sc) (callD (ctOf top fs fs gl) k) E := by
        refine ⟨⟨rfl, rfl, S.nd, S.kind, rfl, fun x hx => ?_, ?_, hgu, t.sys⟩, fun x ps h => ?_, fun x ps h => ?_, fun x d h => ?_, t.free, passes_call tk fun _ _ _ _ h => h⟩
        · have z := List.all_eq_true.mp o3 x hx
          simp only [Bool.or_eq_true, decide_eq_true_eq] at z
          exact ⟨z, .inl rfl⟩
        · have := hr.un
          show (A.deeper _).units + 100 < cLine
          omega
        · obtain ⟨g, hg, rfl, rfl⟩ := sig_in h
          obtain ⟨a', b', sc', m', e', q1, q2, q3, q4, hm'⟩ := okDef_of (t.ok g hg)
          obtain ⟨g1, fd', dvs', F', _⟩ := t.fn g hg a' b' sc' e'
          exact ⟨k, _, fd', ih g hg a' b' sc' e' fd' dvs' F', hr, g1, F'.kp, plain_of F' q1⟩
        · obtain ⟨g, hg, rfl, rfl⟩ := sig_in h
          obtain ⟨a', b', sc', m', e', q1, q2, q3, q4, hm'⟩ := okDef_of (t.ok g hg)
          exact q4
        · exact t.glo (x, d) (lookup_in h) _ rfl rfl
      obtain ⟨d, hd1, hd2⟩ := Option.bind_eq_some_iff.mp hm
      rw [e] at hd1
      cases hd1
      exact sSs (snd_ss 60 60) W (passes_of (K := fun e s'' => L2.CX P w outer H s E e s'') rfl) hd2
end

/-! ### the head's lists, from the text -/
def defD : Stmt → Option He.DefD
  | .FunctionDef n a b _ _ _ sc _ _ _ => if a.kwonlyargs.isEmpty = true then (dflC a.defaults).map fun l => ⟨(n, none), n, n, a, b, sc, l, []⟩ else none
  | _ => none
def nameD : Stmt → Option Str
  | .FunctionDef n _ _ _ _ _ _ _ _ _ => some n
  | _ => none
def fnL (top : List Stmt) : List He.DefD := top.filterMap defD
def faL (top : List Stmt) : List He.Fa := (top.filterMap nameD).map He.Fa.glo ++ bltNames.map He.Fa.free
theorem defOf_in : ∀ {top : List Stmt} {x : Str} {a : Arguments} {b : List Stmt} {sc : Scope} {l : List He.Dv}, defOf top x = some (a, b, sc) → a.kwonlyargs.isEmpty = true → dflC a.defaults = some l → (⟨(x, none), x, x, a, b, sc, l, []⟩ : He.DefD) ∈ fnL top ∧ x ∈ top.filterMap nameD
  | [], _, _, _, _, _, h, _, _ => by cases h
  | st :: top, x, a, b, sc, l, h, hd, hl => by
    unfold defOf at h
    rw [List.findSome?_cons] at h
    have rest : defOf top x = some (a, b, sc) → (⟨(x, none), x, x, a, b, sc, l, []⟩ : He.DefD) ∈ fnL (st :: top) ∧ x ∈ (st :: top).filterMap nameD := fun h => by
      obtain ⟨h1, h2⟩ := defOf_in h hd hl
      unfold fnL at h1 ⊢
      refine ⟨?_, ?_⟩
      · rw [List.filterMap_cons]
        split
        · exact h1
        · exact List.mem_cons_of_mem _ h1
      · rw [List.filterMap_cons]
        split
        · exact h2
        · exact List.mem_cons_of_mem _ h2
    cases st with
    | FunctionDef n a' b' d r tp sc' ts bi po =>
      dsimp only at h
      by_cases e : n = x
      · rw [if_pos e] at h
        cases h
        subst e
        exact ⟨by unfold fnL defD; rw [List.filterMap_cons]; simp only [hd, hl, if_true, Option.map_some]; exact List.mem_cons_self, by rw [List.filterMap_cons]; exact List.mem_cons_self⟩
      · rw [if_neg e] at h
        exact rest h
    | _ => exact rest h
theorem told_of {K : PySem.W.Frag} {h : Heap} {mg : Str → Option Value} {top : List Stmt} {fs : List FI} {gl : List (Str × D)} (kin : K.In h) (G : h.Ns mainGlobals mg) (s : obsS gl (faL top) (fnL top) K = He.valD (fnL top)) (nd : (fs.map (·.x)).Nodup) (ok : (fs.all fun f => okDef top fs gl f) = true) : Told K mg top fs gl := by
  obtain ⟨c, sy, g⟩ := saysS s
  refine ⟨fun f hf a b sc e => ?_, fun x hx => ?_, fun p hp X h1 h2 => glob_ok h1 h2 kin G (g p hp), sy, nd, fun f hf => List.all_eq_true.mp ok f hf⟩
  · obtain ⟨a', b', sc', m, e', o1, _⟩ := okDef_of (List.all_eq_true.mp ok f hf)
    rw [e] at e'
    cases e'
    unfold plainA at o1
    simp only [Bool.and_eq_true] at o1
    obtain ⟨l, hl⟩ := Option.isSome_iff_exists.mp o1.1.1.1.1.1
    obtain ⟨h1, h2⟩ := defOf_in e o1.1.2 hl
    refine ⟨He.glo_ok kin G (c.facts (f := .glo f.x) ?_), ?_⟩
    · exact List.mem_append_left _ (List.mem_map_of_mem h2)
    · obtain ⟨fd, F⟩ := c.defs h1
      refine ⟨fd, _, F, fun z => ?_⟩
      rw [dflC_nil z] at hl
      cases hl
      rfl
  · exact He.free_ok kin G (c.facts (f := .free x) (List.mem_append_right _ (List.mem_map_of_mem hx)))
/-- the walk's wish, from the law's value -/
theorem law_F {P : Program} {w : World} {mg : Str → Option Value} {fa : Addr} {h : Heap} {top : List Stmt} {fs : List FI} {gl : List (Str × D)} (Y : (∃ K : PySem.W.Frag, K.In h ∧ obsS gl (faL top) (fnL top) K = He.valD (fnL top))) (G : h.Ns mainGlobals mg) (nd : (fs.map (·.x)).Nodup) (ok : (fs.all fun f => okDef top fs gl f) = true)
    {f : FI} (hf : f ∈ fs) (hmg : mg f.x = some (.ref fa)) (hz : ((defOf top f.x).map fun d => d.1.defaults.isEmpty) = some true) {x : Str} (hx : f.ps = [x]) {k n : Nat} (ev : ∀ ns : List Int, ns.length ≤ n → ∃ s', callD (ctOf top fs fs gl) k f.x [.scr ns] none = .ok (.bl true) s') :
    ∃ (K : PySem.W.Frag) (fd : FuncData) (sp : Sp), K.In h ∧ (∀ (s : Shared) (u : Value), BindsTo s fd ⟨[u], []⟩ [(x, u)]) ∧ (∀ (H : Hp) (a : Addr) (ns : List Int), ns.length ≤ n → Only H → SqL K H a (ns.map V.int) → sp [.ref a] H (fun v _ => v = .bl true) fun _ _ _ => False) ∧
      ∀ base : Heap, K.In base → base.Ns mainGlobals mg → FnG P w K mg base (L2.CX P w) k fa fd [x] sp := by
  obtain ⟨K, KX, c⟩ := Y
  have t : Told K mg top fs gl := told_of KX G c nd ok
  obtain ⟨a, b, sc, m, e, o1, o2, o3, o4, hm⟩ := okDef_of (t.ok f hf)
  obtain ⟨z, fd, dvs, F, hdv⟩ := t.fn f hf a b sc e
  have hz1 : a.defaults.isEmpty = true := by
    rw [e] at hz
    exact Option.some.inj hz
  cases hdv hz1
  have eg : fa = He.ga K f.x := by
    rw [hmg] at z
    injection z with z
    injection z
  have pp := plain_of F o1
  rw [hx] at pp
  refine ⟨K, fd, spD K mg 1 (callD (ctOf top fs fs gl) k f.x), KX, fun s u => ?_, fun H a ns hl _ hS => ?_, fun base _ _ => ?_⟩
  · have bo := bind_ok1 pp (m := 1) (ks := []) (by unfold bindC; simp) (us := [u]) (ws := []) rfl rfl
    have o1 : ordV [x] [] [u] [] = [u] := ordV_pos (by simp) rfl
    have dz : fd.defaults = .none := by
      obtain ⟨oc, od, dV, kV, doc, pm, an, cdv, ct, osl, rfl, lk, hcd, hD, hK⟩ := F.ex
      rcases hD with ⟨_, e⟩ | ⟨e, _⟩
      · exact e
      · exact absurd rfl e
    rw [o1, dz] at bo
    exact .of_eq bo.1
  · obtain ⟨s', e⟩ := ev ns hl
    have gw : GWf H ⟨H, none⟩ none := ⟨Same.refl _, fun _ => rfl, fun _ _ z => nomatch z⟩
    refine ⟨⟨H, none⟩, none, [.scr ns], gw, .cons (.scr hS) .nil, rfl, ?_⟩
    rw [e]
    intro H' γ' _ _ v hv
    cases hv
    rfl
  · have G0 := tab_ok (P := P) (w := w) (base := base) t k f hf a b sc e fd [] F
    rw [hx] at G0
    rw [eg]
    exact G0
end RS

namespace RS
open PySem PySem.Spec

/-! ### the evaluator, run by hand -/
section
variable {α β : Type} {s s' : DS}
theorem bnd_app {m : M α} {f : α → M β} : (m >>= f) s = match m s with
    | .ok a s' => f a s'
    | .exc c x s' => .exc c x s'
    | .stuck => .stuck := rfl
theorem pure_app {a : α} : (pure a : M α) s = .ok a s := rfl
theorem opt_some {a : α} : (M.opt (some a)) s = .ok a s := rfl
theorem bnd_of {m : M α} {f : α → M β} {a : α} {r : R β} (h : m s = .ok a s') (h2 : f a s' = r) : (m >>= f) s = r := by rw [bnd_ok h]; exact h2
theorem opt_of {a : α} {o : Option α} (h : o = some a) : (M.opt o) s = .ok a s := by rw [h]; rfl
theorem lcGo_map {g : Tg} {t : Env → M Bool} {e : Env → M D} {ρ : Env} (f : D → Option D) : ∀ {ds : Ds}, (∀ d ∈ ds, ∃ ρ2, g d ρ = some ρ2 ∧ ((∃ y, f d = some y ∧ t ρ2 s = .ok true s ∧ e ρ2 s = .ok y s) ∨ (f d = none ∧ t ρ2 s = .ok false s))) → mLcGo g t e ρ ds s = .ok (ds.filterMap f) s
  | [], _ => rfl
  | d :: ds, h => by
    obtain ⟨ρ2, h1, h2⟩ := h d List.mem_cons_self
    have ih := lcGo_map f (ds := ds) fun x hx => h x (List.mem_cons_of_mem _ hx)
    unfold mLcGo
    refine bnd_of (opt_of h1) ?_
    rw [List.filterMap_cons]
    rcases h2 with ⟨y, f1, f2, f3⟩ | ⟨f1, f2⟩
    · refine bnd_of (calm_ok f2) ?_
      simp only [if_true, f1]
      refine bnd_of (calm_ok f3) (bnd_of ih rfl)
    · refine bnd_of (calm_ok f2) ?_
      simp only [Bool.false_eq_true, if_false, f1]
      exact ih
theorem lcGo_inv {I : DS → Prop} {Pr : D → Prop} {g : Tg} {t : Env → M Bool} {e : Env → M D} {ρ : Env} : ∀ {ds : Ds} {s : DS}, (∀ d ∈ ds, ∀ s, I s → ∃ ρ2 y s', g d ρ = some ρ2 ∧ t ρ2 s = .ok true s ∧ e ρ2 s = .ok y s' ∧ I s' ∧ Pr y) → I s → ∃ ys s', mLcGo g t e ρ ds s = .ok ys s' ∧ I s' ∧ ys.length = ds.length ∧ ∀ y ∈ ys, Pr y
  | [], s, _, hs => ⟨[], s, rfl, hs, rfl, fun _ h => by cases h⟩
  | d :: ds, s, h, hs => by
    obtain ⟨ρ2, y, s1, h1, h2, h3, h4, h5⟩ := h d List.mem_cons_self s hs
    obtain ⟨ys, s2, k1, k2, k3, k4⟩ := lcGo_inv (ds := ds) (s := s1) (fun x hx => h x (List.mem_cons_of_mem _ hx)) h4
    refine ⟨y :: ys, s2, ?_, k2, by simp [k3], fun z hz => ?_⟩
    · unfold mLcGo
      refine bnd_of (opt_of h1) (bnd_of (calm_ok h2) ?_)
      simp only [if_true]
      exact bnd_of (calm_ok h3) (bnd_of k1 rfl)
    · rcases List.mem_cons.mp hz with rfl | hz
      · exact h5
      · exact k4 z hz
theorem loop_inv {J : Env → DS → Prop} {g : Tg} {b : MS} : ∀ {ds : Ds} {ρ : Env} {s : DS}, (∀ d ∈ ds, ∀ ρ s, J ρ s → ∃ ρ1 ρ2 s', g d ρ = some ρ1 ∧ b ρ1 s = .ok (.nx ρ2) s' ∧ J ρ2 s') → J ρ s → ∃ ρ' s', mLoop g b ds ρ s = .ok (.nx ρ') s' ∧ J ρ' s'
  | [], ρ, s, _, hs => ⟨ρ, s, rfl, hs⟩
  | d :: ds, ρ, s, h, hs => by
    obtain ⟨ρ1, ρ2, s1, h1, h2, h3⟩ := h d List.mem_cons_self ρ s hs
    obtain ⟨ρ3, s2, k1, k2⟩ := loop_inv (ds := ds) (fun x hx => h x (List.mem_cons_of_mem _ hx)) h3
    exact ⟨ρ3, s2, by unfold mLoop; exact bnd_of (opt_of h1) (bnd_of h2 k1), k2⟩
end
theorem callD_fn {top : List Stmt} {fs : List FI} {gl : List (Str × D)} (nd : (fs.map (·.x)).Nodup) {f : FI} {m : SM} (hf : f ∈ fs) (hc : cDef top fs gl f = some m) {k : Nat} {ds : Ds} (hl : ds.length = f.ps.length) :
    callD (ctOf top fs fs gl) (k + 1) f.x ds = runB f.N (m (callD (ctOf top fs fs gl) k)) ds := by
  have look := ct_look (fs := fs) nd hf hc
  show (match (ctOf top fs fs gl).lookup f.x with
    | some (N, n, b) => if ds.length = n then runB N (b (callD (ctOf top fs fs gl) k)) ds else M.stop
    | none => M.stop) = _
  rw [look]
  simp only [hl, if_true]
theorem run_rt {N : List Str} {b : MS} {ds : Ds} {s s' : DS} {d : D} (h : b (startE N ds) s = .ok (.rt d) s') : runB N b ds s = .ok d s' := bnd_of h rfl
theorem run_nx {N : List Str} {b : MS} {ds : Ds} {s s' : DS} {ρ : Env} (h : b (startE N ds) s = .ok (.nx ρ) s') : runB N b ds s = .ok .non s' := bnd_of h rfl
theorem seq_nx {a b : MS} {ρ ρ' : Env} {s s' : DS} {r : R O} (h : a ρ s = .ok (.nx ρ') s') (h2 : b ρ' s' = r) : mSeq a b ρ s = r := bnd_of h h2
theorem seq_rt {a b : MS} {ρ : Env} {s s' : DS} {d : D} (h : a ρ s = .ok (.rt d) s') : mSeq a b ρ s = .ok (.rt d) s' := bnd_of h rfl
theorem if_of {α : Type} {t : Env → M Bool} {a b : Env → M α} {ρ : Env} {s s' : DS} {k : Bool} {r : R α} (h : t ρ s = .ok k s') (h2 : (if k then a ρ else b ρ) s' = r) : mIf t a b ρ s = r := bnd_of h h2
theorem if_tt {α : Type} {t : Env → M Bool} {a b : Env → M α} {ρ : Env} {s s' : DS} {r : R α} (h : t ρ s = .ok true s') (h2 : a ρ s' = r) : mIf t a b ρ s = r := bnd_of h h2
theorem if_ff {α : Type} {t : Env → M Bool} {a b : Env → M α} {ρ : Env} {s s' : DS} {r : R α} (h : t ρ s = .ok false s') (h2 : b ρ s' = r) : mIf t a b ρ s = r := bnd_of h h2
theorem ret_of {m : Env → M D} {ρ : Env} {s s' : DS} {d : D} (h : m ρ s = .ok d s') : mRet m ρ s = .ok (.rt d) s' := bnd_of h rfl
theorem asg_of {m : Env → M D} {g : Tg} {ρ ρ' : Env} {s s' : DS} {d : D} (h : m ρ s = .ok d s') (h2 : g d ρ = some ρ') : mAsg m g ρ s = .ok (.nx ρ') s' := bnd_of h (bnd_of (opt_of h2) rfl)
theorem cons_of {a : Env → M D} {r : Env → M Ds} {ρ : Env} {s s1 s2 : DS} {d : D} {ds : Ds} (h : a ρ s = .ok d s1) (h2 : r ρ s1 = .ok ds s2) : mCons a r ρ s = .ok (d :: ds) s2 := bnd_of h (bnd_of h2 rfl)
theorem callD_of {F : Ds → M D} {a : Env → M Ds} {ρ : Env} {s s1 s2 : DS} {n : Nat} {d : D} {ds : Ds} (h : a ρ s = .ok ds s1) (hl : ds.length = n) (h2 : F ds s1 = .ok d s2) : mCallD (lenG n F) a ρ s = .ok d s2 := bnd_of h (by unfold lenG; rw [if_pos hl]; exact h2)
theorem blt_of {op : Ds → Option D} {a : Env → M Ds} {ρ : Env} {s s1 : DS} {d : D} {ds : Ds} (h : a ρ s = .ok ds s1) (h2 : op ds = some d) : mCall op a ρ s = .ok d s1 := bnd_of h (opt_of h2)
theorem bin_of {op : Operator} {a b : Env → M D} {ρ : Env} {s s1 s2 : DS} {d e r : D} (h : a ρ s = .ok d s1) (h2 : b ρ s1 = .ok e s2) (h3 : dBin op d e = some r) : mBin op a b ρ s = .ok r s2 := bnd_of h (bnd_of h2 (opt_of h3))
theorem cmp_of {op : CmpOp} {a b : Env → M D} {ρ : Env} {s s1 s2 : DS} {d e : D} {r : Bool} (h : a ρ s = .ok d s1) (h2 : b ρ s1 = .ok e s2) (h3 : dCmp op d e = some r) : mCmpB op a b ρ s = .ok r s2 := bnd_of h (bnd_of h2 (opt_of h3))
theorem bl_of {m : Env → M Bool} {ρ : Env} {s s' : DS} {b : Bool} (h : m ρ s = .ok b s') : mBl m ρ s = .ok (.bl b) s' := bnd_of h rfl
theorem ix_of {a b : Env → M D} {ρ : Env} {s s1 s2 s3 : DS} {d e r : D} (h : a ρ s = .ok d s1) (h2 : b ρ s1 = .ok e s2) (h3 : dIxM d e s2 = .ok r s3) : mIxM a b ρ s = .ok r s3 := bnd_of h (bnd_of h2 h3)
theorem put_of {i : Nat} {v ix : Env → M D} {ρ : Env} {s s1 s2 s3 : DS} {dv di : D} {o : O} (h : v ρ s = .ok dv s1) (hd : isDeck ρ i = true) (h2 : ix ρ s1 = .ok di s2) (h3 : mPutDk ρ di dv s2 = .ok o s3) : mPut i v ix ρ s = .ok o s3 := bnd_of h (by rw [if_pos hd]; exact bnd_of h2 h3)
theorem lc_of {it : Env → M Ds} {g : Tg} {t : Env → M Bool} {e : Env → M D} {vs : List Nat} {ρ : Env} {s s1 s2 : DS} {ds ys : Ds} (h : it ρ s = .ok ds s1) (hl : ds.length ≤ 4096) (h2 : mLcGo g t e (wipeE ρ vs) ds s1 = .ok ys s2) : mLc it g t e vs ρ s = .ok ys s2 := bnd_of h (by rw [if_pos (Nat.le_trans hl (by decide))]; exact h2)
end RS

namespace RS
open PySem PySem.Spec

/-! ### more rules -/
theorem plains_mem : ∀ {xs : Ds}, D.plains xs = true → ∀ x ∈ xs, x.plain = true
  | [], _, x, h => by cases h
  | y :: xs, h, x, hx => by
    have h' : (y.plain && D.plains xs) = true := h
    rw [Bool.and_eq_true] at h'
    rcases List.mem_cons.mp hx with rfl | hx
    · exact h'.1
    · exact plains_mem h'.2 x hx
theorem chain_of {op op' : CmpOp} {a b e : Env → M D} {ρ : Env} {s s1 s2 : DS} {x y : D} {r : Bool} (h : a ρ s = .ok x s1) (h2 : b ρ s1 = .ok y s2) (h3 : dCmp op x y = some false) : mChain op op' a b e ρ s = .ok false s2 := bnd_of h (bnd_of h2 (bnd_of (opt_of h3) rfl))
theorem chain_of' {op op' : CmpOp} {a b e : Env → M D} {ρ : Env} {s s1 s2 s3 : DS} {x y z : D} {r : Bool} (h : a ρ s = .ok x s1) (h2 : b ρ s1 = .ok y s2) (h3 : dCmp op x y = some true) (h4 : e ρ s2 = .ok z s3) (h5 : dCmp op' y z = some r) : mChain op op' a b e ρ s = .ok r s3 := bnd_of h (bnd_of h2 (bnd_of (opt_of h3) (bnd_of h4 (opt_of h5))))
theorem asB_of {m : Env → M D} {ρ : Env} {s s' : DS} {b : Bool} (h : m ρ s = .ok (.bl b) s') : mAsB m ρ s = .ok b s' := bnd_of h rfl
theorem not_of {m : Env → M Bool} {ρ : Env} {s s' : DS} {b : Bool} (h : m ρ s = .ok b s') : mNotB m ρ s = .ok (!b) s' := bnd_of h rfl
theorem tru_of {m : Env → M D} {ρ : Env} {s s' : DS} {d : D} {b : Bool} (h : m ρ s = .ok d s') (h2 : dTru d = some b) : mTru m ρ s = .ok b s' := bnd_of h (opt_of h2)
theorem drop_of {m : Env → M D} {ρ : Env} {s s' : DS} {d : D} (h : m ρ s = .ok d s') : mDrop m ρ s = .ok (.nx ρ) s' := bnd_of h rfl
theorem seqI_of {m : Env → M D} {ρ : Env} {s s' : DS} {d : D} {ds : Ds} (h : m ρ s = .ok d s') (h2 : dSeq d = some ds) : mSeqI m ρ s = .ok ds s' := bnd_of h (opt_of h2)
theorem enumI_of {m : Env → M D} {ρ : Env} {s s' : DS} {d : D} {ds : Ds} (h : m ρ s = .ok d s') (h2 : dEnumI d = some ds) : mEnumI m ρ s = .ok ds s' := bnd_of h (opt_of h2)
theorem rng1_of {m : Env → M D} {ρ : Env} {s s' : DS} {d : D} {ds : Ds} (h : m ρ s = .ok d s') (h2 : dRng1 d = some ds) : mRngI1 m ρ s = .ok ds s' := bnd_of h (opt_of h2)
theorem sl_of {a : Env → M D} {lo hi : Env → M (Option Int)} {ρ : Env} {s s1 s2 s3 : DS} {d r : D} {l h : Option Int} (h1 : a ρ s = .ok d s1) (h2 : lo ρ s1 = .ok l s2) (h3 : hi ρ s2 = .ok h s3) (h4 : dSl d l h = some r) : mSl a lo hi ρ s = .ok r s3 := bnd_of h1 (bnd_of h2 (bnd_of h3 (opt_of h4)))
theorem lst_of {m : Env → M Ds} {ρ : Env} {s s' : DS} {ds : Ds} (h : m ρ s = .ok ds s') : (m ρ >>= fun ds => pure (.lst ds) : M D) s = .ok (.lst ds) s' := bnd_of h rfl
theorem bls_map (g : D → Bool) : ∀ {xs : Ds}, blsOf (xs.map fun d => D.bl (g d)) = some (xs.map g)
  | [] => rfl
  | x :: xs => by
    show (blsOf (xs.map fun d => D.bl (g d))).map (g x :: ·) = _
    rw [bls_map g]; rfl
theorem fm_map (g : D → D) : ∀ {xs : Ds}, xs.filterMap (fun d => some (g d)) = xs.map g
  | [] => rfl
  | x :: xs => by rw [List.filterMap_cons, List.map_cons, fm_map g]
theorem all_of {m : Env → M Ds} {ρ : Env} {s s' : DS} {xs : Ds} {g : D → Bool} (h : m ρ s = .ok (xs.map fun d => D.bl (g d)) s') : mCall bAll (mCons (fun ρ => (m ρ >>= fun ds => pure (.lst ds) : M D)) mNil) ρ s = .ok (.bl (List.all xs g)) s' := by
  refine blt_of (cons_of (lst_of h) rfl) ?_
  show (blsOf (xs.map fun d => D.bl (g d))).map (fun bs => D.bl (bs.all id)) = _
  rw [bls_map]
  show some (D.bl ((xs.map g).all id)) = _
  rw [List.all_map]; rfl
theorem le_t {i j : Int} (h : i ≤ j) : dCmp .LtE (.int i) (.int j) = some true := congrArg some (decide_eq_true h)
theorem le_f {i j : Int} (h : ¬ i ≤ j) : dCmp .LtE (.int i) (.int j) = some false := congrArg some (decide_eq_false h)
theorem ix0 {x y : D} {s : DS} : dIxM (.tup [x, y]) (.int 0) s = .ok x s := rfl
theorem ix1 {x y : D} {s : DS} : dIxM (.tup [x, y]) (.int 1) s = .ok y s := rfl
end RS

namespace RS
open PySem PySem.Spec

/-! ### what repr can show -/
mutual
/-- no longer than this -/
def szD : D → Nat
  | .non => 4
  | .bl _ => 5
  | .int _ => 202
  | .str s => 10 * s.length + 2
  | .tup xs | .lst xs => szs xs + 3
  | .dic kvs => szkv kvs + 3
  | _ => 4
def szs : Ds → Nat
  | [] => 0
  | d :: ds => szD d + 2 + szs ds
def szkv : Dp2 → Nat
  | [] => 0
  | (k, d) :: ds => szD k + szD d + 4 + szkv ds
end
mutual
def okD : D → Bool
  | .non | .bl _ => true
  | .int i => decide (i.natAbs < 2 ^ 200)
  | .str s => s.cps.toList.all fun c => decide (c < 4294967296)
  | .tup xs | .lst xs => oks xs
  | .dic kvs => okkv kvs
  | _ => false
def oks : Ds → Bool
  | [] => true
  | d :: ds => okD d && oks ds
def okkv : Dp2 → Bool
  | [] => true
  | (k, d) :: ds => okD k && okD d && okkv ds
end
mutual
def dpD : D → Nat
  | .tup xs | .lst xs => dps xs + 1
  | .dic kvs => dpkv kvs + 1
  | _ => 0
def dps : Ds → Nat
  | [] => 0
  | d :: ds => max (dpD d) (dps ds)
def dpkv : Dp2 → Nat
  | [] => 0
  | (k, d) :: ds => max (max (dpD k) (dpD d)) (dpkv ds)
end
theorem log_ok {n : Nat} (h : n < 2 ^ 200) : n.log2 < 200 := by
  by_cases h0 : n = 0
  · subst h0; simp
  · exact (Nat.log2_lt h0).2 h
mutual
theorem ok_plain : ∀ d : D, okD d = true → d.plain = true
  | .non, _ => rfl
  | .bl _, _ => rfl
  | .int _, _ => rfl
  | .str _, _ => rfl
  | .tup xs, h => oks_plain xs h
  | .lst xs, h => oks_plain xs h
  | .dic kvs, h => okkv_plain kvs h
  | .scr _, h => by cases h
  | .deck, h => by cases h
  | .err _ _, h => by cases h
  | .lam _ _, h => by cases h
theorem oks_plain : ∀ ds : Ds, oks ds = true → D.plains ds = true
  | [], _ => rfl
  | d :: ds, h => by
    have h' := Bool.and_eq_true_iff.mp (show (okD d && oks ds) = true from h)
    exact Bool.and_eq_true_iff.mpr ⟨ok_plain d h'.1, oks_plain ds h'.2⟩
theorem okkv_plain : ∀ ds : Dp2, okkv ds = true → D.plainKv ds = true
  | [], _ => rfl
  | (k, d) :: ds, h => by
    have h' := Bool.and_eq_true_iff.mp (show (okD k && okD d && okkv ds) = true from h)
    exact Bool.and_eq_true_iff.mpr ⟨ok_plain d (Bool.and_eq_true_iff.mp h'.1).2, okkv_plain ds h'.2⟩
end
mutual
theorem ok_show : ∀ d : D, okD d = true → d.py.showable = true
  | .non, _ => rfl
  | .bl _, _ => rfl
  | .int i, h => by
    have h1 : i.natAbs < 2 ^ 200 := of_decide_eq_true h
    have h2 := log_ok h1
    show PyData.showable (.int i) = true
    unfold PyData.showable
    exact decide_eq_true (Nat.lt_trans h2 (by decide))
  | .str _, _ => rfl
  | .tup xs, h => oks_show xs h
  | .lst xs, h => oks_show xs h
  | .dic kvs, h => okkv_show kvs h
  | .scr _, h => by cases h
  | .deck, h => by cases h
  | .err _ _, h => by cases h
  | .lam _ _, h => by cases h
theorem oks_show : ∀ ds : Ds, oks ds = true → PyData.showableAll (D.pys ds) = true
  | [], _ => rfl
  | d :: ds, h => by
    have h' := Bool.and_eq_true_iff.mp (show (okD d && oks ds) = true from h)
    exact Bool.and_eq_true_iff.mpr ⟨ok_show d h'.1, oks_show ds h'.2⟩
theorem okkv_show : ∀ ds : Dp2, okkv ds = true → PyData.showableKv (D.pykv ds) = true
  | [], _ => rfl
  | (k, d) :: ds, h => by
    have h' := Bool.and_eq_true_iff.mp (show (okD k && okD d && okkv ds) = true from h)
    have h2 := Bool.and_eq_true_iff.mp h'.1
    exact Bool.and_eq_true_iff.mpr ⟨Bool.and_eq_true_iff.mpr ⟨ok_show k h2.1, ok_show d h2.2⟩, okkv_show ds h'.2⟩
end
mutual
theorem dp_py : ∀ d : D, d.py.depth = dpD d
  | .non => rfl
  | .bl _ => rfl
  | .int _ => rfl
  | .str _ => rfl
  | .tup xs => congrArg Nat.succ (dps_py xs)
  | .lst xs => congrArg Nat.succ (dps_py xs)
  | .dic kvs => congrArg Nat.succ (dpkv_py kvs)
  | .scr _ => rfl
  | .deck => rfl
  | .err _ _ => rfl
  | .lam _ _ => rfl
theorem dps_py : ∀ ds : Ds, PyData.depthAll (D.pys ds) = dps ds
  | [] => rfl
  | d :: ds => by
    show max (d.py.depth) (PyData.depthAll (D.pys ds)) = max (dpD d) (dps ds)
    rw [dp_py d, dps_py ds]
theorem dpkv_py : ∀ ds : Dp2, PyData.depthKv (D.pykv ds) = dpkv ds
  | [] => rfl
  | (k, d) :: ds => by
    show max (max k.py.depth d.py.depth) (PyData.depthKv (D.pykv ds)) = max (max (dpD k) (dpD d)) (dpkv ds)
    rw [dp_py k, dp_py d, dpkv_py ds]
end
/-- glued texts -/
def sumL : List Str → Nat
  | [] => 0
  | t :: ts => t.length + 2 + sumL ts
theorem join_le : ∀ ts : List Str, (Str.join ", " ts).length ≤ sumL ts
  | [] => Nat.zero_le _
  | [x] => by show x.length ≤ x.length + 2 + 0; omega
  | x :: y :: r => by
    have ih := join_le (y :: r)
    show (x ++ ", " ++ Str.join ", " (y :: r)).length ≤ x.length + 2 + sumL (y :: r)
    have e2 : ((", " : String) : Str).length = 2 := rfl
    rw [strLen_append, strLen_append, e2]; omega
mutual
theorem shown_le : ∀ d : D, okD d = true → d.py.shown.length ≤ szD d
  | .non, _ => by decide
  | .bl b, _ => by cases b <;> decide
  | .int i, h => by
    have h1 : i.natAbs < 2 ^ 200 := of_decide_eq_true h
    show (PyData.int i).shown.length ≤ 202
    rw [PyData.shown_int, ofString_length]
    have := int_text_length_le (k := 200) (by decide) (log_ok h1)
    omega
  | .str s, h => by
    show (PyData.str s).shown.length ≤ 10 * s.length + 2
    rw [PyData.shown_str]
    exact StrLaws.reprText_len s fun c hc => of_decide_eq_true (List.all_eq_true.mp (show (s.cps.toList.all fun c => decide (c < 4294967296)) = true from h) c hc)
  | .tup xs, h => by
    have ih := showns_le xs h
    have ij := join_le (PyData.shownAll (D.pys xs))
    show (PyData.tuple (D.pys xs)).shown.length ≤ szs xs + 3
    rw [PyData.shown_tuple, strLen_append, strLen_append]
    have e1 : (("(" : String) : Str).length = 1 := rfl
    have e3 : (((if (D.pys xs).length == 1 then ",)" else ")" : String) : Str)).length ≤ 2 := by split <;> decide
    omega
  | .lst xs, h => by
    have ih := showns_le xs h
    have ij := join_le (PyData.shownAll (D.pys xs))
    show (PyData.list (D.pys xs)).shown.length ≤ szs xs + 3
    rw [PyData.shown_list, strLen_append, strLen_append]
    have e1 : (("[" : String) : Str).length = 1 := rfl
    have e3 : (("]" : String) : Str).length = 1 := rfl
    omega
  | .dic kvs, h => by
    have ih := shownKv_le kvs h
    have ij := join_le (PyData.shownKv (D.pykv kvs))
    show (PyData.dict (D.pykv kvs)).shown.length ≤ szkv kvs + 3
    rw [PyData.shown_dict, strLen_append, strLen_append]
    have e1 : (("{" : String) : Str).length = 1 := rfl
    have e3 : (("}" : String) : Str).length = 1 := rfl
    omega
  | .scr _, h => by cases h
  | .deck, h => by cases h
  | .err _ _, h => by cases h
  | .lam _ _, h => by cases h
theorem showns_le : ∀ ds : Ds, oks ds = true → sumL (PyData.shownAll (D.pys ds)) ≤ szs ds
  | [], _ => Nat.zero_le _
  | d :: ds, h => by
    have h' := Bool.and_eq_true_iff.mp (show (okD d && oks ds) = true from h)
    have e1 := shown_le d h'.1
    have e2 := showns_le ds h'.2
    show sumL (PyData.shownAll (d.py :: D.pys ds)) ≤ szD d + 2 + szs ds
    rw [PyData.shownAll_cons]
    show d.py.shown.length + 2 + sumL _ ≤ _
    omega
theorem shownKv_le : ∀ ds : Dp2, okkv ds = true → sumL (PyData.shownKv (D.pykv ds)) ≤ szkv ds
  | [], _ => Nat.zero_le _
  | (k, d) :: ds, h => by
    have h' := Bool.and_eq_true_iff.mp (show (okD k && okD d && okkv ds) = true from h)
    have h2 := Bool.and_eq_true_iff.mp h'.1
    have e0 := shown_le k h2.1
    have e1 := shown_le d h2.2
    have e2 := shownKv_le ds h'.2
    show sumL (PyData.shownKv ((k.py, d.py) :: D.pykv ds)) ≤ szD k + szD d + 4 + szkv ds
    rw [PyData.shownKv_cons]
    show (k.py.shown ++ ": " ++ d.py.shown).length + 2 + sumL _ ≤ _
    have e3 : ((": " : String) : Str).length = 2 := rfl
    rw [strLen_append, strLen_append]
    omega
end
/-- what repr shows -/
def Rp (d : D) : Prop := okD d = true ∧ szD d ≤ 8000000 ∧ dpD d ≤ 60
theorem repr_ok {d : D} (h : Rp d) : dRepr d = some (.str d.py.shown) := by
  unfold dRepr
  obtain ⟨h1, h2, h3⟩ := h
  have h4 := shown_le d h1
  rw [ok_plain d h1, ok_show d h1, dp_py, decide_eq_true h3, decide_eq_true (show d.py.shown.length ≤ lim from Nat.le_trans h4 (Nat.le_trans h2 (by decide)))]
  rfl
theorem repr_same {a b : Env → M D} {ρ : Env} {s s1 s2 : DS} {d : D} (h : a ρ s = .ok d s1) (h2 : b ρ s1 = .ok d s2) (h3 : Rp d) : mCmpB .NotEq (mCall bRepr (mCons a mNil)) (mCall bRepr (mCons b mNil)) ρ s = .ok false s2 := by
  refine cmp_of (blt_of (cons_of h rfl) (repr_ok h3)) (blt_of (cons_of h2 rfl) (repr_ok h3)) ?_
  show (some (d.py.shown == d.py.shown)).map not = some false
  rw [beq_self_eq_true]; rfl
theorem kw0_of {F : Ds → M D} {ps ks : List Str} {b : Env → M Ds} {ρ : Env} {s s1 s2 : DS} {ds es : Ds} {d : D} (h : b ρ s = .ok es s1) (hl : es.length = ks.length) (ho : ordV ps ks [] es = ds) (h2 : F ds s1 = .ok d s2) : mKw0 ps ks F b ρ s = .ok d s2 := bnd_of h (by rw [if_pos hl, ho]; exact h2)
theorem lstm_of {m : Env → M Ds} {ρ : Env} {s s' : DS} {ds : Ds} (h : m ρ s = .ok ds s') (hl : ds.length ≤ 4096) : mLst m ρ s = .ok ds s' := bnd_of h (by rw [if_pos (Nat.le_trans hl (by decide))]; rfl)
theorem tupm_of {m : Env → M Ds} {ρ : Env} {s s' : DS} {ds : Ds} (h : m ρ s = .ok ds s') (hl : ds.length ≤ 4096) : mTup m ρ s = .ok (.tup ds) s' := bnd_of h (by rw [if_pos (Nat.le_trans hl (by decide))]; rfl)
theorem disp_of {m : Env → M Ds} {ρ : Env} {s s' : DS} {ds : Ds} (h : m ρ s = .ok ds s') (hl : ds.length ≤ 4096) : (mLst m ρ >>= fun ds => pure (.lst ds) : M D) s = .ok (.lst ds) s' := bnd_of (lstm_of h hl) rfl
end RS

namespace RS
open PySem PySem.Spec

/-! ### what a step ends in -/
def W {α : Type} (r : R α) (P : α → DS → Prop) : Prop := ∃ a s', r = .ok a s' ∧ P a s'
section
variable {α β : Type} {P : α → DS → Prop} {Q : O → DS → Prop} {ρ : Env} {s s1 s' : DS}
theorem W.of {r : R α} {a : α} (h : r = .ok a s') (h2 : P a s') : W r P := ⟨a, s', h, h2⟩
theorem W.mono {r : R α} {P' : α → DS → Prop} (h : W r P) (h2 : ∀ a s', P a s' → P' a s') : W r P' := by
  obtain ⟨a, s', e, p⟩ := h
  exact ⟨a, s', e, h2 a s' p⟩
theorem W.bind {m : M β} {f : β → M α} (h : W (m s) fun b s1 => W (f b s1) P) : W ((m >>= f) s) P := by
  obtain ⟨b, s1, e, a, s2, e2, p⟩ := h
  exact ⟨a, s2, bnd_of e e2, p⟩
theorem W.seq {a b : MS} {ρ1 : Env} (h : a ρ s = .ok (.nx ρ1) s1) (h2 : W (b ρ1 s1) Q) : W (mSeq a b ρ s) Q := by
  obtain ⟨o, s2, e, q⟩ := h2
  exact ⟨o, s2, seq_nx h e, q⟩
theorem W.seqW {a b : MS} (h : W (a ρ s) fun o s1 => ∃ ρ1, o = .nx ρ1 ∧ W (b ρ1 s1) Q) : W (mSeq a b ρ s) Q := by
  obtain ⟨o, s1, e, ρ1, rfl, h2⟩ := h
  exact W.seq e h2
theorem W.ifT {t : Env → M Bool} {a b : MS} (h : t ρ s = .ok true s1) (h2 : W (a ρ s1) Q) : W (mIf t a b ρ s) Q := by
  obtain ⟨o, s2, e, q⟩ := h2
  exact ⟨o, s2, if_tt h e, q⟩
theorem W.ifF {t : Env → M Bool} {a b : MS} (h : t ρ s = .ok false s1) (h2 : W (b ρ s1) Q) : W (mIf t a b ρ s) Q := by
  obtain ⟨o, s2, e, q⟩ := h2
  exact ⟨o, s2, if_ff h e, q⟩
theorem W.loop {J : Env → DS → Prop} {g : Tg} {b : MS} : ∀ {ds : Ds} {ρ : Env} {s : DS}, (∀ d ∈ ds, ∀ ρ s, J ρ s → ∃ ρ1, g d ρ = some ρ1 ∧ W (b ρ1 s) fun o s' => ∃ ρ2, o = .nx ρ2 ∧ J ρ2 s') → J ρ s → ∃ ρ' s', mLoop g b ds ρ s = .ok (.nx ρ') s' ∧ J ρ' s' := fun {ds ρ s} h hJ =>
  loop_inv (fun d hd ρ s hj => by
    obtain ⟨ρ1, e1, o, s', e2, ρ2, rfl, j2⟩ := h d hd ρ s hj
    exact ⟨ρ1, ρ2, s', e1, e2, j2⟩) hJ
theorem W.for (J : Env → DS → Prop) {it : Env → M Ds} {g : Tg} {b : MS} {ds : Ds} (h0 : it ρ s = .ok ds s1) (hJ : J ρ s1) (hb : ∀ d ∈ ds, ∀ ρ s, J ρ s → ∃ ρ1, g d ρ = some ρ1 ∧ W (b ρ1 s) fun o s' => ∃ ρ2, o = .nx ρ2 ∧ J ρ2 s') (h2 : ∀ ρ' s', J ρ' s' → Q (.nx ρ') s') : W (mFor it g b ρ s) Q := by
  obtain ⟨ρ', s', e, j⟩ := W.loop hb hJ
  exact ⟨_, s', bnd_of h0 e, h2 ρ' s' j⟩
theorem W.run {N : List Str} {b : MS} {ds : Ds} {P : D → DS → Prop} (h : W (b (startE N ds) s) fun o s' => match o with
    | .rt d => P d s'
    | .nx _ => P .non s'
    | _ => False) : W (runB N b ds s) P := by
  obtain ⟨o, s', e, p⟩ := h
  cases o with
  | rt d => exact ⟨d, s', run_rt e, p⟩
  | nx ρ => exact ⟨.non, s', run_nx e, p⟩
  | _ => exact p.elim
theorem par2_of {i j : Nat} {m : Env → M Ds} {d e : D} (h : m ρ s = .ok [d, e] s') (hi : i < ρ.length) (hj : j < ρ.length) : mPar2 i j m ρ s = .ok (.nx ((ρ.set i (some (.val d))).set j (some (.val e)))) s' := bnd_of h (by
  show (if i < ρ.length ∧ j < ρ.length then _ else _ : M O) s' = _
  rw [if_pos ⟨hi, hj⟩]; rfl)
end
/-- small data -/
def smB (b c : Nat) (d : D) : Bool := okD d && (decide (szD d ≤ b) && decide (dpD d ≤ c))
def Sm (b c : Nat) (d : D) : Prop := okD d = true ∧ szD d ≤ b ∧ dpD d ≤ c
theorem Sm.of {b c : Nat} {d : D} (h : smB b c d = true) : Sm b c d := by
  unfold smB at h
  simp only [Bool.and_eq_true, decide_eq_true_eq] at h
  exact ⟨h.1, h.2.1, h.2.2⟩
theorem Sm.all {b c : Nat} {ds : Ds} (h : ds.all (smB b c) = true) : ∀ d ∈ ds, Sm b c d := fun d hd => Sm.of (List.all_eq_true.mp h d hd)
theorem Sm.rp {b c : Nat} {d : D} (h : Sm b c d) (hb : b ≤ 8000000 := by decide) (hc : c ≤ 60 := by decide) : Rp d := ⟨h.1, Nat.le_trans h.2.1 hb, Nat.le_trans h.2.2 hc⟩
theorem Sm.plain {b c : Nat} {d : D} (h : Sm b c d) : d.plain = true := ok_plain d h.1
end RS

/-! the evaluator as rewriting: every combinator on a state is one step -/
namespace RS
open PySem PySem.Spec
def R.bind {α β : Type} (r : R α) (f : α → DS → R β) : R β := match r with
  | .ok a s => f a s
  | .exc c x s => .exc c x s
  | .stuck => .stuck
def ofO {α : Type} (o : Option α) (s : DS) : R α := match o with
  | some a => .ok a s
  | none => .stuck
def R.calm {α : Type} (r : R α) : R α := match r with
  | .ok a s => .ok a s
  | _ => .stuck
section
variable {α β : Type}
@[simp] theorem bindk {a : α} {s : DS} {f : α → DS → R β} : R.bind (.ok a s) f = f a s := (rfl)
@[simp] theorem bindx {c : Str} {x : Option (Str × D)} {s : DS} {f : α → DS → R β} : R.bind (.exc c x s) f = .exc c x s := (rfl)
@[simp] theorem binds {f : α → DS → R β} : R.bind .stuck f = .stuck := (rfl)
@[simp] theorem bind_ite {c : Prop} [Decidable c] {x y : R α} {f : α → DS → R β} : R.bind (if c then x else y) f = if c then R.bind x f else R.bind y f := by split <;> rfl
@[simp] theorem ofO_some {a : α} {s : DS} : ofO (some a) s = .ok a s := (rfl)
@[simp] theorem ofO_none {s : DS} : ofO (none : Option α) s = .stuck := (rfl)
@[simp] theorem calm_ok' {a : α} {s : DS} : R.calm (.ok a s) = .ok a s := (rfl)
@[simp] theorem calm_ite {c : Prop} [Decidable c] {x y : R α} : R.calm (if c then x else y) = if c then R.calm x else R.calm y := by split <;> rfl
@[simp] theorem bnd_eq {m : M α} {f : α → M β} {s : DS} : (m >>= f) s = R.bind (m s) fun a s => f a s := (rfl)
@[simp] theorem pure_eq {a : α} {s : DS} : (pure a : M α) s = .ok a s := (rfl)
@[simp] theorem stop_eq {s : DS} : (M.stop : M α) s = .stuck := (rfl)
@[simp] theorem opt_eq {o : Option α} {s : DS} : M.opt o s = ofO o s := by cases o <;> rfl
@[simp] theorem calm_eq {m : M α} {s : DS} : M.calm m s = R.calm (m s) := (rfl)
@[simp] theorem iteM_eq {c : Prop} [Decidable c] {x y : M α} {s : DS} : (if c then x else y) s = if c then x s else y s := by split <;> rfl
end
/-- not too long -/
def Lm (n : Nat) : Prop := n ≤ lim
instance (n : Nat) : Decidable (Lm n) := inferInstanceAs (Decidable (n ≤ lim))
theorem Lm.of {n : Nat} (h : n ≤ 16000000) : Lm n := Nat.le_trans h (by decide)
theorem Lm.le {n m : Nat} (h : Lm n) (k : m ≤ n) : Lm m := Nat.le_trans k h
@[simp] theorem Lm_0 : Lm 0 := Lm.of (by decide)
@[simp] theorem Lm_1 : Lm 1 := Lm.of (by decide)
@[simp] theorem Lm_2 : Lm 2 := Lm.of (by decide)
@[simp] theorem Lm_3 : Lm 3 := Lm.of (by decide)
@[simp] theorem Lm_4 : Lm 4 := Lm.of (by decide)
@[simp] theorem Lm_5 : Lm 5 := Lm.of (by decide)
@[simp] theorem Lm_6 : Lm 6 := Lm.of (by decide)
@[simp] theorem Lm_7 : Lm 7 := Lm.of (by decide)
@[simp] theorem Lm_8 : Lm 8 := Lm.of (by decide)
@[simp] theorem Lm_9 : Lm 9 := Lm.of (by decide)
@[simp] theorem Lm_10 : Lm 10 := Lm.of (by decide)
@[simp] theorem Lm_11 : Lm 11 := Lm.of (by decide)
@[simp] theorem Lm_12 : Lm 12 := Lm.of (by decide)
@[simp] theorem Lm_13 : Lm 13 := Lm.of (by decide)
@[simp] theorem Lm_14 : Lm 14 := Lm.of (by decide)
@[simp] theorem Lm_15 : Lm 15 := Lm.of (by decide)
@[simp] theorem Lm_16 : Lm 16 := Lm.of (by decide)
@[simp] theorem Lm_17 : Lm 17 := Lm.of (by decide)
@[simp] theorem Lm_18 : Lm 18 := Lm.of (by decide)
@[simp] theorem Lm_19 : Lm 19 := Lm.of (by decide)
@[simp] theorem Lm_20 : Lm 20 := Lm.of (by decide)
@[simp] theorem Lm_21 : Lm 21 := Lm.of (by decide)
@[simp] theorem Lm_22 : Lm 22 := Lm.of (by decide)
@[simp] theorem Lm_23 : Lm 23 := Lm.of (by decide)
@[simp] theorem Lm_24 : Lm 24 := Lm.of (by decide)
@[simp] theorem Lm_25 : Lm 25 := Lm.of (by decide)
@[simp] theorem Lm_26 : Lm 26 := Lm.of (by decide)
@[simp] theorem Lm_27 : Lm 27 := Lm.of (by decide)
@[simp] theorem Lm_28 : Lm 28 := Lm.of (by decide)
@[simp] theorem Lm_29 : Lm 29 := Lm.of (by decide)
@[simp] theorem Lm_30 : Lm 30 := Lm.of (by decide)
/-! slots -/
def look : Env → Nat → Option Sl
  | [], _ => none
  | x :: _, 0 => x
  | _ :: r, n + 1 => look r n
@[simp] theorem look_0 {x : Option Sl} {r : Env} : look (x :: r) 0 = x := (rfl)
@[simp] theorem look_s {x : Option Sl} {r : Env} {n : Nat} : look (x :: r) (n + 1) = look r n := (rfl)
theorem look_eq : ∀ {ρ : Env} {i : Nat}, ρ[i]? = (look ρ i).map some ∨ (ρ[i]? = some none ∧ look ρ i = none) ∨ (ρ[i]? = none ∧ look ρ i = none)
  | [], i => .inr (.inr ⟨rfl, rfl⟩)
  | x :: r, 0 => by cases x <;> simp [look]
  | x :: r, i + 1 => by simpa [look] using look_eq (ρ := r) (i := i)
def rdV (o : Option Sl) (s : DS) : R D := match o with
  | some (.val d) => .ok d s
  | _ => .stuck
def rdP (o : Option Sl) (s : DS) : R D := match o with
  | some (.val d) => .ok d s
  | some (.own d) => .ok d s
  | _ => .stuck
@[simp] theorem rdV_val {d : D} {s : DS} : rdV (some (.val d)) s = .ok d s := (rfl)
@[simp] theorem rdP_val {d : D} {s : DS} : rdP (some (.val d)) s = .ok d s := (rfl)
@[simp] theorem rdP_own {d : D} {s : DS} : rdP (some (.own d)) s = .ok d s := (rfl)
section
variable {ρ : Env} {s : DS} {i : Nat}
@[simp] theorem ev_var : mVar i ρ s = rdV (look ρ i) s := by
  unfold mVar rdV
  rcases look_eq (ρ := ρ) (i := i) with h | ⟨h, k⟩ | ⟨h, k⟩
  · rw [h]
    cases look ρ i with
    | none => rfl
    | some x => cases x <;> rfl
  · rw [h, k]; rfl
  · rw [h, k]; rfl
@[simp] theorem ev_peek : mPeek i ρ s = rdP (look ρ i) s := by
  unfold mPeek rdP
  rcases look_eq (ρ := ρ) (i := i) with h | ⟨h, k⟩ | ⟨h, k⟩
  · rw [h]
    cases look ρ i with
    | none => rfl
    | some x => cases x <;> rfl
  · rw [h, k]; rfl
  · rw [h, k]; rfl
def setS : Env → Nat → Option Sl → Option Env
  | [], _, _ => none
  | _ :: r, 0, v => some (v :: r)
  | x :: r, n + 1, v => (setS r n v).map (x :: ·)
@[simp] theorem setS_0 {x v : Option Sl} {r : Env} : setS (x :: r) 0 v = some (v :: r) := (rfl)
@[simp] theorem setS_s {x v : Option Sl} {r : Env} {n : Nat} : setS (x :: r) (n + 1) v = (setS r n v).map (x :: ·) := (rfl)
theorem setS_eq : ∀ {ρ : Env} {i : Nat} {v : Option Sl}, setS ρ i v = if i < ρ.length then some (ρ.set i v) else none
  | [], i, v => rfl
  | x :: r, 0, v => by simp [setS]
  | x :: r, i + 1, v => by
    unfold setS
    rw [setS_eq (ρ := r)]
    simp only [List.length_cons, Nat.add_lt_add_iff_right, List.set_cons_succ]
    split <;> rfl
@[simp] theorem gN_eq {d : D} : gN i d ρ = setS ρ i (some (.val d)) := setS_eq.symm
@[simp] theorem gNl_eq : gNl [] ρ = some ρ := (rfl)
@[simp] theorem gCn_eq {g : Tg} {gs : Tgs} {d : D} {r : Ds} : gCn g gs (d :: r) ρ = (g d ρ).bind (gs r) := (rfl)
@[simp] theorem gTp_eq {gs : Tgs} {n : Nat} {ds : Ds} : gTp gs n (.tup ds) ρ = if ds.length = n then gs ds ρ else none := (rfl)
@[simp] theorem wipe_nil : wipeE ρ [] = ρ := (rfl)
@[simp] theorem wipe_cons {v : Nat} {vs : List Nat} : wipeE ρ (v :: vs) = (wipeE ρ vs).set v none := (rfl)
/-! expressions -/
@[simp] theorem ev_C {d : D} : mC d ρ s = .ok d s := (rfl)
@[simp] theorem ev_bin {op : Operator} {a b : Env → M D} : mBin op a b ρ s = R.bind (a ρ s) fun x s => R.bind (b ρ s) fun y s => ofO (dBin op x y) s := by
  simp [mBin]
@[simp] theorem ev_neg {a : Env → M D} : mNeg a ρ s = R.bind (a ρ s) fun x s => ofO (dNeg x) s := by
  simp [mNeg]
@[simp] theorem ev_cmpB {op : CmpOp} {a b : Env → M D} : mCmpB op a b ρ s = R.bind (a ρ s) fun x s => R.bind (b ρ s) fun y s => ofO (dCmp op x y) s := by
  simp [mCmpB]
@[simp] theorem ev_bl {m : Env → M Bool} : mBl m ρ s = R.bind (m ρ s) fun b s => .ok (.bl b) s := (rfl)
@[simp] theorem ev_if {α : Type} {t : Env → M Bool} {a b : Env → M α} : mIf t a b ρ s = R.bind (t ρ s) fun k s => if k = true then a ρ s else b ρ s := by
  simp [mIf]
@[simp] theorem ev_andB {a b : Env → M Bool} : mAndB a b ρ s = R.bind (a ρ s) fun k s => if k = true then b ρ s else .ok false s := by
  simp [mAndB]
@[simp] theorem ev_orB {a b : Env → M Bool} : mOrB a b ρ s = R.bind (a ρ s) fun k s => if k = true then .ok true s else b ρ s := by
  simp [mOrB]
@[simp] theorem ev_notB {a : Env → M Bool} : mNotB a ρ s = R.bind (a ρ s) fun k s => .ok (!k) s := (rfl)
@[simp] theorem ev_chain {op op' : CmpOp} {a b e : Env → M D} : mChain op op' a b e ρ s = R.bind (a ρ s) fun x s => R.bind (b ρ s) fun y s => R.bind (ofO (dCmp op x y) s) fun k s => if k = true then R.bind (e ρ s) fun z s => ofO (dCmp op' y z) s else .ok false s := by
  simp [mChain]
def asB (d : D) (s : DS) : R Bool := match d with
  | .bl b => .ok b s
  | _ => .stuck
@[simp] theorem asB_bl {b : Bool} : asB (.bl b) s = .ok b s := (rfl)
@[simp] theorem ev_asB {m : Env → M D} : mAsB m ρ s = R.bind (m ρ s) fun d s => asB d s := by
  show R.bind _ _ = _
  congr 1
  funext d s
  cases d <;> rfl
@[simp] theorem ev_tru {m : Env → M D} : mTru m ρ s = R.bind (m ρ s) fun d s => ofO (dTru d) s := by
  simp [mTru]
@[simp] theorem ev_nil : mNil ρ s = .ok [] s := (rfl)
@[simp] theorem ev_cons {a : Env → M D} {r : Env → M Ds} : mCons a r ρ s = R.bind (a ρ s) fun x s => R.bind (r ρ s) fun xs s => .ok (x :: xs) s := (rfl)
@[simp] theorem ev_tup {m : Env → M Ds} : mTup m ρ s = R.bind (m ρ s) fun xs s => if Lm xs.length then .ok (.tup xs) s else .stuck := by
  simp [mTup, Lm]
  try rfl
@[simp] theorem ev_lst {m : Env → M Ds} : mLst m ρ s = R.bind (m ρ s) fun xs s => if Lm xs.length then .ok xs s else .stuck := by
  simp [mLst, Lm]
  try rfl
@[simp] theorem ev_ix {a b : Env → M D} : mIx a b ρ s = R.bind (a ρ s) fun x s => R.bind (b ρ s) fun y s => ofO (dIx x y) s := by
  simp [mIx]
@[simp] theorem ev_ixM {a b : Env → M D} : mIxM a b ρ s = R.bind (a ρ s) fun x s => R.bind (b ρ s) fun y s => dIxM x y s := (rfl)
@[simp] theorem ix_lst {xs : Ds} {i : Int} : dIxM (.lst xs) (.int i) s = ofO (L2.atI xs i) s := by
  show M.opt _ s = _
  simp [dIx]
@[simp] theorem ix_tup {xs : Ds} {i : Int} : dIxM (.tup xs) (.int i) s = ofO (L2.atI xs i) s := by
  show M.opt _ s = _
  simp [dIx]
@[simp] theorem ix_dic {kvs : List (D × D)} {k : D} : dIxM (.dic kvs) k s = ofO ((keyOf k).bind (dLook kvs)) s := by
  show M.opt _ s = _
  simp [dIx]
@[simp] theorem ev_noP : mNoP ρ s = .ok none s := (rfl)
@[simp] theorem ev_P {m : Env → M D} : mP m ρ s = R.bind (m ρ s) fun d s => ofO ((dInt d).map some) s := by
  simp [mP]
@[simp] theorem ev_sl {a : Env → M D} {lo hi : Env → M (Option Int)} : mSl a lo hi ρ s = R.bind (a ρ s) fun x s => R.bind (lo ρ s) fun l s => R.bind (hi ρ s) fun h s => ofO (dSl x l h) s := by
  simp [mSl]
@[simp] theorem ev_call {op : Ds → Option D} {m : Env → M Ds} : mCall op m ρ s = R.bind (m ρ s) fun ds s => ofO (op ds) s := by
  simp [mCall]
@[simp] theorem ev_callF {op : Ds → Option Ds} {m : Env → M Ds} : mCallF op m ρ s = R.bind (m ρ s) fun ds s => ofO (op ds) s := by
  simp [mCallF]
@[simp] theorem ev_callD {F : Ds → M D} {m : Env → M Ds} : mCallD F m ρ s = R.bind (m ρ s) fun ds s => F ds s := (rfl)
@[simp] theorem ev_lenG {n : Nat} {F : Ds → M D} {ds : Ds} : lenG n F ds s = if ds.length = n then F ds s else .stuck := by
  unfold lenG; simp
@[simp] theorem ev_kw {ps ks : List Str} {n : Nat} {F : Ds → M D} {a b : Env → M Ds} : mKw ps ks n F a b ρ s = R.bind (a ρ s) fun ds s => R.bind (b ρ s) fun es s => if ds.length = n ∧ es.length = ks.length then F (ordV ps ks ds es) s else .stuck := by
  simp [mKw]
@[simp] theorem ev_kw0 {ps ks : List Str} {F : Ds → M D} {b : Env → M Ds} : mKw0 ps ks F b ρ s = R.bind (b ρ s) fun es s => if es.length = ks.length then F (ordV ps ks [] es) s else .stuck := by
  simp [mKw0]
@[simp] theorem ev_isa {T : String} {m : Env → M D} : mIsa T m ρ s = R.bind (m ρ s) fun d s => ofO (dIsa T d) s := by
  simp [mIsa]
@[simp] theorem ev_back {m : Env → M D} : mBack m ρ s = R.bind (m ρ s) fun d s => ofO (dBack d) s := by
  simp [mBack]
@[simp] theorem ev_backF {m : Env → M D} : mBackF m ρ s = R.bind (m ρ s) fun d s => ofO (dBackL d) s := by
  simp [mBackF]
@[simp] theorem ev_up {m : Env → M D} : mUp m ρ s = R.bind (m ρ s) fun d s => ofO (dUpper d) s := by
  simp [mUp]
/-! sources -/
@[simp] theorem ev_seqI {m : Env → M D} : mSeqI m ρ s = R.bind (m ρ s) fun d s => ofO (dSeq d) s := by
  simp [mSeqI]
@[simp] theorem ev_rng1 {m : Env → M D} : mRngI1 m ρ s = R.bind (m ρ s) fun d s => ofO (dRng1 d) s := by
  simp [mRngI1]
@[simp] theorem ev_rng2 {a b : Env → M D} : mRngI2 a b ρ s = R.bind (a ρ s) fun x s => R.bind (b ρ s) fun y s => ofO (dRng2 x y) s := by
  simp [mRngI2]
@[simp] theorem ev_enumI {m : Env → M D} : mEnumI m ρ s = R.bind (m ρ s) fun d s => ofO (dEnumI d) s := by
  simp [mEnumI]
@[simp] theorem ev_zipI {a b : Env → M D} : mZipI a b ρ s = R.bind (a ρ s) fun x s => R.bind (b ρ s) fun y s => ofO (dZipI x y) s := by
  simp [mZipI]
@[simp] theorem ev_itemsI {m : Env → M D} : mItemsI m ρ s = R.bind (m ρ s) fun d s => ofO (dItems d) s := by
  simp [mItemsI]
@[simp] theorem ev_keysI {m : Env → M D} : mKeysI m ρ s = R.bind (m ρ s) fun d s => ofO (dKeys d) s := by
  simp [mKeysI]
@[simp] theorem ev_valsI {m : Env → M D} : mValsI m ρ s = R.bind (m ρ s) fun d s => ofO (dVals d) s := by
  simp [mValsI]
@[simp] theorem ev_yes : mYes ρ s = .ok true s := (rfl)
@[simp] theorem ev_lc {it : Env → M Ds} {g : Tg} {t : Env → M Bool} {e : Env → M D} {vs : List Nat} : mLc it g t e vs ρ s = R.bind (it ρ s) fun ds s => if Lm ds.length then mLcGo g t e (wipeE ρ vs) ds s else .stuck := by
  simp [mLc, Lm]
  try rfl
@[simp] theorem ev_get {md mk mx : Env → M D} : mGet md mk mx ρ s = R.bind (md ρ s) fun d s => R.bind (ofO (dicOf d) s) fun kvs s => R.bind (mk ρ s) fun k s => R.bind (mx ρ s) fun x s => ofO ((keyOf k).map fun k => (dLook kvs k).getD x) s := by
  simp [mGet]
@[simp] theorem ev_disp {ms : List ((Env → M D) × (Env → M D))} : mDisp ms ρ s = R.bind (mPairs ms ρ s) fun ps s => ofO (if ps.length ≤ 15 then (mergeD [] ps).map .dic else none) s := by
  simp [mDisp]
@[simp] theorem ev_pairs0 : mPairs [] ρ s = .ok [] s := (rfl)
@[simp] theorem ev_pairs1 {k v : Env → M D} {r : List ((Env → M D) × (Env → M D))} : mPairs ((k, v) :: r) ρ s = R.bind (k ρ s) fun dk s => R.bind (v ρ s) fun dv s => R.bind (mPairs r ρ s) fun ps s => .ok ((dk, dv) :: ps) s := (rfl)
@[simp] theorem ev_dc {it : Env → M Ds} {g : Tg} {t : Env → M Bool} {ek ev : Env → M D} {vs : List Nat} : mDc it g t ek ev vs ρ s = R.bind (it ρ s) fun ds s => if Lm ds.length then mDcGo g t ek ev (wipeE ρ vs) [] ds s else .stuck := by
  simp [mDc, Lm]
  try rfl
@[simp] theorem ev_dv {m : Env → M Dp2} : mDv m ρ s = R.bind (m ρ s) fun ds s => .ok (.dic ds) s := (rfl)
/-! statements -/
def seqO (b : MS) (o : O) (s : DS) : R O := match o with
  | .nx ρ' => b ρ' s
  | o => .ok o s
@[simp] theorem seqO_nx {b : MS} {ρ : Env} : seqO b (.nx ρ) s = b ρ s := (rfl)
@[simp] theorem seqO_rt {b : MS} {d : D} : seqO b (.rt d) s = .ok (.rt d) s := (rfl)
@[simp] theorem seqO_bk {b : MS} {ρ : Env} : seqO b (.bk ρ) s = .ok (.bk ρ) s := (rfl)
@[simp] theorem seqO_ct {b : MS} {ρ : Env} : seqO b (.ct ρ) s = .ok (.ct ρ) s := (rfl)
@[simp] theorem ev_next : mNext ρ s = .ok (.nx ρ) s := (rfl)
@[simp] theorem ev_seq {a b : MS} : mSeq a b ρ s = R.bind (a ρ s) fun o s => seqO b o s := by
  show R.bind _ _ = _
  congr 1
  funext o s
  cases o <;> rfl
@[simp] theorem ev_ret {m : Env → M D} : mRet m ρ s = R.bind (m ρ s) fun d s => .ok (.rt d) s := (rfl)
@[simp] theorem ev_brk : mBrk ρ s = .ok (.bk ρ) s := (rfl)
@[simp] theorem ev_cnt : mCnt ρ s = .ok (.ct ρ) s := (rfl)
@[simp] theorem ev_drop {m : Env → M D} : mDrop m ρ s = R.bind (m ρ s) fun _ s => .ok (.nx ρ) s := (rfl)
@[simp] theorem ev_asg {m : Env → M D} {g : Tg} : mAsg m g ρ s = R.bind (m ρ s) fun d s => R.bind (ofO (g d ρ) s) fun ρ' s => .ok (.nx ρ') s := by
  simp [mAsg]
@[simp] theorem ev_for {it : Env → M Ds} {g : Tg} {b : MS} : mFor it g b ρ s = R.bind (it ρ s) fun ds s => mLoop g b ds ρ s := (rfl)
@[simp] theorem ev_setV {m : Env → M Ds} : mSetV m i ρ s = R.bind (m ρ s) fun ds s => R.bind (ofO (setS ρ i (some (.val (.lst ds)))) s) fun ρ' s => .ok (.nx ρ') s := by
  show R.bind _ _ = _
  congr 1
  funext ds s
  rw [setS_eq]
  split <;> rfl
@[simp] theorem ev_setO {m : Env → M Ds} : mSetO m i ρ s = R.bind (m ρ s) fun ds s => R.bind (ofO (setS ρ i (some (.own (.lst ds)))) s) fun ρ' s => .ok (.nx ρ') s := by
  show R.bind _ _ = _
  congr 1
  funext ds s
  rw [setS_eq]
  split <;> rfl
@[simp] theorem ev_setD {m : Env → M Dp2} : mSetD m i ρ s = R.bind (m ρ s) fun ds s => R.bind (ofO (setS ρ i (some (.own (.dic ds)))) s) fun ρ' s => .ok (.nx ρ') s := by
  show R.bind _ _ = _
  congr 1
  funext ds s
  rw [setS_eq]
  split <;> rfl
def ownO (o : Option Sl) : Option D := match o with
  | some (.own d) => some d
  | _ => none
@[simp] theorem ownO_own {d : D} : ownO (some (.own d)) = some d := (rfl)
@[simp] theorem ownO_val {d : D} : ownO (some (.val d)) = none := (rfl)
@[simp] theorem ownO_none : ownO none = none := (rfl)
theorem ownS_eq : ownS ρ i = ownO (look ρ i) := by
  unfold ownS ownO
  rcases look_eq (ρ := ρ) (i := i) with h | ⟨h, k⟩ | ⟨h, k⟩
  · rw [h]
    cases look ρ i with
    | none => rfl
    | some x => cases x <;> rfl
  · rw [h, k]
  · rw [h, k]
def lstOf (d : D) : Option Ds := match d with
  | .lst xs => some xs
  | _ => none
@[simp] theorem lstOf_lst {xs : Ds} : lstOf (.lst xs) = some xs := (rfl)
theorem ownL_eq : ownL ρ i = (ownO (look ρ i)).bind lstOf := by
  unfold ownL ownO
  rcases look_eq (ρ := ρ) (i := i) with h | ⟨h, k⟩ | ⟨h, k⟩
  · rw [h]
    cases look ρ i with
    | none => rfl
    | some x =>
      cases x with
      | val d => rfl
      | own d => cases d <;> rfl
  · rw [h, k]; rfl
  · rw [h, k]; rfl
def frzO (i : Nat) (ρ : Env) (o : Option D) (s : DS) : R O := match o with
  | some d => R.bind (ofO (setS ρ i (some (.val d))) s) fun ρ' s => .ok (.nx ρ') s
  | none => .ok (.nx ρ) s
@[simp] theorem frzO_none : frzO i ρ none s = .ok (.nx ρ) s := (rfl)
@[simp] theorem frzO_some {d : D} : frzO i ρ (some d) s = R.bind (ofO (setS ρ i (some (.val d))) s) fun ρ' s => .ok (.nx ρ') s := (rfl)
theorem look_lt : ∀ {ρ : Env} {i : Nat} {x : Sl}, look ρ i = some x → i < ρ.length
  | y :: r, 0, x, h => Nat.zero_lt_succ _
  | y :: r, i + 1, x, h => Nat.succ_lt_succ (look_lt (ρ := r) h)
@[simp] theorem ev_frz : mFrz i ρ s = frzO i ρ (ownO (look ρ i)) s := by
  unfold mFrz
  rw [ownS_eq]
  cases h : ownO (look ρ i) with
  | none => rfl
  | some d =>
    have : i < ρ.length := by
      cases h2 : look ρ i with
      | none => rw [h2] at h; cases h
      | some x => exact look_lt h2
    simp only [frzO_some, setS_eq, if_pos this]
    rfl
def deckO (o : Option Sl) : Bool := match o with
  | some (.val .deck) => true
  | _ => false
theorem isDeck_eq : isDeck ρ i = deckO (look ρ i) := by
  unfold isDeck deckO
  rcases look_eq (ρ := ρ) (i := i) with h | ⟨h, k⟩ | ⟨h, k⟩
  · rw [h]
    cases look ρ i with
    | none => rfl
    | some x =>
      cases x with
      | val d => cases d <;> rfl
      | own d => rfl
  · rw [h, k]
  · rw [h, k]
@[simp] theorem ev_put {v ix : Env → M D} : mPut i v ix ρ s = R.bind (v ρ s) fun dv s => if deckO (look ρ i) = true then R.bind (ix ρ s) fun di s => mPutDk ρ di dv s else
    R.bind (ofO (ownO (look ρ i)) s) fun d s => R.bind (ix ρ s) fun di s => R.bind (ofO (dPut d di dv) s) fun d s => R.bind (ofO (setS ρ i (some (.own d))) s) fun ρ' s => .ok (.nx ρ') s := by
  show R.bind _ _ = _
  congr 1
  funext dv s
  rw [isDeck_eq, ownS_eq]
  split
  · simp
  · cases h : ownO (look ρ i) with
    | none => simp
    | some d =>
      have : i < ρ.length := by
        cases h2 : look ρ i with
        | none => rw [h2] at h; cases h
        | some x => exact look_lt h2
      simp [setS_eq, this]
@[simp] theorem ev_app {e : Env → M D} : mApp i e ρ s = R.bind (ofO ((ownO (look ρ i)).bind lstOf) s) fun xs s => R.bind (e ρ s) fun v s => if Lm (xs.length + 1) then R.bind (ofO (setS ρ i (some (.own (.lst (xs ++ [v]))))) s) fun ρ' s => .ok (.nx ρ') s else .stuck := by
  unfold mApp
  rw [ownL_eq]
  simp only [opt_eq, bnd_eq]
  cases h : (ownO (look ρ i)).bind lstOf with
  | none => rfl
  | some xs =>
    have : i < ρ.length := by
      cases h2 : look ρ i with
      | none => rw [h2] at h; cases h
      | some x => exact look_lt h2
    simp [setS_eq, this, Lm, Nat.lt_iff_add_one_le]
@[simp] theorem ev_appX {e : Env → M (D × Env)} : mAppX i e ρ s = R.bind (ofO ((ownO (look ρ i)).bind lstOf) s) fun _ s => R.bind (e ρ s) fun r s => R.bind (ofO ((ownO (look r.2 i)).bind lstOf) s) fun xs s => if Lm (xs.length + 1) then R.bind (ofO (setS r.2 i (some (.own (.lst (xs ++ [r.1]))))) s) fun ρ' s => .ok (.nx ρ') s else .stuck := by
  unfold mAppX
  simp only [ownL_eq, opt_eq, bnd_eq]
  congr 1
  funext _ s
  congr 1
  funext r s
  cases h : (ownO (look r.2 i)).bind lstOf with
  | none => rfl
  | some xs =>
    have : i < r.2.length := by
      cases h2 : look r.2 i with
      | none => rw [h2] at h; cases h
      | some x => exact look_lt h2
    simp [setS_eq, this, Lm, Nat.lt_iff_add_one_le]
@[simp] theorem ev_popX {m : Env → M (D × Env)} : mPopX i m ρ s = R.bind (ofO ((ownO (look ρ i)).bind lstOf) s) fun _ s => R.bind (m ρ s) fun r s => R.bind (ofO (((ownO (look r.2 i)).bind lstOf).bind fun xs => popD xs r.1) s) fun y s => R.bind (ofO (setS r.2 i (some (.own (.lst y.2)))) s) fun ρ' s => .ok (y.1, ρ') s := by
  unfold mPopX
  simp only [ownL_eq, opt_eq, bnd_eq]
  congr 1
  funext _ s
  congr 1
  funext r s
  cases h : (ownO (look r.2 i)).bind lstOf with
  | none => rfl
  | some xs =>
    have : i < r.2.length := by
      cases h2 : look r.2 i with
      | none => rw [h2] at h; cases h
      | some x => exact look_lt h2
    cases h3 : popD xs r.1 <;> simp [setS_eq, this, h3]
@[simp] theorem ev_ext {e : Env → M Ds} : mExt i e ρ s = R.bind (ofO ((ownO (look ρ i)).bind lstOf) s) fun xs s => R.bind (e ρ s) fun ys s => if Lm (xs.length + ys.length) then R.bind (ofO (setS ρ i (some (.own (.lst (xs ++ ys))))) s) fun ρ' s => .ok (.nx ρ') s else .stuck := by
  unfold mExt
  rw [ownL_eq]
  simp only [opt_eq, bnd_eq]
  cases h : (ownO (look ρ i)).bind lstOf with
  | none => rfl
  | some xs =>
    have : i < ρ.length := by
      cases h2 : look ρ i with
      | none => rw [h2] at h; cases h
      | some x => exact look_lt h2
    simp [setS_eq, this, Lm]
@[simp] theorem setSs_nil : setSs ρ [] [] = some ρ := (rfl)
@[simp] theorem setSs_cons {is : List Nat} {a : Sl} {as : Sls} : setSs ρ (i :: is) (a :: as) = (setS ρ i (some a)).bind fun ρ => setSs ρ is as := by
  rw [setS_eq]
  show (if i < ρ.length then _ else _) = _
  by_cases h : i < ρ.length <;> simp [h]
@[simp] theorem ev_snil : mSNil ρ s = .ok [] s := (rfl)
@[simp] theorem ev_sval {a : Env → M D} {r : Env → M Sls} : mSVal a r ρ s = R.bind (a ρ s) fun x s => R.bind (r ρ s) fun xs s => .ok (.val x :: xs) s := (rfl)
@[simp] theorem ev_slst {a : Env → M Ds} {r : Env → M Sls} : mSLst a r ρ s = R.bind (a ρ s) fun x s => R.bind (r ρ s) fun xs s => .ok (.own (.lst x) :: xs) s := (rfl)
@[simp] theorem ev_sdic {a : Env → M Dp2} {r : Env → M Sls} : mSDic a r ρ s = R.bind (a ρ s) fun x s => R.bind (r ρ s) fun xs s => .ok (.own (.dic x) :: xs) s := (rfl)
@[simp] theorem ev_parO {is : List Nat} {m : Env → M Sls} : mParO is m ρ s = R.bind (m ρ s) fun as s => R.bind (ofO (setSs ρ is as) s) fun ρ' s => .ok (.nx ρ') s := by
  show R.bind _ _ = _
  congr 1
  funext as s
  show (M.opt (setSs ρ is as) >>= fun ρ' => pure (O.nx ρ')) s = _
  cases setSs ρ is as <;> rfl
@[simp] theorem ev_lift {m : Env → M D} : mLift m ρ s = R.bind (m ρ s) fun d s => .ok (d, ρ) s := (rfl)
@[simp] theorem ev_nilX : mNilX ρ s = .ok ([], ρ) s := (rfl)
@[simp] theorem ev_consX {a : Env → M (D × Env)} {b : Env → M (List D × Env)} : mConsX a b ρ s = R.bind (a ρ s) fun r s => R.bind (b r.2 s) fun q s => .ok (r.1 :: q.1, q.2) s := (rfl)
@[simp] theorem ev_callX {F : List D → M D} {m : Env → M (List D × Env)} : mCallX F m ρ s = R.bind (m ρ s) fun r s => R.bind (F r.1 s) fun d s => .ok (d, r.2) s := (rfl)
@[simp] theorem ev_dropX {m : Env → M (D × Env)} : mDropX m ρ s = R.bind (m ρ s) fun r s => .ok (.nx r.2) s := (rfl)
@[simp] theorem ev_asgX {m : Env → M (D × Env)} {g : Tg} : mAsgX m g ρ s = R.bind (m ρ s) fun r s => R.bind (ofO (g r.1 r.2) s) fun ρ' s => .ok (.nx ρ') s := by
  have e : ∀ {α β : Type} {o : Option α} {f : α → M β} {s : DS}, (M.opt o >>= f) s = R.bind (ofO o s) fun a s => f a s := fun {α β o f s} => by cases o <;> rfl
  show R.bind _ _ = _
  congr 1
  funext r s
  rw [e]
  rfl
def parO2 (ρ : Env) (i j : Nat) (ds : Ds) (s : DS) : R O := match ds with
  | [d, e] => R.bind (ofO ((setS ρ i (some (.val d))).bind fun ρ => setS ρ j (some (.val e))) s) fun ρ' s => .ok (.nx ρ') s
  | _ => .stuck
@[simp] theorem parO2_eq {j : Nat} {d e : D} : parO2 ρ i j [d, e] s = R.bind (ofO ((setS ρ i (some (.val d))).bind fun ρ => setS ρ j (some (.val e))) s) fun ρ' s => .ok (.nx ρ') s := (rfl)
@[simp] theorem ev_par2 {j : Nat} {m : Env → M Ds} : mPar2 i j m ρ s = R.bind (m ρ s) fun ds s => parO2 ρ i j ds s := by
  show R.bind _ _ = _
  congr 1
  funext ds s
  unfold parO2
  split
  · simp only [iteM_eq, pure_eq, stop_eq, setS_eq]
    by_cases h : i < ρ.length
    · by_cases k : j < ρ.length
      · simp [h, k]
      · simp [h, k]
    · simp [h]
  · rename_i h
    split
    · exact (h _ _ rfl).elim
    · rfl
def parO3 (ρ : Env) (i j l : Nat) (ds : Ds) (s : DS) : R O := match ds with
  | [d, e, f] => R.bind (ofO ((setS ρ i (some (.val d))).bind fun ρ => (setS ρ j (some (.val e))).bind fun ρ => setS ρ l (some (.val f))) s) fun ρ' s => .ok (.nx ρ') s
  | _ => .stuck
@[simp] theorem parO3_eq {j l : Nat} {d e f : D} : parO3 ρ i j l [d, e, f] s = R.bind (ofO ((setS ρ i (some (.val d))).bind fun ρ => (setS ρ j (some (.val e))).bind fun ρ => setS ρ l (some (.val f))) s) fun ρ' s => .ok (.nx ρ') s := (rfl)
@[simp] theorem ev_par3 {j l : Nat} {m : Env → M Ds} : mPar3 i j l m ρ s = R.bind (m ρ s) fun ds s => parO3 ρ i j l ds s := by
  show R.bind _ _ = _
  congr 1
  funext ds s
  unfold parO3
  split
  · simp only [iteM_eq, pure_eq, stop_eq, setS_eq]
    by_cases h : i < ρ.length
    · by_cases k : j < ρ.length
      · by_cases k2 : l < ρ.length
        · simp [h, k, k2, setS_eq]
        · simp [h, k, k2, setS_eq]
      · simp [h, k, setS_eq]
    · simp [h]
  · rename_i h
    split
    · exact (h _ _ _ rfl).elim
    · rfl
end
/-! a def -/
def finO (o : O) (s : DS) : R D := match o with
  | .rt d => .ok d s
  | .nx _ => .ok .non s
  | _ => .stuck
@[simp] theorem finO_rt {d : D} {s : DS} : finO (.rt d) s = .ok d s := (rfl)
@[simp] theorem finO_nx {ρ : Env} {s : DS} : finO (.nx ρ) s = .ok .non s := (rfl)
theorem runB_eq {N : List Str} {b : MS} {ds : Ds} {s : DS} : runB N b ds s = R.bind (b (startE N ds) s) fun o s => finO o s := by
  show R.bind _ _ = _
  congr 1
  funext o s
  cases o <;> rfl
/-! walks -/
section
variable {α : Type}
/-- what a walk over things gives, one by one -/
def lcF (h : α → DS → R (Option D)) : List α → DS → R Ds
  | [], s => .ok [] s
  | x :: xs, s => R.bind (h x s) fun o s => R.bind (lcF h xs s) fun ys s => .ok (o.toList ++ ys) s
@[simp] theorem lcGo_F {g : Tg} {t : Env → M Bool} {e : Env → M D} {ρ : Env} (f : α → D) : ∀ {xs : List α} {s : DS}, mLcGo g t e ρ (xs.map f) s = lcF (fun x s => R.bind (ofO (g (f x) ρ) s) fun ρ2 s => R.bind (R.calm (t ρ2 s)) fun b s => if b = true then R.bind (R.calm (e ρ2 s)) fun y s => .ok (some y) s else .ok none s) xs s
  | [], s => rfl
  | x :: xs, s => by
    rw [List.map_cons]
    unfold mLcGo lcF
    simp only [bnd_eq, opt_eq, calm_eq]
    cases ofO (g (f x) ρ) s with
    | exc => rfl
    | stuck => rfl
    | ok ρ2 s2 =>
      simp only [bindk]
      cases R.calm (t ρ2 s2) with
      | exc => rfl
      | stuck => rfl
      | ok b s3 =>
        cases b with
        | false =>
          simp only [bindk, iteM_eq, Bool.false_eq_true, if_false, lcGo_F f (xs := xs)]
          cases lcF _ xs s3 <;> rfl
        | true =>
          simp only [bindk, iteM_eq, if_true, bnd_eq, calm_eq]
          cases R.calm (e ρ2 s3) with
          | exc => rfl
          | stuck => rfl
          | ok y s4 =>
            simp only [bindk, lcGo_F f (xs := xs), pure_eq]
            rfl
theorem lcF_congr {h h' : α → DS → R (Option D)} {xs ys : List α} {s s' : DS} (e : xs = ys) (es : s = s') (k : ∀ x, x ∈ ys → ∀ s, h x s = h' x s) : lcF h xs s = lcF h' ys s' := by
  subst e; subst es
  induction xs generalizing s with
  | nil => rfl
  | cons x xs ih =>
    unfold lcF
    rw [k x (.head _)]
    congr 1
    funext o s
    rw [ih fun y hy => k y (.tail _ hy)]
@[simp] theorem lcF_map {f : α → D} {xs : List α} {s : DS} : lcF (fun x s => .ok (some (f x)) s) xs s = .ok (xs.map f) s := by
  induction xs with
  | nil => rfl
  | cons x xs ih => unfold lcF; rw [bindk, ih]; rfl
@[simp] theorem lcF_filter {p : α → Prop} [DecidablePred p] {f : α → D} {xs : List α} {s : DS} : lcF (fun x s => if p x then .ok (some (f x)) s else .ok none s) xs s = .ok ((xs.filter fun x => decide (p x)).map f) s := by
  induction xs with
  | nil => rfl
  | cons x xs ih =>
    unfold lcF
    by_cases c : p x
    · rw [if_pos c, bindk, ih, List.filter_cons, if_pos (by simpa using c)]; rfl
    · rw [if_neg c, bindk, ih, List.filter_cons, if_neg (by simpa using c)]; rfl
@[simp] theorem lcF_filterN {p : α → Prop} [DecidablePred p] {f : α → D} {xs : List α} {s : DS} : lcF (fun x s => if p x then .ok none s else .ok (some (f x)) s) xs s = .ok ((xs.filter fun x => !decide (p x)).map f) s := by
  induction xs with
  | nil => rfl
  | cons x xs ih =>
    unfold lcF
    by_cases c : p x
    · rw [if_pos c, bindk, ih, List.filter_cons, if_neg (by simpa using c)]; rfl
    · rw [if_neg c, bindk, ih, List.filter_cons, if_pos (by simpa using c)]; rfl
theorem lcF_of {f : α → Option D} {h : α → DS → R (Option D)} {xs : List α} {s : DS} (k : ∀ x, x ∈ xs → h x s = .ok (f x) s) : lcF h xs s = .ok (xs.filterMap f) s := by
  induction xs with
  | nil => rfl
  | cons x xs ih =>
    unfold lcF
    rw [k x (.head _), bindk, ih fun y hy => k y (.tail _ hy), bindk, List.filterMap_cons]
    cases f x <;> rfl
theorem loop_fold {σ : Type} {g : Tg} {b : MS} {enc : α → D} {s : DS} (E : σ → Env → Prop) (f : σ → α → σ) : ∀ {xs : List α} {ρ : Env} {a : σ}, (∀ x, x ∈ xs → ∀ a ρ, E a ρ → ∃ ρ1 ρ2, g (enc x) ρ = some ρ1 ∧ b ρ1 s = .ok (.nx ρ2) s ∧ E (f a x) ρ2) → E a ρ → ∃ ρ', mLoop g b (xs.map enc) ρ s = .ok (.nx ρ') s ∧ E (xs.foldl f a) ρ'
  | [], ρ, a, _, h => ⟨ρ, rfl, h⟩
  | x :: xs, ρ, a, k, h => by
    obtain ⟨ρ1, ρ2, h1, h2, h3⟩ := k x (.head _) a ρ h
    obtain ⟨ρ', h4, h5⟩ := loop_fold E f (xs := xs) (fun y hy => k y (.tail _ hy)) h3
    refine ⟨ρ', ?_, h5⟩
    rw [List.map_cons]
    unfold mLoop
    exact bnd_of (opt_of h1) (bnd_of h2 h4)
end
end RS

/-! rows of marks by a small prime, as functions of the place: sums of multiples, echelon systems, what is unique about them -/
class Pr (q : Nat) : Prop where
  h : q = 2 ∨ q = 3 ∨ q = 5
instance {q : Nat} [p : Pr q] : NeZero q := ⟨by have := p.h; omega⟩
namespace LA
variable {q : Nat} [Pr q]
abbrev Vec (q : Nat) := Nat → Fin q
theorem inv_ex [p : Pr q] (a : Fin q) (h : a ≠ 0) : ∃ b : Fin q, b * a = 1 := by
  have h2 : ∀ a : Fin 2, a ≠ 0 → ∃ b : Fin 2, b * a = 1 := by decide
  have h3 : ∀ a : Fin 3, a ≠ 0 → ∃ b : Fin 3, b * a = 1 := by decide
  have h5 : ∀ a : Fin 5, a ≠ 0 → ∃ b : Fin 5, b * a = 1 := by decide
  rcases p.h with e | e | e
  · subst e; exact h2 a h
  · subst e; exact h3 a h
  · subst e; exact h5 a h
open Classical in
noncomputable def inv (a : Fin q) : Fin q := if h : a ≠ 0 then (inv_ex a h).choose else 0
theorem inv_mul {a : Fin q} (h : a ≠ 0) : inv a * a = 1 := by
  unfold inv
  rw [dif_pos h]
  exact (inv_ex a h).choose_spec
theorem inv_uniq {a b : Fin q} (h : b * a = 1) (ha : a ≠ 0) : b = inv a := by
  have := inv_mul ha
  grind
theorem one_ne : (1 : Fin q) ≠ 0 := by
  have h2 : (1 : Fin 2) ≠ 0 := by decide
  have h3 : (1 : Fin 3) ≠ 0 := by decide
  have h5 : (1 : Fin 5) ≠ 0 := by decide
  rename_i p
  rcases p.h with e | e | e
  · subst e; exact h2
  · subst e; exact h3
  · subst e; exact h5
theorem mul_ne {a b : Fin q} (ha : a ≠ 0) (hb : b ≠ 0) : a * b ≠ 0 := by
  intro h
  have := inv_mul ha
  exact hb (by grind)
theorem mul_eq0 {a b : Fin q} (h : a * b = 0) : a = 0 ∨ b = 0 := by
  by_cases ha : a = 0
  · exact .inl ha
  · by_cases hb : b = 0
    · exact .inr hb
    · exact absurd h (mul_ne ha hb)
theorem inv_ne {a : Fin q} (h : a ≠ 0) : inv a ≠ 0 := by
  intro e
  have := inv_mul h
  rw [e] at this
  exact one_ne (q := q) (by grind)

/-! ### sums of multiples -/
/-- all sums of multiples of some rows -/
def Span : List (Vec q) → Vec q → Prop
  | [], v => ∀ i, v i = 0
  | r :: L, v => ∃ c : Fin q, Span L fun i => v i - c * r i
theorem Span.congr : ∀ {L : List (Vec q)} {v w : Vec q}, Span L v → (∀ i, w i = v i) → Span L w := by
  intro L v w h e
  rw [show w = v from funext e]; exact h
theorem Span.zero : ∀ {L : List (Vec q)}, Span L fun _ => 0
  | [] => fun _ => rfl
  | r :: L => ⟨0, (Span.zero (L := L)).congr fun i => by grind⟩
theorem Span.zero' {L : List (Vec q)} {v : Vec q} (h : ∀ i, v i = 0) : Span L v := Span.zero.congr h
theorem Span.add : ∀ {L : List (Vec q)} {v w : Vec q}, Span L v → Span L w → Span L fun i => v i + w i
  | [], v, w, h, k => fun i => by show v i + w i = 0; rw [h i, k i]; grind
  | r :: L, v, w, ⟨c, h⟩, ⟨d, k⟩ => ⟨c + d, (h.add k).congr fun i => by grind⟩
theorem Span.smul : ∀ {L : List (Vec q)} {v : Vec q} (a : Fin q), Span L v → Span L fun i => a * v i
  | [], v, a, h => fun i => by show a * v i = 0; rw [h i]; grind
  | r :: L, v, a, ⟨c, h⟩ => ⟨a * c, (h.smul a).congr fun i => by grind⟩
theorem Span.axpy {L : List (Vec q)} {v w : Vec q} (a : Fin q) (h : Span L v) (k : Span L w) : Span L fun i => v i + a * w i := h.add (k.smul a)
theorem Span.sub {L : List (Vec q)} {v w : Vec q} (h : Span L v) (k : Span L w) : Span L fun i => v i - w i := (h.axpy (-1) k).congr fun i => by grind
theorem Span.tail {L : List (Vec q)} {r v : Vec q} (h : Span L v) : Span (r :: L) v := ⟨0, h.congr fun i => by grind⟩
theorem Span.mem : ∀ {L : List (Vec q)} {v : Vec q}, v ∈ L → Span L v
  | r :: L, v, h => by
    rcases List.mem_cons.mp h with e | h
    · subst e; exact ⟨1, Span.zero.congr fun i => by grind⟩
    · exact (Span.mem h).tail
/-- what rows in a space make is in it -/
theorem Span.le : ∀ {L M : List (Vec q)} {v : Vec q}, (∀ r ∈ L, Span M r) → Span L v → Span M v
  | [], M, v, _, h => Span.zero' h
  | r :: L, M, v, h, ⟨c, k⟩ => by
    have h1 := Span.le (fun x hx => h x (List.mem_cons_of_mem _ hx)) k
    exact (h1.axpy c (h r List.mem_cons_self)).congr fun i => by grind
theorem Span.mono {L M : List (Vec q)} {v : Vec q} (h : ∀ r ∈ L, r ∈ M) (k : Span L v) : Span M v := Span.le (fun r hr => Span.mem (h r hr)) k
theorem Span.ind {L : List (Vec q)} {p : Vec q → Prop} (h0 : p fun _ => 0) (ha : ∀ v w (a : Fin q), p v → p w → p fun i => v i + a * w i) (hm : ∀ r ∈ L, p r) : ∀ {v : Vec q}, Span L v → p v := by
  induction L with
  | nil => intro v h; rw [show v = fun _ => 0 from funext h]; exact h0
  | cons r L ih =>
    rintro v ⟨c, k⟩
    have h1 := ih (fun x hx => hm x (List.mem_cons_of_mem _ hx)) k
    have h2 := ha _ r c h1 (hm r List.mem_cons_self)
    rw [show v = fun i => v i - c * r i + c * r i from funext fun i => by grind]
    exact h2
/-- the same sums -/
def Same (L M : List (Vec q)) : Prop := ∀ v, Span L v ↔ Span M v
theorem Same.refl (L : List (Vec q)) : Same L L := fun _ => Iff.rfl
theorem Same.symm {L M : List (Vec q)} (h : Same L M) : Same M L := fun v => (h v).symm
theorem Same.trans {L M N : List (Vec q)} (h : Same L M) (k : Same M N) : Same L N := fun v => (h v).trans (k v)
theorem Same.of {L M : List (Vec q)} (h : ∀ r ∈ L, Span M r) (k : ∀ r ∈ M, Span L r) : Same L M := fun _ => ⟨Span.le h, Span.le k⟩
theorem Same.perm {L M : List (Vec q)} (h : L.Perm M) : Same L M := Same.of (fun r hr => Span.mem (h.mem_iff.mp hr)) (fun r hr => Span.mem (h.mem_iff.mpr hr))
theorem span_append {L M : List (Vec q)} {v : Vec q} : Span (L ++ M) v ↔ ∃ u w, Span L u ∧ Span M w ∧ ∀ i, v i = u i + w i := by
  constructor
  · intro h
    induction L generalizing v with
    | nil => exact ⟨fun _ => 0, v, fun _ => rfl, h, fun i => by grind⟩
    | cons r L ih =>
      obtain ⟨c, h⟩ := h
      obtain ⟨u, w, hu, hw, e⟩ := ih h
      exact ⟨fun i => u i + c * r i, w, ⟨c, hu.congr fun i => by grind⟩, hw, fun i => by have := e i; grind⟩
  · rintro ⟨u, w, hu, hw, e⟩
    exact ((Span.mono (fun r hr => List.mem_append_left _ hr) hu).add (Span.mono (fun r hr => List.mem_append_right _ hr) hw)).congr e
/-- beyond n places there is nothing -/
def Sup (n : Nat) (v : Vec q) : Prop := ∀ i, n ≤ i → v i = 0
theorem Sup.span {n : Nat} {L : List (Vec q)} (h : ∀ r ∈ L, Sup n r) {v : Vec q} (k : Span L v) : Sup n v :=
  Span.ind (p := Sup n) (fun _ _ => rfl) (fun v w a hv hw i hi => by show v i + a * w i = 0; rw [hv i hi, hw i hi]; grind) h k

/-! ### echelon systems: pairs of a head and a row -/
abbrev Sys (q : Nat) := List (Nat × Vec q)
def rows (P : Sys q) : List (Vec q) := P.map (·.2)
structure Ech (n : Nat) (P : Sys q) : Prop where
  sup : ∀ p ∈ P, Sup n p.2
  lt : ∀ p ∈ P, p.1 < n
  one : ∀ p ∈ P, p.2 p.1 = 1
  low : ∀ p ∈ P, ∀ i, i < p.1 → p.2 i = 0
  off : ∀ p ∈ P, ∀ p' ∈ P, p.1 ≠ p'.1 → p.2 p'.1 = 0
  nd : (P.map (·.1)).Nodup
theorem Ech.nil {n : Nat} : Ech n ([] : Sys q) := ⟨by simp, by simp, by simp, by simp, by simp, by simp⟩
theorem Ech.cons {n : Nat} {p : Nat × Vec q} {P : Sys q} (h : Ech n (p :: P)) : Ech n P :=
  ⟨fun x hx => h.sup x (.tail _ hx), fun x hx => h.lt x (.tail _ hx), fun x hx => h.one x (.tail _ hx), fun x hx => h.low x (.tail _ hx), fun x hx y hy => h.off x (.tail _ hx) y (.tail _ hy), (List.nodup_cons.mp h.nd).2⟩
theorem Ech.inj {n : Nat} {P : Sys q} (h : Ech n P) {p p' : Nat × Vec q} (hp : p ∈ P) (hp' : p' ∈ P) (e : p.1 = p'.1) : p = p' := by
  induction P with
  | nil => cases hp
  | cons x P ih =>
    have nd := List.nodup_cons.mp h.nd
    rcases List.mem_cons.mp hp with e1 | h1
    · rcases List.mem_cons.mp hp' with e2 | h2
      · rw [e1, e2]
      · exact absurd (List.mem_map.mpr ⟨p', h2, by rw [← e, e1]⟩) nd.1
    · rcases List.mem_cons.mp hp' with e2 | h2
      · exact absurd (List.mem_map.mpr ⟨p, h1, by rw [e, e2]⟩) nd.1
      · exact ih h.cons h1 h2
theorem Ech.perm {n : Nat} {P Q : Sys q} (h : Ech n P) (k : P.Perm Q) : Ech n Q :=
  ⟨fun x hx => h.sup x (k.mem_iff.mpr hx), fun x hx => h.lt x (k.mem_iff.mpr hx), fun x hx => h.one x (k.mem_iff.mpr hx), fun x hx => h.low x (k.mem_iff.mpr hx), fun x hx y hy => h.off x (k.mem_iff.mpr hx) y (k.mem_iff.mpr hy), (k.map _).nodup_iff.mp h.nd⟩
/-- the multiples are the marks at the heads -/
theorem Ech.span_at {n : Nat} {P : Sys q} (h : Ech n P) {v : Vec q} (k : Span (rows P) v) (z : ∀ p ∈ P, v p.1 = 0) : ∀ i, v i = 0 := by
  induction P generalizing v with
  | nil => exact k
  | cons p P ih =>
    obtain ⟨c, k⟩ := k
    have nd := List.nodup_cons.mp h.nd
    have e1 : Span (rows P) fun i => v i - c * p.2 i := k
    have z0 : ∀ w, Span (rows P) w → w p.1 = 0 := fun w hw => Span.ind (p := fun w => w p.1 = 0) rfl (fun v w a hv hw => by show v p.1 + a * w p.1 = 0; rw [hv, hw]; grind) (fun r hr => by
      obtain ⟨p', hp', rfl⟩ := List.mem_map.mp hr
      exact h.off p' (.tail _ hp') p (.head _) fun e => nd.1 (List.mem_map.mpr ⟨p', hp', e⟩)) hw
    have e2 := z0 _ e1
    have e3 := z p (.head _)
    have e4 := h.one p (.head _)
    have ec : c = 0 := by
      rw [e3, e4] at e2; grind
    subst ec
    exact ih h.cons (e1.congr fun i => by grind) fun p' hp' => z p' (.tail _ hp')
/-- a row less its multiples -/
def red (P : Sys q) (v : Vec q) : Vec q := P.foldl (fun v p i => v i + -v p.1 * p.2 i) v
theorem red_cons {P : Sys q} {p : Nat × Vec q} {v : Vec q} : red (p :: P) v = red P fun i => v i + -v p.1 * p.2 i := rfl
theorem red_span : ∀ {P : Sys q} {v : Vec q}, Span (rows P) fun i => v i - red P v i
  | [], v => fun i => by show v i - v i = 0; grind
  | p :: P, v => by
    have h := red_span (P := P) (v := fun i => v i + -v p.1 * p.2 i)
    exact ⟨v p.1, h.congr fun i => by rw [red_cons]; grind⟩
theorem red_zero {n : Nat} : ∀ {P : Sys q} {v : Vec q}, Ech n P → ∀ {h : Nat}, (∀ p ∈ P, p.2 h = 0) → red P v h = v h
  | [], _, _, _, _ => rfl
  | p :: P, v, e, h, z => by
    rw [red_cons, red_zero e.cons fun x hx => z x (.tail _ hx), z p (.head _)]
    grind
theorem red_head {n : Nat} : ∀ {P : Sys q} {v : Vec q}, Ech n P → ∀ p ∈ P, red P v p.1 = 0
  | p :: P, v, e, x, hx => by
    rw [red_cons]
    have nd := List.nodup_cons.mp e.nd
    rcases List.mem_cons.mp hx with rfl | hx
    · rw [red_zero e.cons fun p' hp' => e.off p' (.tail _ hp') x (.head _) fun h => nd.1 (List.mem_map.mpr ⟨p', hp', h⟩)]
      have := e.one x (.head _)
      grind
    · exact red_head e.cons x hx
theorem red_sup {n : Nat} : ∀ {P : Sys q} {v : Vec q}, (∀ p ∈ P, Sup n p.2) → Sup n v → Sup n (red P v)
  | [], _, _, h => h
  | p :: P, v, e, h => by
    rw [red_cons]
    exact red_sup (fun x hx => e x (.tail _ hx)) fun i hi => by show v i + -v p.1 * p.2 i = 0; rw [h i hi, e p (.head _) i hi]; grind
theorem Ech.span_iff {n : Nat} {P : Sys q} (e : Ech n P) {v : Vec q} : Span (rows P) v ↔ ∀ i, red P v i = 0 := by
  constructor
  · intro h
    have h1 : Span (rows P) (red P v) := (h.sub (red_span (P := P) (v := v))).congr fun i => by grind
    exact e.span_at h1 fun p hp => red_head e p hp
  · intro h
    exact (red_span (P := P) (v := v)).congr fun i => by rw [h i]; grind
/-- a place where some row of the space begins -/
def Lead (S : Vec q → Prop) (h : Nat) : Prop := ∃ v, S v ∧ v h ≠ 0 ∧ ∀ i, i < h → v i = 0
theorem span_ne : ∀ {P : Sys q} {v : Vec q} {h : Nat}, v h ≠ red P v h → ∃ p ∈ P, p.2 h ≠ 0
  | [], v, h, e => absurd rfl e
  | p :: P, v, h, e => by
    by_cases z : p.2 h = 0
    · rw [red_cons] at e
      have : (fun i => v i + -v p.1 * p.2 i) h ≠ red P (fun i => v i + -v p.1 * p.2 i) h := by
        intro h2
        rw [← h2] at e
        exact e (by show v h = v h + -v p.1 * p.2 h; rw [z]; grind)
      obtain ⟨x, hx, hz⟩ := span_ne (P := P) (v := fun i => v i + -v p.1 * p.2 i) (h := h) this
      exact ⟨x, .tail _ hx, hz⟩
    · exact ⟨p, .head _, z⟩
theorem Ech.lead_iff {n : Nat} {P : Sys q} (e : Ech n P) {h : Nat} : Lead (Span (rows P)) h ↔ ∃ p ∈ P, p.1 = h := by
  constructor
  · rintro ⟨v, hv, hne, hlow⟩
    -- only rows whose head is not below h have a part in v
    have key : ∀ (Q : Sys q) (w : Vec q), (∀ p ∈ Q, p ∈ P) → (∀ p ∈ Q, w p.1 = v p.1) → (Q.map (·.1)).Nodup → (∀ i, i ≤ h → (∀ p ∈ Q, p.1 ≠ h) → red Q w i = w i) := by
      intro Q
      induction Q with
      | nil => intro w _ _ _ i _ _; rfl
      | cons p Q ih =>
        intro w hQ hw nd i hi hh
        rw [red_cons]
        have nd := List.nodup_cons.mp nd
        have hp := hQ p (.head _)
        have ew : ∀ x ∈ Q, (fun i => w i + -w p.1 * p.2 i) x.1 = v x.1 := fun x hx => by
          show w x.1 + -w p.1 * p.2 x.1 = v x.1
          rw [e.off p hp x (hQ x (.tail _ hx)) (fun h2 => nd.1 (List.mem_map.mpr ⟨x, hx, h2.symm⟩)), hw x (.tail _ hx)]
          grind
        rw [ih _ (fun x hx => hQ x (.tail _ hx)) ew nd.2 i hi fun x hx => hh x (.tail _ hx)]
        show w i + -w p.1 * p.2 i = w i
        have hne2 := hh p (.head _)
        by_cases hlt : p.1 < h
        · rw [hw p (.head _), hlow p.1 hlt]; grind
        · rw [e.low p hp i (by omega)]; grind
    by_cases c : ∃ p ∈ P, p.1 = h
    · exact c
    · have c' : ∀ p ∈ P, p.1 ≠ h := fun p hp h2 => c ⟨p, hp, h2⟩
      have h1 := key P v (fun _ h => h) (fun _ _ => rfl) e.nd h (Nat.le_refl _) c'
      exact absurd (h1.symm.trans (e.span_iff.mp hv h)) hne
  · rintro ⟨p, hp, rfl⟩
    exact ⟨p.2, Span.mem (List.mem_map.mpr ⟨p, hp, rfl⟩), by rw [e.one p hp]; exact one_ne, e.low p hp⟩
/-- heads of a lesser space are heads of the greater one -/
theorem Ech.sub_heads {n m : Nat} {P Q : Sys q} (e : Ech n P) (f : Ech m Q) (h : ∀ v, Span (rows P) v → Span (rows Q) v) : ∀ p ∈ P, ∃ p' ∈ Q, p'.1 = p.1 := fun p hp => by
  have h1 := e.lead_iff.mpr ⟨p, hp, rfl⟩
  obtain ⟨v, a, b, c⟩ := h1
  exact f.lead_iff.mp ⟨v, h v a, b, c⟩
theorem nodup_sub_len : ∀ {l m : List Nat}, l.Nodup → (∀ x ∈ l, x ∈ m) → l.length ≤ m.length
  | [], _, _, _ => Nat.zero_le _
  | x :: l, m, nd, h => by
    have nd := List.nodup_cons.mp nd
    have hx := h x (.head _)
    have h1 : l.length ≤ (m.erase x).length := nodup_sub_len nd.2 fun y hy => (List.mem_erase_of_ne (fun e => nd.1 (by rw [← e]; exact hy))).mpr (h y (.tail _ hy))
    rw [List.length_erase_of_mem hx] at h1
    have := List.length_pos_of_mem hx
    simp only [List.length_cons]
    omega
theorem Ech.len_le {n m : Nat} {P Q : Sys q} (e : Ech n P) (f : Ech m Q) (h : ∀ v, Span (rows P) v → Span (rows Q) v) : P.length ≤ Q.length := by
  have := nodup_sub_len (l := P.map (·.1)) (m := Q.map (·.1)) e.nd fun x hx => by
    obtain ⟨p, hp, rfl⟩ := List.mem_map.mp hx
    obtain ⟨p', hp', e'⟩ := e.sub_heads f h p hp
    exact List.mem_map.mpr ⟨p', hp', e'⟩
  simpa using this
theorem nodup_sub_eq : ∀ {l m : List Nat}, l.Nodup → m.Nodup → (∀ x ∈ l, x ∈ m) → l.length = m.length → ∀ x ∈ m, x ∈ l
  | [], m, _, _, _, hl, x, hx => by
    have : m = [] := List.length_eq_zero_iff.mp hl.symm
    rw [this] at hx; cases hx
  | y :: l, m, nl, nm, h, hl, x, hx => by
    have nl := List.nodup_cons.mp nl
    have hy := h y (.head _)
    by_cases e : x = y
    · rw [e]; exact .head _
    · have h1 := nodup_sub_eq nl.2 (nm.erase y) (fun z hz => (List.mem_erase_of_ne (fun e => nl.1 (by rw [← e]; exact hz))).mpr (h z (.tail _ hz)))
        (by rw [List.length_erase_of_mem hy]; simp only [List.length_cons] at hl; omega) x ((List.mem_erase_of_ne e).mpr hx)
      exact .tail _ h1
/-- a lesser space of the same number is the same, and the systems have the same pairs -/
theorem Ech.same_mem {n m : Nat} {P Q : Sys q} (e : Ech n P) (f : Ech m Q) (h : ∀ v, Span (rows P) v → Span (rows Q) v) (hl : Q.length ≤ P.length) : ∀ p, p ∈ P ↔ p ∈ Q := by
  have hle := e.len_le f h
  have hh : ∀ x ∈ Q.map (·.1), x ∈ P.map (·.1) := nodup_sub_eq (l := P.map (·.1)) (m := Q.map (·.1)) e.nd f.nd (fun x hx => by
    obtain ⟨p, hp, rfl⟩ := List.mem_map.mp hx
    obtain ⟨p', hp', e'⟩ := e.sub_heads f h p hp
    exact List.mem_map.mpr ⟨p', hp', e'⟩) (by simp; omega)
  have key : ∀ p ∈ P, ∀ p' ∈ Q, p'.1 = p.1 → p = p' := by
    intro p hp p' hp' e1
    have h1 : Span (rows Q) fun i => p.2 i - p'.2 i := (h _ (Span.mem (List.mem_map.mpr ⟨p, hp, rfl⟩))).sub (Span.mem (List.mem_map.mpr ⟨p', hp', rfl⟩))
    have h2 := f.span_at h1 fun x hx => by
      show p.2 x.1 - p'.2 x.1 = 0
      by_cases c : x.1 = p.1
      · rw [c, e.one p hp, ← e1, f.one p' hp']; grind
      · obtain ⟨y, hy, ey⟩ := List.mem_map.mp (hh x.1 (List.mem_map.mpr ⟨x, hx, rfl⟩))
        rw [← ey, e.off p hp y hy (by omega), ey, f.off p' hp' x hx (by omega)]; grind
    exact Prod.ext e1.symm (funext fun i => by have := h2 i; grind)
  intro p
  constructor
  · intro hp
    obtain ⟨p', hp', e'⟩ := e.sub_heads f h p hp
    rw [key p hp p' hp' e']; exact hp'
  · intro hp
    obtain ⟨y, hy, ey⟩ := List.mem_map.mp (hh p.1 (List.mem_map.mpr ⟨p, hp, rfl⟩))
    rw [← key y hy p hp ey.symm]; exact hy
theorem sorted_ext {α : Type} {lt : α → α → Prop} (ir : ∀ a, ¬ lt a a) (as : ∀ a b, lt a b → lt b a → False) : ∀ {l m : List α}, l.Pairwise lt → m.Pairwise lt → (∀ x, x ∈ l ↔ x ∈ m) → l = m
  | [], [], _, _, _ => rfl
  | [], y :: m, _, _, h => absurd ((h y).mpr (.head _)) (by simp)
  | x :: l, [], _, _, h => absurd ((h x).mp (.head _)) (by simp)
  | x :: l, y :: m, pl, pm, h => by
    have pl := List.pairwise_cons.mp pl
    have pm := List.pairwise_cons.mp pm
    have exy : x = y := by
      rcases List.mem_cons.mp ((h x).mp (.head _)) with e | hx
      · exact e
      · rcases List.mem_cons.mp ((h y).mpr (.head _)) with e | hy
        · exact e.symm
        · exact (as _ _ (pl.1 y hy) (pm.1 x hx)).elim
    subst exy
    rw [sorted_ext ir as pl.2 pm.2 fun z => ⟨fun hz => (List.mem_cons.mp ((h z).mp (.tail _ hz))).resolve_left fun e => ir x (by rw [e] at hz; exact pl.1 x hz), fun hz => (List.mem_cons.mp ((h z).mpr (.tail _ hz))).resolve_left fun e => ir x (by rw [e] at hz; exact pm.1 x hz)⟩]
/-- heads ascending -/
def Asc (P : Sys q) : Prop := P.Pairwise fun a b => a.1 < b.1
/-- the plain tuple of a space is one alone -/
theorem Ech.uniq {n m : Nat} {P Q : Sys q} (e : Ech n P) (f : Ech m Q) (a : Asc P) (b : Asc Q) (h : Same (rows P) (rows Q)) : P = Q := by
  have h1 := e.len_le f fun v => (h v).mp
  have h2 := f.len_le e fun v => (h v).mpr
  exact sorted_ext (lt := fun a b : Nat × Vec q => a.1 < b.1) (fun a => Nat.lt_irrefl _) (fun a b h k => by omega) a b (e.same_mem f (fun v => (h v).mp) h2)
theorem Ech.len_eq {n m : Nat} {P Q : Sys q} (e : Ech n P) (f : Ech m Q) (h : Same (rows P) (rows Q)) : P.length = Q.length :=
  Nat.le_antisymm (e.len_le f fun v => (h v).mp) (f.len_le e fun v => (h v).mpr)
/-- a lesser space with as many rows is the same one -/
theorem Ech.same_of_len {n m : Nat} {P Q : Sys q} (e : Ech n P) (f : Ech m Q) (h : ∀ v, Span (rows P) v → Span (rows Q) v) (hl : Q.length ≤ P.length) : Same (rows P) (rows Q) := by
  have := e.same_mem f h hl
  refine Same.of (fun r hr => ?_) (fun r hr => ?_)
  · obtain ⟨p, hp, rfl⟩ := List.mem_map.mp hr
    exact Span.mem (List.mem_map.mpr ⟨p, (this p).mp hp, rfl⟩)
  · obtain ⟨p, hp, rfl⟩ := List.mem_map.mp hr
    exact Span.mem (List.mem_map.mpr ⟨p, (this p).mpr hp, rfl⟩)
end LA

/-! one row more, the plain tuple of some rows, free rows, ranks -/
namespace LA
variable {q : Nat} [Pr q]
/-- the first place below n with a mark other than 0 -/
def first (n : Nat) (v : Vec q) : Option Nat := (List.range n).find? fun i => decide (v i ≠ 0)
theorem first_none {n : Nat} {v : Vec q} (h : first n v = none) : ∀ i, i < n → v i = 0 := fun i hi => by
  have := List.find?_eq_none.mp h i (List.mem_range.mpr hi)
  simpa using this
theorem find_range {p : Nat → Bool} : ∀ {n h : Nat}, (List.range n).find? p = some h → h < n ∧ p h = true ∧ ∀ i, i < h → p i = false := by
  intro n h e
  rw [List.find?_range_eq_some] at e
  obtain ⟨a, b, c⟩ := e
  exact ⟨List.mem_range.mp b, a, fun i hi => by simpa using c i hi⟩
theorem first_some {n h : Nat} {v : Vec q} (e : first n v = some h) : h < n ∧ v h ≠ 0 ∧ ∀ i, i < h → v i = 0 := by
  obtain ⟨a, b, c⟩ := find_range e
  exact ⟨a, by simpa using b, fun i hi => by simpa using c i hi⟩
/-- one row more -/
noncomputable def addRow (n : Nat) (P : Sys q) (v : Vec q) : Sys q :=
  match first n (red P v) with
  | none => P
  | some h => (P.map fun p => (p.1, fun i => p.2 i + -p.2 h * (inv (red P v h) * red P v i))) ++ [(h, fun i => inv (red P v h) * red P v i)]
theorem addRow_none {n : Nat} {P : Sys q} {v : Vec q} (h : first n (red P v) = none) : addRow n P v = P := by
  unfold addRow; rw [h]
theorem addRow_some {n h : Nat} {P : Sys q} {v : Vec q} (e : first n (red P v) = some h) : addRow n P v = (P.map fun p => (p.1, fun i => p.2 i + -p.2 h * (inv (red P v h) * red P v i))) ++ [(h, fun i => inv (red P v h) * red P v i)] := by
  unfold addRow; rw [e]
theorem first_free {n h : Nat} {P : Sys q} {v : Vec q} (e : Ech n P) (k : first n (red P v) = some h) : ∀ p ∈ P, p.1 ≠ h := fun p hp he => by
  have := red_head (v := v) e p hp
  rw [he] at this
  exact (first_some k).2.1 this
theorem addRow_ech {n : Nat} {P : Sys q} {v : Vec q} (e : Ech n P) (hv : Sup n v) : Ech n (addRow n P v) := by
  cases hf : first n (red P v) with
  | none => rw [addRow_none hf]; exact e
  | some h =>
    rw [addRow_some hf]
    obtain ⟨h1, h2, h3⟩ := first_some hf
    have hnew := first_free e hf
    have hs := red_sup (v := v) e.sup hv
    have one' : inv (red P v h) * red P v h = 1 := inv_mul h2
    generalize hr : red P v = r at *
    refine ⟨?_, ?_, ?_, ?_, ?_, ?_⟩
    · intro p hp i hi
      rcases List.mem_append.mp hp with hp | hp
      · obtain ⟨x, hx, rfl⟩ := List.mem_map.mp hp
        show x.2 i + -x.2 h * (inv (r h) * r i) = 0
        rw [e.sup x hx i hi, hs i hi]; grind
      · rw [List.mem_singleton.mp hp]
        show inv (r h) * r i = 0
        rw [hs i hi]; grind
    · intro p hp
      rcases List.mem_append.mp hp with hp | hp
      · obtain ⟨x, hx, rfl⟩ := List.mem_map.mp hp
        exact e.lt x hx
      · rw [List.mem_singleton.mp hp]; exact h1
    · intro p hp
      rcases List.mem_append.mp hp with hp | hp
      · obtain ⟨x, hx, rfl⟩ := List.mem_map.mp hp
        show x.2 x.1 + -x.2 h * (inv (r h) * r x.1) = 1
        have : r x.1 = 0 := by rw [← hr]; exact red_head e x hx
        rw [e.one x hx, this]; grind
      · rw [List.mem_singleton.mp hp]; exact one'
    · intro p hp i hi
      rcases List.mem_append.mp hp with hp | hp
      · obtain ⟨x, hx, rfl⟩ := List.mem_map.mp hp
        show x.2 i + -x.2 h * (inv (r h) * r i) = 0
        have hi : i < x.1 := hi
        rw [e.low x hx i hi]
        by_cases c : i < h
        · rw [h3 i c]; grind
        · rw [e.low x hx h (by omega)]; grind
      · rw [List.mem_singleton.mp hp] at hi ⊢
        show inv (r h) * r i = 0
        rw [h3 i hi]; grind
    · intro p hp p' hp' hne
      rcases List.mem_append.mp hp with hp | hp
      · obtain ⟨x, hx, rfl⟩ := List.mem_map.mp hp
        rcases List.mem_append.mp hp' with hp' | hp'
        · obtain ⟨x', hx', rfl⟩ := List.mem_map.mp hp'
          show x.2 x'.1 + -x.2 h * (inv (r h) * r x'.1) = 0
          have : r x'.1 = 0 := by rw [← hr]; exact red_head e x' hx'
          rw [e.off x hx x' hx' hne, this]; grind
        · rw [List.mem_singleton.mp hp']
          show x.2 h + -x.2 h * (inv (r h) * r h) = 0
          rw [one']; grind
      · rw [List.mem_singleton.mp hp] at hne ⊢
        rcases List.mem_append.mp hp' with hp' | hp'
        · obtain ⟨x', hx', rfl⟩ := List.mem_map.mp hp'
          show inv (r h) * r x'.1 = 0
          have : r x'.1 = 0 := by rw [← hr]; exact red_head e x' hx'
          rw [this]; grind
        · rw [List.mem_singleton.mp hp'] at hne
          exact absurd rfl hne
    · rw [List.map_append, List.map_map]
      refine List.nodup_append.mpr ⟨e.nd, by simp, fun a ha b hb => ?_⟩
      obtain ⟨p, hp, rfl⟩ := List.mem_map.mp ha
      rw [show b = h by simpa using hb]
      exact hnew p hp
theorem addRow_same {n : Nat} {P : Sys q} {v : Vec q} (e : Ech n P) (hv : Sup n v) : Same (rows (addRow n P v)) (v :: rows P) := by
  have hred := red_span (P := P) (v := v)
  cases hf : first n (red P v) with
  | none =>
    rw [addRow_none hf]
    have h0 := first_none hf
    have hs := red_sup (v := v) e.sup hv
    have : Span (rows P) v := e.span_iff.mpr fun i => by
      by_cases c : i < n
      · exact h0 i c
      · exact hs i (by omega)
    refine Same.of (fun r hr => (Span.mem hr).tail) (fun r hr => ?_)
    rcases List.mem_cons.mp hr with rfl | hr
    · exact this
    · exact Span.mem hr
  | some h =>
    rw [addRow_some hf]
    obtain ⟨h1, h2, h3⟩ := first_some hf
    have im := inv_mul h2
    generalize hr : red P v = r at *
    have hin : Span (v :: rows P) r := ((Span.mem (.head _)).sub hred.tail).congr fun i => by grind
    have hin' : Span (v :: rows P) fun i => inv (r h) * r i := hin.smul _
    refine Same.of (fun x hx => ?_) (fun x hx => ?_)
    · unfold rows at hx
      rw [List.map_append, List.map_map] at hx
      rcases List.mem_append.mp hx with hx | hx
      · obtain ⟨p, hp, rfl⟩ := List.mem_map.mp hx
        exact (Span.mem (List.mem_map.mpr ⟨p, hp, rfl⟩)).tail.axpy _ hin'
      · have ex : x = fun i => inv (r h) * r i := by simpa using hx
        rw [ex]; exact hin'
    · have hnew : Span (rows ((P.map fun p => (p.1, fun i => p.2 i + -p.2 h * (inv (r h) * r i))) ++ [(h, fun i => inv (r h) * r i)])) fun i => inv (r h) * r i :=
        Span.mem (List.mem_map.mpr ⟨(h, fun i => inv (r h) * r i), by simp, rfl⟩)
      have hold : ∀ p ∈ P, Span (rows ((P.map fun p => (p.1, fun i => p.2 i + -p.2 h * (inv (r h) * r i))) ++ [(h, fun i => inv (r h) * r i)])) p.2 := fun p hp => by
        have h1 : Span (rows ((P.map fun p => (p.1, fun i => p.2 i + -p.2 h * (inv (r h) * r i))) ++ [(h, fun i => inv (r h) * r i)])) fun i => p.2 i + -p.2 h * (inv (r h) * r i) :=
          Span.mem (List.mem_map.mpr ⟨(p.1, fun i => p.2 i + -p.2 h * (inv (r h) * r i)), List.mem_append_left _ (List.mem_map.mpr ⟨p, hp, rfl⟩), rfl⟩)
        exact (h1.axpy (p.2 h) hnew).congr fun i => by grind
      rcases List.mem_cons.mp hx with rfl | hx
      · have hr' := hnew.smul (r h)
        have hP := Span.le (fun y hy => by
          obtain ⟨p, hp, rfl⟩ := List.mem_map.mp hy
          exact hold p hp) hred
        exact (hr'.add hP).congr fun i => by grind
      · obtain ⟨p, hp, rfl⟩ := List.mem_map.mp hx
        exact hold p hp
theorem addRow_len {n : Nat} {P : Sys q} {v : Vec q} (e : Ech n P) (hv : Sup n v) : (Span (rows P) v ∧ (addRow n P v).length = P.length) ∨ (¬ Span (rows P) v ∧ (addRow n P v).length = P.length + 1) := by
  cases hf : first n (red P v) with
  | none =>
    left
    rw [addRow_none hf]
    have h0 := first_none hf
    have hs := red_sup (v := v) e.sup hv
    exact ⟨e.span_iff.mpr fun i => by
      by_cases c : i < n
      · exact h0 i c
      · exact hs i (by omega), rfl⟩
  | some h =>
    right
    rw [addRow_some hf]
    exact ⟨fun k => (first_some hf).2.1 (e.span_iff.mp k h), by simp⟩

/-! ### the system of some rows -/
noncomputable def plainP (n : Nat) (L : List (Vec q)) : Sys q := L.foldl (addRow n) []
def Sups (n : Nat) (L : List (Vec q)) : Prop := ∀ r ∈ L, Sup n r
theorem Sups.cons {n : Nat} {r : Vec q} {L : List (Vec q)} : Sups n (r :: L) ↔ Sup n r ∧ Sups n L := ⟨fun h => ⟨h r (.head _), fun x hx => h x (.tail _ hx)⟩, fun h x hx => by
  rcases List.mem_cons.mp hx with rfl | hx
  · exact h.1
  · exact h.2 x hx⟩
theorem Sups.append {n : Nat} {L M : List (Vec q)} (h : Sups n L) (k : Sups n M) : Sups n (L ++ M) := fun r hr => (List.mem_append.mp hr).elim (h r) (k r)
theorem Ech.sups {n : Nat} {P : Sys q} (e : Ech n P) : Sups n (rows P) := fun r hr => by
  obtain ⟨p, hp, rfl⟩ := List.mem_map.mp hr
  exact e.sup p hp
theorem fold_ech {n : Nat} : ∀ {L : List (Vec q)} {P : Sys q}, Ech n P → Sups n L → Ech n (L.foldl (addRow n) P) ∧ Same (rows (L.foldl (addRow n) P)) (L ++ rows P)
  | [], P, e, _ => ⟨e, Same.refl _⟩
  | v :: L, P, e, h => by
    obtain ⟨h1, h2⟩ := Sups.cons.mp h
    obtain ⟨a, b⟩ := fold_ech (L := L) (addRow_ech e h1) h2
    refine ⟨a, b.trans (Same.of (fun r hr => ?_) fun r hr => ?_)⟩
    · rcases List.mem_append.mp hr with hr | hr
      · exact Span.mem (by simp [hr])
      · exact Span.mono (fun x hx => by
          rcases List.mem_cons.mp hx with rfl | hx
          · simp
          · simp [hx]) ((addRow_same e h1 r).mp (Span.mem hr))
    · have key : ∀ x, Span (v :: rows P) x → Span (L ++ rows (addRow n P v)) x := fun x hx => Span.mono (fun y hy => List.mem_append_right _ hy) ((addRow_same e h1 x).mpr hx)
      rcases List.mem_cons.mp hr with rfl | hr
      · exact key _ (Span.mem (.head _))
      · rcases List.mem_append.mp hr with hr | hr
        · exact Span.mem (List.mem_append_left _ hr)
        · exact key _ (Span.mem (.tail _ hr))
theorem plainP_ech {n : Nat} {L : List (Vec q)} (h : Sups n L) : Ech n (plainP n L) := (fold_ech Ech.nil h).1
theorem plainP_same {n : Nat} {L : List (Vec q)} (h : Sups n L) : Same (rows (plainP n L)) L := by
  have := (fold_ech (P := []) Ech.nil h).2
  rwa [show rows ([] : Sys q) = [] from rfl, List.append_nil] at this
/-! sorted by heads -/
def insP (p : Nat × Vec q) : Sys q → Sys q
  | [] => [p]
  | x :: P => if p.1 ≤ x.1 then p :: x :: P else x :: insP p P
def sortP : Sys q → Sys q
  | [] => []
  | p :: P => insP p (sortP P)
theorem insP_perm (p : Nat × Vec q) : ∀ P : Sys q, (insP p P).Perm (p :: P)
  | [] => .refl _
  | x :: P => by
    unfold insP
    split
    · exact .refl _
    · exact ((insP_perm p P).cons x).trans (.swap _ _ _)
theorem sortP_perm : ∀ P : Sys q, (sortP P).Perm P
  | [] => .refl _
  | p :: P => (insP_perm p _).trans ((sortP_perm P).cons p)
theorem insP_asc {p : Nat × Vec q} : ∀ {P : Sys q}, Asc P → (∀ x ∈ P, x.1 ≠ p.1) → Asc (insP p P)
  | [], _, _ => List.pairwise_singleton _ _
  | x :: P, h, hn => by
    have h' := List.pairwise_cons.mp h
    unfold insP
    split
    · rename_i hle
      have := hn x (.head _)
      exact List.pairwise_cons.mpr ⟨fun y hy => by
        rcases List.mem_cons.mp hy with rfl | hy
        · omega
        · have := h'.1 y hy; omega, h⟩
    · rename_i hle
      refine List.pairwise_cons.mpr ⟨fun y hy => ?_, insP_asc h'.2 fun z hz => hn z (.tail _ hz)⟩
      rcases List.mem_cons.mp ((insP_perm p P).mem_iff.mp hy) with rfl | hy
      · omega
      · exact h'.1 y hy
theorem sortP_asc : ∀ {P : Sys q}, (P.map (·.1)).Nodup → Asc (sortP P)
  | [], _ => .nil
  | p :: P, h => by
    have h := List.nodup_cons.mp h
    exact insP_asc (sortP_asc h.2) fun x hx e => h.1 (List.mem_map.mpr ⟨x, (sortP_perm P).mem_iff.mp hx, e⟩)
/-- the plain system of some rows -/
noncomputable def plS (n : Nat) (L : List (Vec q)) : Sys q := sortP (plainP n L)
noncomputable def pl (n : Nat) (L : List (Vec q)) : List (Vec q) := rows (plS n L)
theorem plS_ech {n : Nat} {L : List (Vec q)} (h : Sups n L) : Ech n (plS n L) := (plainP_ech h).perm (sortP_perm _).symm
theorem plS_asc {n : Nat} {L : List (Vec q)} (h : Sups n L) : Asc (plS n L) := sortP_asc (plainP_ech h).nd
theorem pl_same {n : Nat} {L : List (Vec q)} (h : Sups n L) : Same (pl n L) L := (Same.perm (L := rows (sortP (plainP n L))) (M := rows (plainP n L)) ((sortP_perm (plainP n L)).map _)).trans (plainP_same h)
theorem pl_sups {n : Nat} {L : List (Vec q)} (h : Sups n L) : Sups n (pl n L) := (plS_ech h).sups
/-- a plain tuple -/
def Plain (n : Nat) (L : List (Vec q)) : Prop := ∃ P, Ech n P ∧ Asc P ∧ rows P = L
theorem pl_plain {n : Nat} {L : List (Vec q)} (h : Sups n L) : Plain n (pl n L) := ⟨plS n L, plS_ech h, plS_asc h, rfl⟩
theorem Plain.sups {n : Nat} {L : List (Vec q)} (h : Plain n L) : Sups n L := by
  obtain ⟨P, e, _, rfl⟩ := h
  exact e.sups
theorem Plain.uniq {n m : Nat} {L M : List (Vec q)} (h : Plain n L) (k : Plain m M) (s : Same L M) : L = M := by
  obtain ⟨P, e, a, rfl⟩ := h
  obtain ⟨Q, f, b, rfl⟩ := k
  rw [e.uniq f a b s]
theorem Plain.pl {n : Nat} {L : List (Vec q)} (h : Plain n L) : pl n L = L := (pl_plain h.sups).uniq h (pl_same h.sups)
theorem plain_iff {n : Nat} {L : List (Vec q)} (h : Sups n L) : Plain n L ↔ pl n L = L := ⟨Plain.pl, fun e => by rw [← e]; exact pl_plain h⟩
theorem pl_eq {n : Nat} {L M : List (Vec q)} (h : Sups n L) (k : Sups n M) (s : Same L M) : pl n L = pl n M := (pl_plain h).uniq (pl_plain k) ((pl_same h).trans (s.trans (pl_same k).symm))
theorem Plain.eq_pl {n : Nat} {L M : List (Vec q)} (h : Plain n L) (k : Sups n M) (s : Same L M) : L = LA.pl n M := h.uniq (pl_plain k) (s.trans (pl_same k).symm)
theorem Plain.nil {n : Nat} : Plain n ([] : List (Vec q)) := ⟨[], Ech.nil, .nil, rfl⟩

/-! ### free rows, ranks -/
noncomputable def rank (n : Nat) (L : List (Vec q)) : Nat := (plainP n L).length
theorem pl_len {n : Nat} {L : List (Vec q)} : (pl n L).length = rank n L := by
  unfold pl rank rows plS
  rw [List.length_map, (sortP_perm _).length_eq]
theorem rank_same {n m : Nat} {L M : List (Vec q)} (h : Sups n L) (k : Sups m M) (s : Same L M) : rank n L = rank m M :=
  (plainP_ech h).len_eq (plainP_ech k) ((plainP_same h).trans (s.trans (plainP_same k).symm))
theorem rank_le {n m : Nat} {L M : List (Vec q)} (h : Sups n L) (k : Sups m M) (s : ∀ v, Span L v → Span M v) : rank n L ≤ rank m M :=
  (plainP_ech h).len_le (plainP_ech k) fun v hv => (plainP_same k v).mpr (s v ((plainP_same h v).mp hv))
theorem same_of_rank {n m : Nat} {L M : List (Vec q)} (h : Sups n L) (k : Sups m M) (s : ∀ v, Span L v → Span M v) (hl : rank m M ≤ rank n L) : Same L M :=
  (plainP_same h).symm.trans (((plainP_ech h).same_of_len (plainP_ech k) (fun v hv => (plainP_same k v).mpr (s v ((plainP_same h v).mp hv))) hl).trans (plainP_same k))
theorem rank_perm {n : Nat} {L M : List (Vec q)} (h : Sups n L) (p : L.Perm M) : rank n L = rank n M := rank_same h (fun r hr => h r (p.mem_iff.mpr hr)) (Same.perm p)
theorem same_cons {v : Vec q} {L M : List (Vec q)} (h : Same L M) : Same (v :: L) (v :: M) := fun x => ⟨fun ⟨c, k⟩ => ⟨c, (h _).mp k⟩, fun ⟨c, k⟩ => ⟨c, (h _).mpr k⟩⟩
theorem rank_cons {n : Nat} {v : Vec q} {L : List (Vec q)} (hv : Sup n v) (h : Sups n L) : (Span L v ∧ rank n (v :: L) = rank n L) ∨ (¬ Span L v ∧ rank n (v :: L) = rank n L + 1) := by
  have e := plainP_ech h
  have s := plainP_same h
  have e1 : rank n (v :: L) = (addRow n (plainP n L) v).length := (plainP_ech (Sups.cons.mpr ⟨hv, h⟩)).len_eq (addRow_ech e hv) ((plainP_same (Sups.cons.mpr ⟨hv, h⟩)).trans ((addRow_same e hv).trans (same_cons s)).symm)
  rw [e1]
  rcases addRow_len e hv with ⟨a, b⟩ | ⟨a, b⟩
  · exact .inl ⟨(s v).mp a, b⟩
  · exact .inr ⟨fun k => a ((s v).mpr k), b⟩
theorem rank_nil {n : Nat} : rank n ([] : List (Vec q)) = 0 := rfl
theorem rank_len {n : Nat} : ∀ {L : List (Vec q)}, Sups n L → rank n L ≤ L.length
  | [], _ => Nat.le_refl _
  | v :: L, h => by
    obtain ⟨h1, h2⟩ := Sups.cons.mp h
    have := rank_len h2
    rcases rank_cons h1 h2 with ⟨_, b⟩ | ⟨_, b⟩ <;> simp only [List.length_cons] <;> omega
/-- no row is a sum of multiples of those behind it -/
def Free : List (Vec q) → Prop
  | [] => True
  | v :: L => ¬ Span L v ∧ Free L
theorem free_iff {n : Nat} : ∀ {L : List (Vec q)}, Sups n L → (Free L ↔ rank n L = L.length)
  | [], _ => ⟨fun _ => rfl, fun _ => trivial⟩
  | v :: L, h => by
    obtain ⟨h1, h2⟩ := Sups.cons.mp h
    have ih := free_iff h2
    have hl := rank_len h2
    have e : Free (v :: L) ↔ ¬ Span L v ∧ Free L := Iff.rfl
    rw [e, ih, List.length_cons]
    rcases rank_cons h1 h2 with ⟨a, b⟩ | ⟨a, b⟩
    · exact ⟨fun x => absurd a x.1, fun x => by omega⟩
    · exact ⟨fun x => by omega, fun x => ⟨a, by omega⟩⟩
theorem free_perm {n : Nat} {L M : List (Vec q)} (h : Sups n L) (p : L.Perm M) : Free L ↔ Free M := by
  rw [free_iff h, free_iff (fun r hr => h r (p.mem_iff.mpr hr)), rank_perm h p, p.length_eq]
theorem Ech.free {n : Nat} {P : Sys q} (e : Ech n P) : Free (rows P) := by
  rw [free_iff e.sups]
  have := (plainP_ech e.sups).len_eq e (plainP_same e.sups)
  unfold rank rows at *
  rw [this, List.length_map]
theorem Plain.free {n : Nat} {L : List (Vec q)} (h : Plain n L) : Free L := by
  obtain ⟨P, e, _, rfl⟩ := h
  exact e.free
theorem Plain.rank {n : Nat} {L : List (Vec q)} (h : Plain n L) : rank n L = L.length := (free_iff h.sups).mp h.free
/-- heads fit below n -/
theorem Ech.len {n : Nat} {P : Sys q} (e : Ech n P) : P.length ≤ n := by
  have := nodup_sub_len (l := P.map (·.1)) (m := List.range n) e.nd fun x hx => by
    obtain ⟨p, hp, rfl⟩ := List.mem_map.mp hx
    exact List.mem_range.mpr (e.lt p hp)
  simpa using this
theorem rank_n {n : Nat} {L : List (Vec q)} (h : Sups n L) : rank n L ≤ n := (plainP_ech h).len
theorem Plain.len {n : Nat} {L : List (Vec q)} (h : Plain n L) : L.length ≤ n := by rw [← h.rank]; exact rank_n h.sups
end LA

/-! rows that meet in 0: partners -/
namespace LA
variable {q : Nat} [Pr q]
/-- a sum over the places below n -/
def sumF : Nat → (Nat → Fin q) → Fin q
  | 0, _ => 0
  | n + 1, f => sumF n f + f n
theorem sumF_congr {f g : Nat → Fin q} : ∀ {n : Nat}, (∀ i, i < n → f i = g i) → sumF n f = sumF n g
  | 0, _ => rfl
  | n + 1, h => by
    show sumF n f + f n = sumF n g + g n
    rw [sumF_congr fun i hi => h i (by omega), h n (by omega)]
theorem sumF_add {f g : Nat → Fin q} : ∀ {n : Nat}, sumF n (fun i => f i + g i) = sumF n f + sumF n g
  | 0 => by show (0 : Fin q) = 0 + 0; grind
  | n + 1 => by
    show sumF n (fun i => f i + g i) + (f n + g n) = sumF n f + f n + (sumF n g + g n)
    rw [sumF_add]; grind
theorem sumF_mul {a : Fin q} {f : Nat → Fin q} : ∀ {n : Nat}, sumF n (fun i => a * f i) = a * sumF n f
  | 0 => by show (0 : Fin q) = a * 0; grind
  | n + 1 => by
    show sumF n (fun i => a * f i) + a * f n = a * (sumF n f + f n)
    rw [sumF_mul]; grind
theorem sumF_zero {n : Nat} {f : Nat → Fin q} (h : ∀ i, i < n → f i = 0) : sumF n f = 0 := by
  induction n with
  | zero => rfl
  | succ n ih =>
    show sumF n f + f n = 0
    rw [ih fun i hi => h i (by omega), h n (by omega)]; grind
theorem sumF_one {n j : Nat} {f : Nat → Fin q} (hj : j < n) (h : ∀ i, i < n → i ≠ j → f i = 0) : sumF n f = f j := by
  induction n with
  | zero => omega
  | succ n ih =>
    show sumF n f + f n = f j
    by_cases e : j = n
    · subst e
      rw [sumF_zero fun i hi => h i (by omega) (by omega)]; grind
    · rw [ih (by omega) fun i hi => h i (by omega), h n (by omega) (by omega)]; grind
theorem sumF_split {m n : Nat} {f : Nat → Fin q} : sumF (m + n) f = sumF m f + sumF n fun i => f (m + i) := by
  induction n with
  | zero => show sumF m f = sumF m f + 0; grind
  | succ n ih =>
    show sumF (m + n) f + f (m + n) = sumF m f + (sumF n (fun i => f (m + i)) + f (m + n))
    rw [ih]; grind
/-- in what two rows meet -/
def dot (n : Nat) (u v : Vec q) : Fin q := sumF n fun i => u i * v i
theorem dot_comm {n : Nat} {u v : Vec q} : dot n u v = dot n v u := sumF_congr fun i _ => by grind
theorem dot_axpy {n : Nat} {u v w : Vec q} {a : Fin q} : dot n u (fun i => v i + a * w i) = dot n u v + a * dot n u w := by
  unfold dot
  rw [← sumF_mul, ← sumF_add]
  exact sumF_congr fun i _ => by grind
theorem dot_zero {n : Nat} {u : Vec q} : dot n u (fun _ => 0) = 0 := sumF_zero fun i _ => by grind
theorem dot_congr {n : Nat} {u v u' v' : Vec q} (h : ∀ i, i < n → u i = u' i) (k : ∀ i, i < n → v i = v' i) : dot n u v = dot n u' v' := sumF_congr fun i hi => by rw [h i hi, k i hi]
theorem dot_span {n : Nat} {u : Vec q} {L : List (Vec q)} (h : ∀ r ∈ L, dot n u r = 0) {v : Vec q} (k : Span L v) : dot n u v = 0 :=
  Span.ind (p := fun v => dot n u v = 0) dot_zero (fun v w a hv hw => by show dot n u _ = 0; rw [dot_axpy, hv, hw]; grind) h k
/-- a row of one mark -/
def unit (j : Nat) : Vec q := fun i => if i = j then 1 else 0
theorem dot_unit {n j : Nat} {v : Vec q} (h : j < n) : dot n (unit j) v = v j := by
  unfold dot unit
  rw [sumF_one h fun i hi hne => by rw [if_neg hne]; grind]
  rw [if_pos rfl]; grind
/-- rows of n marks that meet all of some rows in 0 -/
def Perp (n : Nat) (L : List (Vec q)) (v : Vec q) : Prop := Sup n v ∧ ∀ r ∈ L, dot n r v = 0
theorem Perp.congr {n : Nat} {L M : List (Vec q)} (h : ∀ r ∈ M, Span L r) {v : Vec q} (k : Perp n L v) : Perp n M v :=
  ⟨k.1, fun r hr => by
    rw [dot_comm]
    exact dot_span (fun x hx => by rw [dot_comm]; exact k.2 x hx) (h r hr)⟩
theorem Perp.same {n : Nat} {L M : List (Vec q)} (h : Same L M) {v : Vec q} : Perp n L v ↔ Perp n M v :=
  ⟨Perp.congr fun r hr => (h r).mpr (Span.mem hr), Perp.congr fun r hr => (h r).mp (Span.mem hr)⟩
/-- the multiples that stand at a place: of the row whose head it is, the mark at j with -1 -/
def headRow (P : Sys q) (i : Nat) : Option (Vec q) := (P.find? fun p => decide (p.1 = i)).map (·.2)
theorem headRow_none {P : Sys q} {i : Nat} (h : ∀ p ∈ P, p.1 ≠ i) : headRow P i = none := by
  unfold headRow
  rw [List.find?_eq_none.mpr fun p hp => by simpa using h p hp]; rfl
theorem headRow_some {n : Nat} {P : Sys q} (e : Ech n P) {p : Nat × Vec q} (hp : p ∈ P) : headRow P p.1 = some p.2 := by
  unfold headRow
  cases h : P.find? fun x => decide (x.1 = p.1) with
  | none => exact absurd (List.find?_eq_none.mp h p hp) (by simp)
  | some y =>
    have h1 := List.mem_of_find?_eq_some h
    have h2 : y.1 = p.1 := by simpa using List.find?_some h
    rw [e.inj h1 hp h2]; rfl
/-- the row for a place that is no head -/
def dualRow (P : Sys q) (j : Nat) : Vec q := fun i => if i = j then 1 else match headRow P i with
  | some r => -r j
  | none => 0
def dualL (n : Nat) (P : Sys q) : List (Vec q) := ((List.range n).filter fun j => !(P.map (·.1)).contains j).map (dualRow P)
theorem no_head {P : Sys q} {j : Nat} : (!(P.map (·.1)).contains j) = true ↔ ∀ p ∈ P, p.1 ≠ j := by
  simp only [Bool.not_eq_true', List.contains_eq_mem, decide_eq_false_iff_not]
  exact ⟨fun h p hp e => h (List.mem_map.mpr ⟨p, hp, e⟩), fun h k => by
    obtain ⟨p, hp, e⟩ := List.mem_map.mp k
    exact h p hp e⟩
theorem mem_dualL {n : Nat} {P : Sys q} {v : Vec q} : v ∈ dualL n P ↔ ∃ j, j < n ∧ (∀ p ∈ P, p.1 ≠ j) ∧ v = dualRow P j := by
  unfold dualL
  rw [List.mem_map]
  constructor
  · rintro ⟨j, hj, rfl⟩
    obtain ⟨a, b⟩ := List.mem_filter.mp hj
    exact ⟨j, List.mem_range.mp a, no_head.mp b, rfl⟩
  · rintro ⟨j, a, b, rfl⟩
    exact ⟨j, List.mem_filter.mpr ⟨List.mem_range.mpr a, no_head.mpr b⟩, rfl⟩
theorem dualRow_sup {n : Nat} {P : Sys q} (e : Ech n P) {j : Nat} (hj : j < n) : Sup n (dualRow P j) := fun i hi => by
  unfold dualRow
  rw [if_neg (by omega), headRow_none fun p hp h => by have := e.lt p hp; omega]
theorem dualRow_head {n : Nat} {P : Sys q} (e : Ech n P) {j : Nat} (hj : ∀ p ∈ P, p.1 ≠ j) {p : Nat × Vec q} (hp : p ∈ P) : dualRow P j p.1 = -p.2 j := by
  unfold dualRow
  rw [if_neg (hj p hp), headRow_some e hp]
theorem dualRow_self {P : Sys q} {j : Nat} : dualRow P j j = 1 := if_pos rfl
theorem dualRow_other {P : Sys q} {j i : Nat} (h : i ≠ j) (hi : ∀ p ∈ P, p.1 ≠ i) : dualRow P j i = 0 := by
  unfold dualRow
  rw [if_neg h, headRow_none hi]
theorem dot_dualRow {n : Nat} {P : Sys q} (e : Ech n P) {j : Nat} (hjn : j < n) (hj : ∀ p ∈ P, p.1 ≠ j) {p : Nat × Vec q} (hp : p ∈ P) : dot n p.2 (dualRow P j) = 0 := by
  -- only the head and j have a part
  have hne := hj p hp
  have hlt := e.lt p hp
  have h1 : dot n p.2 (dualRow P j) = dot n p.2 fun i => (-p.2 j) * unit p.1 i + 1 * unit j i := by
    refine sumF_congr fun i hi => ?_
    by_cases c1 : i = j
    · subst c1
      rw [dualRow_self]
      show _ = p.2 i * (-p.2 i * (if i = p.1 then 1 else 0) + 1 * (if i = i then 1 else 0))
      rw [if_neg (fun h => hne h.symm), if_pos rfl]; grind
    · show p.2 i * dualRow P j i = p.2 i * (-p.2 j * (if i = p.1 then 1 else 0) + 1 * (if i = j then 1 else 0))
      rw [if_neg c1]
      by_cases c2 : i = p.1
      · rw [c2, dualRow_head e hj hp, if_pos rfl]; grind
      · rw [if_neg c2]
        by_cases c3 : ∀ x ∈ P, x.1 ≠ i
        · rw [dualRow_other c1 c3]; grind
        · obtain ⟨x, hx, ex⟩ : ∃ x ∈ P, x.1 = i := Classical.byContradiction fun h => c3 fun x hx ex => h ⟨x, hx, ex⟩
          rw [← ex, e.off p hp x hx (by omega)]; grind
  rw [h1, dot_axpy, show (fun i => -p.2 j * unit p.1 i) = fun i => (0 : Fin q) + (-p.2 j) * unit p.1 i from funext fun i => by grind, dot_axpy, dot_zero, dot_comm, dot_unit hlt, dot_comm (u := p.2), dot_unit hjn, e.one p hp]
  grind
theorem sum_units : ∀ {l : List Nat} {v : Vec q} {b : Nat → Vec q}, (∀ j ∈ l, ∀ k ∈ l, b j k = if k = j then 1 else 0) → l.Nodup → ∃ w, Span (l.map b) w ∧ ∀ j ∈ l, w j = v j
  | [], v, b, _, _ => ⟨fun _ => 0, fun _ => rfl, fun _ h => by cases h⟩
  | j :: l, v, b, h, nd => by
    have nd := List.nodup_cons.mp nd
    obtain ⟨w, hw, e⟩ := sum_units (v := fun i => v i - v j * b j i) (b := b) (fun x hx y hy => h x (.tail _ hx) y (.tail _ hy)) nd.2
    have wj : w j = 0 := Span.ind (p := fun w => w j = 0) rfl (fun v w a hv hw => by show v j + a * w j = 0; rw [hv, hw]; grind) (fun r hr => by
      obtain ⟨x, hx, rfl⟩ := List.mem_map.mp hr
      rw [h x (.tail _ hx) j (.head _), if_neg fun e => nd.1 (by rw [e]; exact hx)]) hw
    refine ⟨fun i => w i + v j * b j i, ⟨v j, hw.congr fun i => by grind⟩, fun k hk => ?_⟩
    rcases List.mem_cons.mp hk with e1 | hk
    · subst e1
      show w k + v k * b k k = v k
      rw [wj, h k (.head _) k (.head _), if_pos rfl]; grind
    · show w k + v j * b j k = v k
      rw [e k hk]; grind
theorem Ech.dual_iff {n : Nat} {P : Sys q} (e : Ech n P) {v : Vec q} : Span (dualL n P) v ↔ Perp n (rows P) v := by
  constructor
  · intro h
    refine ⟨Sup.span (fun r hr => ?_) h, fun r hr => ?_⟩
    · obtain ⟨j, a, b, rfl⟩ := mem_dualL.mp hr
      exact dualRow_sup e a
    · obtain ⟨p, hp, rfl⟩ := List.mem_map.mp hr
      refine dot_span (fun x hx => ?_) h
      obtain ⟨j, a, b, rfl⟩ := mem_dualL.mp hx
      exact dot_dualRow e a b hp
  · rintro ⟨hs, hd⟩
    have hB : ∀ j ∈ (List.range n).filter (fun j => !(P.map (·.1)).contains j), ∀ k ∈ (List.range n).filter (fun j => !(P.map (·.1)).contains j), dualRow P j k = if k = j then 1 else 0 := fun j hj k hk => by
      by_cases c : k = j
      · rw [if_pos c, c]; exact dualRow_self
      · rw [if_neg c, dualRow_other c (no_head.mp (List.mem_filter.mp hk).2)]
    obtain ⟨w, hw, ew⟩ := sum_units (v := v) hB ((List.nodup_range).filter _)
    have hwP : ∀ r ∈ rows P, dot n r w = 0 := fun r hr => by
      obtain ⟨p, hp, rfl⟩ := List.mem_map.mp hr
      refine dot_span (fun x hx => ?_) hw
      obtain ⟨j, a, b, rfl⟩ := mem_dualL.mp hx
      exact dot_dualRow e a b hp
    have hws : Sup n w := Sup.span (fun r hr => by
      obtain ⟨j, a, b, rfl⟩ := mem_dualL.mp hr
      exact dualRow_sup e a) hw
    refine hw.congr fun i => ?_
    by_cases c : i < n
    · by_cases c2 : ∀ p ∈ P, p.1 ≠ i
      · exact (ew i (List.mem_filter.mpr ⟨List.mem_range.mpr c, no_head.mpr c2⟩)).symm
      · obtain ⟨p, hp, ep⟩ : ∃ p ∈ P, p.1 = i := Classical.byContradiction fun h => c2 fun x hx ex => h ⟨x, hx, ex⟩
        have h1 : dot n p.2 (fun i => v i + -1 * w i) = 0 := by rw [dot_axpy, hd p.2 (List.mem_map.mpr ⟨p, hp, rfl⟩), hwP p.2 (List.mem_map.mpr ⟨p, hp, rfl⟩)]; grind
        have h2 : dot n p.2 (fun i => v i + -1 * w i) = p.2 i * (v i + -1 * w i) := sumF_one c fun k hk hne => by
          by_cases c3 : ∀ p ∈ P, p.1 ≠ k
          · show p.2 k * (v k + -1 * w k) = 0
            rw [ew k (List.mem_filter.mpr ⟨List.mem_range.mpr hk, no_head.mpr c3⟩)]; grind
          · obtain ⟨x, hx, ex⟩ : ∃ p ∈ P, p.1 = k := Classical.byContradiction fun h => c3 fun x hx ex => h ⟨x, hx, ex⟩
            rw [← ex, e.off p hp x hx (by omega)]; grind
        rw [h2, ← ep, e.one p hp] at h1
        rw [← ep]; grind
    · rw [hs i (by omega), hws i (by omega)]
theorem filter_len : ∀ (l m : List Nat), l.Nodup → m.Nodup → (∀ x ∈ m, x ∈ l) → (l.filter fun j => !m.contains j).length = l.length - m.length
  | l, [], _, _, _ => by simp
  | l, x :: m, nl, nm, h => by
    have nm' := List.nodup_cons.mp nm
    have hx := h x (.head _)
    have h1 := filter_len (l.erase x) m (nl.erase x) nm'.2 fun y hy => (List.mem_erase_of_ne fun e => nm'.1 (by rw [← e]; exact hy)).mpr (h y (.tail _ hy))
    rw [List.length_erase_of_mem hx] at h1
    have h2 : (l.filter fun j => !(x :: m).contains j) = (l.erase x).filter fun j => !m.contains j := by
      rw [nl.erase_eq_filter, List.filter_filter]
      congr 1
      funext j
      simp only [List.contains_eq_mem, List.mem_cons]
      by_cases c : j = x <;> simp [c]
    rw [h2, h1]
    have := List.length_pos_of_mem hx
    simp only [List.length_cons]
    omega
theorem dualL_len {n : Nat} {P : Sys q} (e : Ech n P) : (dualL n P).length = n - P.length := by
  unfold dualL
  rw [List.length_map, filter_len _ _ List.nodup_range e.nd fun x hx => by
    obtain ⟨p, hp, rfl⟩ := List.mem_map.mp hx
    exact List.mem_range.mpr (e.lt p hp)]
  simp
theorem dualL_sups {n : Nat} {P : Sys q} (e : Ech n P) : Sups n (dualL n P) := fun r hr => by
  obtain ⟨j, a, b, rfl⟩ := mem_dualL.mp hr
  exact dualRow_sup e a
theorem free_units : ∀ {l : List Nat} {b : Nat → Vec q}, (∀ j ∈ l, ∀ k ∈ l, b j k = if k = j then 1 else 0) → l.Nodup → Free (l.map b)
  | [], _, _, _ => trivial
  | j :: l, b, h, nd => by
    have nd := List.nodup_cons.mp nd
    refine ⟨fun k => ?_, free_units (fun x hx y hy => h x (.tail _ hx) y (.tail _ hy)) nd.2⟩
    have wj : b j j = 0 := Span.ind (p := fun w => w j = 0) rfl (fun v w a hv hw => by show v j + a * w j = 0; rw [hv, hw]; grind) (fun r hr => by
      obtain ⟨x, hx, rfl⟩ := List.mem_map.mp hr
      rw [h x (.tail _ hx) j (.head _), if_neg fun e => nd.1 (by rw [e]; exact hx)]) k
    rw [h j (.head _) j (.head _), if_pos rfl] at wj
    exact one_ne wj
theorem dualL_free {n : Nat} {P : Sys q} : Free (dualL n P) := by
  refine free_units (fun j hj k hk => ?_) ((List.nodup_range).filter _)
  by_cases c : k = j
  · rw [if_pos c, c]; exact dualRow_self
  · rw [if_neg c, dualRow_other c (no_head.mp (List.mem_filter.mp hk).2)]
/-- the rows that meet all of some rows in 0 -/
noncomputable def van (n : Nat) (L : List (Vec q)) : List (Vec q) := pl n (dualL n (plS n L))
theorem van_plain {n : Nat} {L : List (Vec q)} (h : Sups n L) : Plain n (van n L) := pl_plain (dualL_sups (plS_ech h))
theorem van_iff {n : Nat} {L : List (Vec q)} (h : Sups n L) {v : Vec q} : Span (van n L) v ↔ Perp n L v :=
  (pl_same (dualL_sups (plS_ech h)) v).trans ((plS_ech h).dual_iff.trans (Perp.same (pl_same h)))
theorem van_sups {n : Nat} {L : List (Vec q)} (h : Sups n L) : Sups n (van n L) := (van_plain h).sups
theorem van_len {n : Nat} {L : List (Vec q)} (h : Sups n L) : (van n L).length = n - rank n L := by
  unfold van
  have e := plS_ech h
  rw [pl_len, (free_iff (dualL_sups e)).mp dualL_free, dualL_len e]
  congr 1
  exact (List.length_map (as := plS n L) (·.2)).symm.trans pl_len
/-- of a space the rows that meet in 0 what meets it in 0 are it again -/
theorem Ech.dd {n : Nat} {P : Sys q} (e : Ech n P) {v : Vec q} (hv : Sup n v) (h : ∀ r ∈ dualL n P, dot n r v = 0) : Span (rows P) v := by
  rw [e.span_iff]
  have hs := red_sup (v := v) e.sup hv
  have hsp := red_span (P := P) (v := v)
  intro i
  by_cases c : i < n
  · by_cases c2 : ∀ p ∈ P, p.1 ≠ i
    · have h1 : dot n (dualRow P i) (fun k => v k + -1 * (v k - red P v k)) = 0 := by
        rw [dot_axpy, h _ (mem_dualL.mpr ⟨i, c, c2, rfl⟩), dot_span (fun r hr => ?_) hsp]
        · grind
        · obtain ⟨p, hp, rfl⟩ := List.mem_map.mp hr
          rw [dot_comm]; exact dot_dualRow e c c2 hp
      have h2 : dot n (dualRow P i) (fun k => v k + -1 * (v k - red P v k)) = dualRow P i i * (v i + -1 * (v i - red P v i)) := sumF_one c fun k hk hne => by
        by_cases c3 : ∀ p ∈ P, p.1 ≠ k
        · rw [dualRow_other hne c3]; grind
        · obtain ⟨x, hx, ex⟩ : ∃ p ∈ P, p.1 = k := Classical.byContradiction fun h => c3 fun x hx ex => h ⟨x, hx, ex⟩
          have := red_head (v := v) e x hx
          show dualRow P i k * (v k + -1 * (v k - red P v k)) = 0
          rw [← ex, this]; grind
      rw [h2, dualRow_self] at h1
      grind
    · obtain ⟨p, hp, ep⟩ : ∃ p ∈ P, p.1 = i := Classical.byContradiction fun h => c2 fun x hx ex => h ⟨x, hx, ex⟩
      rw [← ep]; exact red_head e p hp
  · exact hs i (by omega)
theorem van_van {n : Nat} {L : List (Vec q)} (h : Sups n L) : van n (van n L) = pl n L := by
  have hv := van_sups h
  refine (van_plain hv).eq_pl h fun v => ?_
  rw [van_iff hv]
  constructor
  · rintro ⟨a, b⟩
    refine (pl_same h v).mp ((plS_ech h).dd a fun r hr => ?_)
    have : Perp n (van n L) v := ⟨a, b⟩
    exact (Perp.same (pl_same (dualL_sups (plS_ech h)))).mp this |>.2 r hr
  · intro k
    refine ⟨Sup.span h k, fun r hr => ?_⟩
    have h1 := (van_iff h).mp (Span.mem hr)
    rw [dot_comm]
    rw [dot_comm]
    exact dot_span (fun x hx => by rw [dot_comm]; exact h1.2 x hx) k
end LA

/-! rows of marks as data -/
namespace RS
open PySem PySem.Spec LA
/-- the table has a def -/
def Has (T : CT) (x : Str) (N : List Str) (n : Nat) (m : SM) : Prop := T.lookup x = some (N, n, m)
theorem callD_has {T : CT} {x : Str} {N : List Str} {n k : Nat} {m : SM} {ds : Ds} {s : DS} (h : Has T x N n m) (hl : ds.length = n) : callD T (k + 1) x ds s = R.bind (m (callD T k) (startE N ds) s) fun o s => finO o s := by
  show (match T.lookup x with
    | some (N, n, b) => if ds.length = n then runB N (b (callD T k)) ds else M.stop
    | none => M.stop) s = _
  rw [show T.lookup x = some (N, n, m) from h]
  simp only [hl, if_true]
  exact runB_eq
@[simp] theorem start_nil {N : List Str} : startE N [] = List.replicate N.length none := by unfold startE; simp
@[simp] theorem start_cons {x : Str} {N : List Str} {d : D} {ds : Ds} : startE (x :: N) (d :: ds) = some (.val d) :: startE N ds := by unfold startE; simp
/-! ints -/
/-- small enough to be a factor -/
def Smi (i : Int) : Prop := -(2 ^ 64) < i ∧ i < 2 ^ 64
instance (i : Int) : Decidable (Smi i) := inferInstanceAs (Decidable (_ ∧ _))
@[simp] theorem add_int {i j : Int} : dBin .Add (.int i) (.int j) = some (.int (i + j)) := (rfl)
@[simp] theorem sub_int {i j : Int} : dBin .Sub (.int i) (.int j) = some (.int (i - j)) := (rfl)
@[simp] theorem neg_int {i : Int} : dNeg (.int i) = some (.int (-i)) := (rfl)
@[simp] theorem mul_l {i j : Int} (h : Smi i) : dBin .Mult (.int i) (.int j) = some (.int (i * j)) := if_pos (.inl h)
@[simp] theorem mul_r {i j : Int} (h : Smi j) : dBin .Mult (.int i) (.int j) = some (.int (i * j)) := if_pos (.inr h)
theorem mul_tup {xs : Ds} {k : Int} (h : -(2 ^ 63) < k ∧ k ≤ 1000 ∧ xs.length ≤ 1000) : dBin .Mult (.tup xs) (.int k) = some (.tup (List.replicate k.toNat xs).flatten) := if_pos h
@[simp] theorem mod_pos {i j : Int} (h : 0 < j) : dBin .Mod (.int i) (.int j) = some (.int (i % j)) := if_pos h
theorem div_pos {i j : Int} (h : 0 < j ∧ j < 1073741824) : dBin .FloorDiv (.int i) (.int j) = some (.int (i / j)) := if_pos h
@[simp] theorem and_one {i : Int} : dBin .BitAnd (.int i) (.int 1) = some (.int (i % 2)) := (rfl)
@[simp] theorem eq_int {i j : Int} : dCmp .Eq (.int i) (.int j) = some (decide (i = j)) := congrArg some rfl
@[simp] theorem ne_int {i j : Int} : dCmp .NotEq (.int i) (.int j) = some (!decide (i = j)) := congrArg (Option.map not) (eq_int (i := i) (j := j))
@[simp] theorem lt_int {i j : Int} : dCmp .Lt (.int i) (.int j) = some (decide (i < j)) := (rfl)
@[simp] theorem le_int {i j : Int} : dCmp .LtE (.int i) (.int j) = some (decide (i ≤ j)) := (rfl)
@[simp] theorem gt_int {i j : Int} : dCmp .Gt (.int i) (.int j) = some (decide (j < i)) := (rfl)
@[simp] theorem ge_int {i j : Int} : dCmp .GtE (.int i) (.int j) = some (decide (j ≤ i)) := (rfl)
@[simp] theorem is_non {i : Int} : dCmp .Is (.int i) .non = some false := (rfl)
@[simp] theorem isnt_non {i : Int} : dCmp .IsNot (.int i) .non = some true := (rfl)
@[simp] theorem non_is : dCmp .Is .non .non = some true := (rfl)
@[simp] theorem non_isnt : dCmp .IsNot .non .non = some false := (rfl)
@[simp] theorem tru_bl {b : Bool} : dTru (.bl b) = some b := (rfl)
@[simp] theorem dint_int {i : Int} : dInt (.int i) = some i := (rfl)
@[simp] theorem bint_int {i : Int} : bInt [.int i] = some (.int i) := (rfl)
@[simp] theorem bint_bl {b : Bool} : bInt [.bl b] = some (.int (if b then 1 else 0)) := (rfl)
@[simp] theorem len_lst {xs : Ds} : bLen [.lst xs] = some (.int xs.length) := (rfl)
@[simp] theorem len_tup {xs : Ds} : bLen [.tup xs] = some (.int xs.length) := (rfl)
@[simp] theorem len_dic {xs : List (D × D)} : bLen [.dic xs] = some (.int xs.length) := (rfl)
@[simp] theorem tuple_lst {xs : Ds} : bTuple [.lst xs] = some (.tup xs) := (rfl)
@[simp] theorem tuple_tup {xs : Ds} : bTuple [.tup xs] = some (.tup xs) := (rfl)
@[simp] theorem list_lst {xs : Ds} : bList [.lst xs] = some xs := (rfl)
@[simp] theorem list_tup {xs : Ds} : bList [.tup xs] = some xs := (rfl)
@[simp] theorem seq_lst {xs : Ds} : dSeq (.lst xs) = some xs := (rfl)
@[simp] theorem seq_tup {xs : Ds} : dSeq (.tup xs) = some xs := (rfl)
@[simp] theorem isa_tt {xs : Ds} : dIsa "tuple" (.tup xs) = some true := (rfl)
@[simp] theorem isa_ii {i : Int} : dIsa "int" (.int i) = some true := (rfl)
@[simp] theorem isa_bi {i : Int} : dIsa "bool" (.int i) = some false := (rfl)
@[simp] theorem zip_ll {xs ys : Ds} : dZipI (.lst xs) (.lst ys) = some (dZip xs ys) := (rfl)
@[simp] theorem zip_lt {xs ys : Ds} : dZipI (.lst xs) (.tup ys) = some (dZip xs ys) := (rfl)
@[simp] theorem zip_tl {xs ys : Ds} : dZipI (.tup xs) (.lst ys) = some (dZip xs ys) := (rfl)
@[simp] theorem zip_tt {xs ys : Ds} : dZipI (.tup xs) (.tup ys) = some (dZip xs ys) := (rfl)
@[simp] theorem enum_l {xs : Ds} : dEnumI (.lst xs) = some (dNum 0 xs) := (rfl)
@[simp] theorem enum_t {xs : Ds} : dEnumI (.tup xs) = some (dNum 0 xs) := (rfl)
theorem items_dic {kvs : List (D × D)} : dItems (.dic kvs) = some (kvs.map pairD) := (rfl)
@[simp] theorem vals_dic {kvs : List (D × D)} : dVals (.dic kvs) = some (kvs.map (·.2)) := (rfl)
@[simp] theorem dicOf_dic {kvs : List (D × D)} : dicOf (.dic kvs) = some kvs := (rfl)
@[simp] theorem key_int {i : Int} : keyOf (.int i) = some (.inl i) := (rfl)
@[simp] theorem key_str {x : Str} : keyOf (.str x) = some (.inr x) := (rfl)
@[simp] theorem dZip_map {α : Type} {f g : α → D} : ∀ {xs : List α}, dZip (xs.map f) (xs.map g) = xs.map fun x => .tup [f x, g x]
  | [] => rfl
  | x :: xs => by
    show D.tup [f x, g x] :: dZip (xs.map f) (xs.map g) = _
    rw [dZip_map]; rfl
@[simp] theorem dZip_zip {α β : Type} {f : α → D} {g : β → D} : ∀ {xs : List α} {ys : List β}, dZip (xs.map f) (ys.map g) = (xs.zip ys).map fun p => .tup [f p.1, g p.2]
  | [], _ => by simp [dZip]
  | _ :: _, [] => by simp [dZip]
  | x :: xs, y :: ys => by
    show D.tup [f x, g y] :: dZip (xs.map f) (ys.map g) = _
    rw [dZip_zip]; rfl
theorem dUp_range : ∀ {n : Nat} {lo : Int}, dUp lo n = (List.range n).map fun i => .int (lo + (i : Int))
  | 0, _ => rfl
  | n + 1, lo => by
    show D.int lo :: dUp (lo + 1) n = _
    rw [dUp_range, List.range_succ_eq_map, List.map_cons, List.map_map]
    congr 1
    · simp
    · refine List.map_congr_left fun i _ => ?_
      simp only [Function.comp]
      congr 1
      push_cast
      omega
@[simp] theorem dNum_range {f : Nat → D} : ∀ {n k : Nat}, dNum k ((List.range n).map f) = (List.range n).map fun i => .tup [.int ((k + i : Nat) : Int), f i] := by
  intro n k
  apply List.ext_getElem?
  intro i
  by_cases h : i < n
  · have h1 : i < (dNum k ((List.range n).map f)).length := by rw [dNum_length]; simpa using h
    obtain ⟨e, h2, h3⟩ := dNum_get (List.getElem?_eq_getElem h1)
    rw [List.getElem?_eq_getElem h1, h3]
    simp [h] at h2 ⊢
    exact h2.symm
  · rw [List.getElem?_eq_none (by rw [dNum_length]; simpa using h), List.getElem?_eq_none (by simpa using h)]
@[simp] theorem rng1_nat {n : Nat} (h : Lm n) : dRng1 (.int (n : Int)) = some ((List.range n).map fun i => .int ((i : Nat) : Int)) := by
  have : wide (n : Int) = true := by
    unfold wide
    unfold Lm lim at h
    simp
    omega
  show (if wide (n : Int) = true then some (dUp 0 (n : Int).toNat) else none) = _
  rw [if_pos this, dUp_range]
  simp
/-! marks -/
section
variable {q : Nat} [Pr q]
theorem Pr.two [p : Pr q] : 2 ≤ q := by have := p.h; omega
theorem Pr.five [p : Pr q] : q ≤ 5 := by have := p.h; omega
@[simp] theorem q_pos : (0 : Int) < (q : Int) := by have := Pr.two (q := q); omega
@[simp] theorem q_posN : 0 < q := by have := Pr.two (q := q); omega
theorem q_small : (q : Int) < 1073741824 := by have := Pr.five (q := q); omega
/-- an int as a mark -/
def toF (i : Int) : Fin q := ⟨(i % q).toNat, by
  have h1 := Int.emod_nonneg i (b := (q : Int)) (by have := Pr.two (q := q); omega)
  have h2 := Int.emod_lt_of_pos i (b := (q : Int)) (by have := Pr.two (q := q); omega)
  omega⟩
theorem toF_val {i : Int} : (((toF i : Fin q).val : Nat) : Int) = i % (q : Int) := by
  have h1 := Int.emod_nonneg i (b := (q : Int)) (by have := Pr.two (q := q); omega)
  show ((i % (q : Int)).toNat : Int) = _
  omega
@[simp] theorem emod_F {i : Int} : i % (q : Int) = (((toF i : Fin q).val : Nat) : Int) := toF_val.symm
theorem fin_eq {a b : Fin q} (h : ((a.val : Nat) : Int) = ((b.val : Nat) : Int)) : a = b := Fin.ext (by omega)
theorem toF_eq {i j : Int} (h : i % (q : Int) = j % (q : Int)) : (toF i : Fin q) = toF j := fin_eq (by rw [toF_val, toF_val, h])
theorem val_add {a b : Fin q} : (((a + b).val : Nat) : Int) = ((a.val : Int) + (b.val : Int)) % (q : Int) := by
  rw [Fin.val_add]; push_cast; rfl
theorem val_mul {a b : Fin q} : (((a * b).val : Nat) : Int) = ((a.val : Int) * (b.val : Int)) % (q : Int) := by
  rw [Fin.val_mul]; push_cast; rfl
@[simp] theorem toF_self {a : Fin q} : toF ((a.val : Nat) : Int) = a := fin_eq (by rw [toF_val]; exact Int.emod_eq_of_lt (by omega) (by have := a.isLt; omega))
@[simp] theorem toF_add {i j : Int} : (toF (i + j) : Fin q) = toF i + toF j := fin_eq (by rw [val_add, toF_val, toF_val, toF_val, ← Int.add_emod])
@[simp] theorem toF_mul {i j : Int} : (toF (i * j) : Fin q) = toF i * toF j := fin_eq (by rw [val_mul, toF_val, toF_val, toF_val, ← Int.mul_emod])
@[simp] theorem toF_zero : (toF 0 : Fin q) = 0 := fin_eq (by rw [toF_val, Int.zero_emod]; rfl)
@[simp] theorem toF_one : (toF 1 : Fin q) = 1 := fin_eq (by
  rw [toF_val]
  have h2 := Pr.two (q := q)
  rw [Int.emod_eq_of_lt (by omega) (by omega)]
  have : (1 : Fin q).val = 1 := by
    show 1 % q = 1
    exact Nat.mod_eq_of_lt (by omega)
  rw [this]; rfl)
@[simp] theorem toF_neg {i : Int} : (toF (-i) : Fin q) = -toF i := by
  have h : (toF (-i) : Fin q) + toF i = 0 := by rw [← toF_add, Int.add_left_neg, toF_zero]
  grind
@[simp] theorem toF_sub {i j : Int} : (toF (i - j) : Fin q) = toF i - toF j := by
  rw [Int.sub_eq_add_neg, toF_add, toF_neg]; grind
@[simp] theorem toF_q : (toF (q : Int) : Fin q) = 0 := fin_eq (by rw [toF_val, Int.emod_self]; rfl)
@[simp] theorem val0 {a : Fin q} : ((a.val : Nat) : Int) = 0 ↔ a = 0 := by
  constructor
  · intro h; exact fin_eq (by rw [h]; rfl)
  · rintro rfl; rfl
@[simp] theorem val0' {a : Fin q} : a.val = 0 ↔ a = 0 := by
  constructor
  · intro h; exact Fin.ext h
  · rintro rfl; rfl
@[simp] theorem sm_val {a : Fin q} : Smi ((a.val : Nat) : Int) := by
  have := a.isLt
  have := Pr.five (q := q)
  unfold Smi; omega
@[simp] theorem sm_q : Smi (q : Int) := by
  have := Pr.five (q := q)
  unfold Smi; omega
/-- a row of n marks -/
def encV (n : Nat) (v : Vec q) : D := .tup ((List.range n).map fun i => .int (((v i).val : Nat) : Int))
def encL (n : Nat) (L : List (Vec q)) : Ds := L.map (encV n)
theorem encV_congr {n : Nat} {u v : Vec q} (h : ∀ i, i < n → u i = v i) : encV n u = encV n v := by
  unfold encV
  congr 1
  refine List.map_congr_left fun i hi => ?_
  rw [h i (List.mem_range.mp hi)]
theorem encV_inj {n : Nat} {u v : Vec q} (h : encV n u = encV n v) : ∀ i, i < n → u i = v i := by
  unfold encV at h
  injection h with h
  intro i hi
  have := List.map_inj_left.mp h i (List.mem_range.mpr hi)
  injection this with h2
  exact fin_eq h2
theorem encV_sup {n : Nat} {u v : Vec q} (hu : Sup n u) (hv : Sup n v) (h : encV n u = encV n v) : u = v := funext fun i => by
  by_cases c : i < n
  · exact encV_inj h i c
  · rw [hu i (by omega), hv i (by omega)]
end
end RS

/-! loops with an early end, two clauses, dict comprehensions, questions -/
namespace RS
open PySem PySem.Spec LA L2
section
variable {α : Type}
theorem loop_ret {g : Tg} {b : MS} {enc : α → D} {s : DS} (E : Env → Prop) (p : α → Bool) (r : α → D) : ∀ {xs : List α} {ρ : Env}, (∀ x, x ∈ xs → ∀ ρ, E ρ → ∃ ρ1, g (enc x) ρ = some ρ1 ∧ ((p x = true ∧ b ρ1 s = .ok (.rt (r x)) s) ∨ (p x = false ∧ ∃ ρ2, b ρ1 s = .ok (.nx ρ2) s ∧ E ρ2))) → E ρ →
    (∃ x, xs.find? p = some x ∧ mLoop g b (xs.map enc) ρ s = .ok (.rt (r x)) s) ∨ (xs.find? p = none ∧ ∃ ρ', mLoop g b (xs.map enc) ρ s = .ok (.nx ρ') s ∧ E ρ')
  | [], ρ, _, h => .inr ⟨rfl, ρ, rfl, h⟩
  | x :: xs, ρ, k, h => by
    obtain ⟨ρ1, h1, h2⟩ := k x (.head _) ρ h
    rcases h2 with ⟨h2, h3⟩ | ⟨h2, ρ2, h3, h4⟩
    · refine .inl ⟨x, by rw [List.find?_cons, h2], ?_⟩
      rw [List.map_cons]
      unfold mLoop
      exact bnd_of (opt_of h1) (bnd_of h3 rfl)
    · rcases loop_ret E p r (xs := xs) (fun y hy => k y (.tail _ hy)) h4 with ⟨y, e1, e2⟩ | ⟨e1, ρ', e2, e3⟩
      · refine .inl ⟨y, by rw [List.find?_cons, h2]; exact e1, ?_⟩
        rw [List.map_cons]
        unfold mLoop
        exact bnd_of (opt_of h1) (bnd_of h3 e2)
      · refine .inr ⟨by rw [List.find?_cons, h2]; exact e1, ρ', ?_, e3⟩
        rw [List.map_cons]
        unfold mLoop
        exact bnd_of (opt_of h1) (bnd_of h3 e2)
def lpO (g : Tg) (b : MS) (ds : Ds) (o : O) (s : DS) : R O := match o with
  | .nx ρ2 => mLoop g b ds ρ2 s
  | .ct ρ2 => mLoop g b ds ρ2 s
  | .bk ρ2 => .ok (.nx ρ2) s
  | .rt d => .ok (.rt d) s
theorem loop_cons {g : Tg} {b : MS} {d : D} {ds : Ds} {ρ : Env} {s : DS} : mLoop g b (d :: ds) ρ s = R.bind (R.bind (ofO (g d ρ) s) fun ρ1 s => b ρ1 s) fun o s => lpO g b ds o s := by
  show (M.opt (g d ρ) >>= fun ρ1 => b ρ1 >>= fun o => match o with
    | .nx ρ2 => mLoop g b ds ρ2
    | .ct ρ2 => mLoop g b ds ρ2
    | .bk ρ2 => pure (.nx ρ2)
    | .rt d => pure (.rt d)) s = _
  simp only [bnd_eq, opt_eq]
  cases ofO (g d ρ) s with
  | ok ρ1 s1 =>
    simp only [bindk]
    cases b ρ1 s1 with
    | ok o s2 => cases o <;> rfl
    | exc => rfl
    | stuck => rfl
  | exc => rfl
  | stuck => rfl
/-- goes on with an env of a kind -/
def Wr (r : R O) (s : DS) (P : Env → Prop) : Prop := ∃ ρ, r = .ok (.nx ρ) s ∧ P ρ
@[simp] theorem Wr_ok {ρ : Env} {s : DS} {P : Env → Prop} : Wr (.ok (.nx ρ) s) s P = P ρ := propext ⟨fun ⟨ρ', e, p⟩ => by cases e; exact p, fun p => ⟨ρ, rfl, p⟩⟩
/-- ends here -/
def Wt (r : R O) (s : DS) (d : D) : Prop := r = .ok (.rt d) s
@[simp] theorem Wt_ok {s : DS} {d e : D} : Wt (.ok (.rt d) s) s e = (d = e) := propext ⟨fun h => by cases h; rfl, fun h => by rw [h]; rfl⟩
theorem loop_foldW {σ : Type} {g : Tg} {b : MS} {enc : α → D} {s : DS} (E : σ → Env → Prop) (f : σ → α → σ) : ∀ {xs : List α} {ρ : Env} {a : σ}, (∀ x, x ∈ xs → ∀ a ρ, E a ρ → Wr (R.bind (ofO (g (enc x) ρ) s) fun ρ1 s => b ρ1 s) s (E (f a x))) → E a ρ → Wr (mLoop g b (xs.map enc) ρ s) s (E (xs.foldl f a))
  | [], ρ, a, _, h => ⟨ρ, rfl, h⟩
  | x :: xs, ρ, a, k, h => by
    obtain ⟨ρ2, h2, h3⟩ := k x (.head _) a ρ h
    obtain ⟨ρ', h4, h5⟩ := loop_foldW E f (xs := xs) (fun y hy => k y (.tail _ hy)) h3
    refine ⟨ρ', ?_, h5⟩
    rw [List.map_cons, loop_cons, h2]
    exact h4
theorem loop_foldP {σ : Type} {g : Tg} {b : MS} {enc : α → D} {s : DS} (E : σ → Env → Prop) (f : σ → α → σ) {xs : List α} {ρ : Env} {a : σ} (h : ∀ pre x post, xs = pre ++ x :: post → ∀ ρ, E (pre.foldl f a) ρ → Wr (R.bind (ofO (g (enc x) ρ) s) fun ρ1 s => b ρ1 s) s (E (f (pre.foldl f a) x))) (h0 : E a ρ) : Wr (mLoop g b (xs.map enc) ρ s) s (E (xs.foldl f a)) := by
  have key : ∀ (post pre : List α) (ρ : Env), xs = pre ++ post → E (pre.foldl f a) ρ → Wr (mLoop g b (post.map enc) ρ s) s (E (post.foldl f (pre.foldl f a))) := by
    intro post
    induction post with
    | nil => intro pre ρ _ hE; exact ⟨ρ, rfl, hE⟩
    | cons x post ih =>
      intro pre ρ e hE
      obtain ⟨ρ2, h2, h3⟩ := h pre x post e ρ hE
      have h4 := ih (pre ++ [x]) ρ2 (by simp [e]) (by rw [List.foldl_append]; exact h3)
      rw [List.map_cons, Wr, loop_cons, h2]
      rw [List.foldl_append] at h4
      exact h4
  exact key xs [] ρ rfl h0
theorem loop_retW {g : Tg} {b : MS} {enc : α → D} {s : DS} (E : Env → Prop) (p : α → Bool) (r : α → D) : ∀ {xs : List α} {ρ : Env}, (∀ x, x ∈ xs → ∀ ρ, E ρ → (p x = true → Wt (R.bind (ofO (g (enc x) ρ) s) fun ρ1 s => b ρ1 s) s (r x)) ∧ (p x = false → Wr (R.bind (ofO (g (enc x) ρ) s) fun ρ1 s => b ρ1 s) s E)) → E ρ →
    (∃ x, xs.find? p = some x ∧ mLoop g b (xs.map enc) ρ s = .ok (.rt (r x)) s) ∨ (xs.find? p = none ∧ Wr (mLoop g b (xs.map enc) ρ s) s E)
  | [], ρ, _, h => .inr ⟨rfl, ρ, rfl, h⟩
  | x :: xs, ρ, k, h => by
    obtain ⟨k1, k2⟩ := k x (.head _) ρ h
    cases hp : p x with
    | true =>
      refine .inl ⟨x, by rw [List.find?_cons, hp], ?_⟩
      rw [List.map_cons, loop_cons, show _ = _ from k1 hp]
      rfl
    | false =>
      obtain ⟨ρ2, h3, h4⟩ := k2 hp
      rcases loop_retW E p r (xs := xs) (fun y hy => k y (.tail _ hy)) h4 with ⟨y, e1, e2⟩ | ⟨e1, e2⟩
      · exact .inl ⟨y, by rw [List.find?_cons, hp]; exact e1, by rw [List.map_cons, loop_cons, h3]; exact e2⟩
      · refine .inr ⟨by rw [List.find?_cons, hp]; exact e1, ?_⟩
        rw [List.map_cons, loop_cons, h3]; exact e2
/-- lists one behind the other -/
def lcJ (h : α → DS → R Ds) : List α → DS → R Ds
  | [], s => .ok [] s
  | x :: xs, s => R.bind (h x s) fun ys s => R.bind (lcJ h xs s) fun zs s => .ok (ys ++ zs) s
theorem lc2Go_J {g : Tg} {t : Env → M Bool} {it1 : Env → M Ds} {g1 : Tg} {t1 : Env → M Bool} {e : Env → M D} {vs1 : List Nat} {ρ : Env} (f : α → D) : ∀ {xs : List α} {s : DS}, mLc2Go g t it1 g1 t1 e vs1 ρ (xs.map f) s =
    lcJ (fun x s => R.bind (ofO (g (f x) ρ) s) fun ρ2 s => R.bind (R.calm (t ρ2 s)) fun b s => if b = true then R.bind (R.calm (it1 ρ2 s)) fun es s => if es.length ≤ 4096 then mLcGo g1 t1 e (wipeE ρ2 vs1) es s else .stuck else .ok [] s) xs s
  | [], s => rfl
  | x :: xs, s => by
    rw [List.map_cons]
    unfold mLc2Go lcJ
    simp only [bnd_eq, opt_eq, calm_eq]
    cases ofO (g (f x) ρ) s with
    | exc => rfl
    | stuck => rfl
    | ok ρ2 s2 =>
      simp only [bindk]
      cases R.calm (t ρ2 s2) with
      | exc => rfl
      | stuck => rfl
      | ok b s3 =>
        cases b with
        | false =>
          simp only [bindk, iteM_eq, Bool.false_eq_true, if_false, lc2Go_J f (xs := xs)]
          cases lcJ _ xs s3 <;> rfl
        | true =>
          simp only [bindk, iteM_eq, if_true, bnd_eq, calm_eq]
          cases R.calm (it1 ρ2 s3) with
          | exc => rfl
          | stuck => rfl
          | ok es s4 =>
            simp only [bindk]
            by_cases c : es.length ≤ 4096
            · simp only [if_pos c, lc2Go_J f (xs := xs), pure_eq]
            · simp only [if_neg c, stop_eq, binds]
@[simp] theorem ev_lc2 {it : Env → M Ds} {g : Tg} {t : Env → M Bool} {it1 : Env → M Ds} {g1 : Tg} {t1 : Env → M Bool} {e : Env → M D} {vs vs1 : List Nat} {ρ : Env} {s : DS} : mLc2 it g t it1 g1 t1 e vs vs1 ρ s = R.bind (it ρ s) fun ds s => if ds.length ≤ 4095 then mLc2Go g t it1 g1 t1 e vs1 (wipeE ρ vs) ds s else .stuck := by
  simp [mLc2]
theorem lcJ_congr {h h' : α → DS → R Ds} {xs ys : List α} {s s' : DS} (e : xs = ys) (es : s = s') (k : ∀ x, x ∈ ys → ∀ s, h x s = h' x s) : lcJ h xs s = lcJ h' ys s' := by
  subst e; subst es
  induction xs generalizing s with
  | nil => rfl
  | cons x xs ih =>
    unfold lcJ
    rw [k x (.head _)]
    congr 1
    funext o s
    rw [ih fun y hy => k y (.tail _ hy)]
@[simp] theorem lcJ_flat {f : α → Ds} {xs : List α} {s : DS} : lcJ (fun x s => .ok (f x) s) xs s = .ok (xs.flatMap f) s := by
  induction xs with
  | nil => rfl
  | cons x xs ih => unfold lcJ; rw [bindk, ih]; rfl
/-- a dict comprehension whose keys are unlike -/
theorem dcGo_map {g : Tg} {t : Env → M Bool} {ek ev : Env → M D} {ρ : Env} {s : DS} (f : α → D) (kk : α → Key) (vv : α → D) : ∀ {xs : List α} {acc : Dp2}, (∀ x, x ∈ xs → ∃ ρ2, g (f x) ρ = some ρ2 ∧ t ρ2 s = .ok true s ∧ (∃ y, ek ρ2 s = .ok y s ∧ keyOf y = some (kk x)) ∧ ev ρ2 s = .ok (vv x) s) →
    (xs.map kk).Nodup → (∀ x ∈ xs, ∀ p ∈ acc, keyOf p.1 ≠ some (kk x)) → mDcGo g t ek ev ρ acc (xs.map f) s = .ok (acc ++ xs.map fun x => (keyD (kk x), vv x)) s
  | [], acc, _, _, _ => by simp [mDcGo]
  | x :: xs, acc, h, nd, fr => by
    obtain ⟨ρ2, h1, h2, ⟨y, h3, h4⟩, h5⟩ := h x (.head _)
    have nd := List.nodup_cons.mp nd
    rw [List.map_cons]
    unfold mDcGo
    have hp : putD acc (kk x) (vv x) = acc ++ [(keyD (kk x), vv x)] := by
      unfold putD
      rw [if_neg]
      rw [List.any_eq_true]
      rintro ⟨p, hp, e⟩
      exact fr x (.head _) p hp (of_decide_eq_true e)
    refine bnd_of (opt_of h1) (bnd_of (calm_ok h2) ?_)
    rw [if_pos rfl]
    refine bnd_of (calm_ok h3) (bnd_of (calm_ok h5) (bnd_of (opt_of h4) ?_))
    rw [hp, dcGo_map f kk vv (fun z hz => h z (.tail _ hz)) nd.2 fun z hz p hp' => ?_]
    · simp
    · rcases List.mem_append.mp hp' with hp' | hp'
      · exact fr z (.tail _ hz) p hp'
      · rw [List.mem_singleton.mp hp']
        have : keyOf (keyD (kk x)) = some (kk x) := by cases kk x <;> rfl
        rw [this]
        exact fun e => nd.1 (List.mem_map.mpr ⟨z, hz, (Option.some.inj e).symm⟩)
theorem intsOf_f {f : α → Int} : ∀ {xs : List α}, intsOf (xs.map fun x => .int (f x)) = some (xs.map f)
  | [] => rfl
  | x :: xs => by
    show (intsOf (xs.map fun x => D.int (f x))).map (f x :: ·) = _
    rw [intsOf_f]; rfl
theorem blsOf_f {f : α → Bool} : ∀ {xs : List α}, blsOf (xs.map fun x => .bl (f x)) = some (xs.map f)
  | [] => rfl
  | x :: xs => by
    show (blsOf (xs.map fun x => D.bl (f x))).map (f x :: ·) = _
    rw [blsOf_f]; rfl
@[simp] theorem bAll_f {f : α → Bool} {xs : List α} : bAll [.lst (xs.map fun x => .bl (f x))] = some (.bl (xs.all f)) := by
  show (blsOf (xs.map fun x => D.bl (f x))).map (fun bs => D.bl (bs.all id)) = _
  rw [blsOf_f]
  show some (D.bl ((xs.map f).all id)) = _
  rw [List.all_map]; rfl
@[simp] theorem bAny_f {f : α → Bool} {xs : List α} : bAny [.lst (xs.map fun x => .bl (f x))] = some (.bl (xs.any f)) := by
  show (blsOf (xs.map fun x => D.bl (f x))).map (fun bs => D.bl (bs.any id)) = _
  rw [blsOf_f]
  show some (D.bl ((xs.map f).any id)) = _
  rw [List.any_map]; rfl
@[simp] theorem bSum_f {f : α → Int} {xs : List α} : bSum [.lst (xs.map fun x => .int (f x))] = some (.int (xs.map f).sum) := by
  show (intsOf (xs.map fun x => D.int (f x))).map (fun bs => D.int bs.sum) = _
  rw [intsOf_f]; rfl
end
section
variable {c : Prop} [Decidable c] {s : DS}
@[simp] theorem ite_okI {a b : Int} : (if c then R.ok (D.int a) s else R.ok (D.int b) s) = R.ok (D.int (if c then a else b)) s := by split <;> rfl
@[simp] theorem ite_okB {a b : Bool} : (if c then R.ok (D.bl a) s else R.ok (D.bl b) s) = R.ok (D.bl (if c then a else b)) s := by split <;> rfl
@[simp] theorem ite_okb {a b : Bool} : (if c then R.ok a s else R.ok b s) = R.ok (if c then a else b) s := by split <;> rfl
@[simp] theorem ite_okS {a b : D} : (if c then R.ok (some a) s else R.ok (some b) s) = R.ok (some (if c then a else b)) s := by split <;> rfl
@[simp] theorem ite_int {a b : Int} : (if c then D.int a else D.int b) = D.int (if c then a else b) := by split <;> rfl
@[simp] theorem ite_bl {a b : Bool} : (if c then D.bl a else D.bl b) = D.bl (if c then a else b) := by split <;> rfl
@[simp] theorem ite_tup {a b : Ds} : (if c then D.tup a else D.tup b) = D.tup (if c then a else b) := by split <;> rfl
end
/-! reading -/
theorem at_map {α : Type} {f : α → D} {xs : List α} {i : Nat} {x : α} (h : xs[i]? = some x) : L2.atI (xs.map f) (i : Int) = some (f x) := by
  have hi : i < xs.length := by
    by_cases c : i < xs.length
    · exact c
    · rw [List.getElem?_eq_none (by omega)] at h; cases h
  unfold L2.atI L2.ixN
  rw [if_pos (by omega : (0 : Int) ≤ (i : Int)), if_pos (by simpa using hi)]
  simp [h]
@[simp] theorem at_range {f : Nat → D} {n i : Nat} (h : i < n) : L2.atI ((List.range n).map f) (i : Int) = some (f i) := at_map (by simp [h])
@[simp] theorem at_0 {x : D} {xs : Ds} : L2.atI (x :: xs) 0 = some x := by
  have := at_map (f := id) (xs := x :: xs) (i := 0) (x := x) rfl
  simpa using this
@[simp] theorem at_1 {x y : D} {xs : Ds} : L2.atI (x :: y :: xs) 1 = some y := by
  have := at_map (f := id) (xs := x :: y :: xs) (i := 1) (x := y) rfl
  simpa using this
@[simp] theorem at_2 {x y z : D} {xs : Ds} : L2.atI (x :: y :: z :: xs) 2 = some z := by
  have := at_map (f := id) (xs := x :: y :: z :: xs) (i := 2) (x := z) rfl
  simpa using this
/-! cuts -/
theorem drop_min {α : Type} (xs : List α) (a : Nat) : xs.drop (min a xs.length) = xs.drop a := by
  by_cases c : a ≤ xs.length
  · rw [Nat.min_eq_left c]
  · rw [Nat.min_eq_right (by omega), List.drop_length, List.drop_eq_nil_of_le (by omega)]
theorem cut_mid {xs : Ds} {a b : Nat} : cutD xs (some (a : Int)) (some (b : Int)) = (xs.drop a).take (b - a) := by
  unfold cutD
  rw [HT.sIx_nat, HT.sIx_nat, drop_min]
  apply List.ext_getElem?
  intro i
  simp only [List.getElem?_take, List.getElem?_drop]
  by_cases c : i < b - a
  · rw [if_pos c]
    by_cases c2 : i < min b xs.length - min a xs.length
    · rw [if_pos c2]
    · rw [if_neg c2, List.getElem?_eq_none (by omega)]
  · rw [if_neg c, if_neg (by omega)]
theorem cut_from {xs : Ds} {a : Nat} : cutD xs (some (a : Int)) none = xs.drop a := by
  unfold cutD
  rw [HT.sIx_nat, drop_min]
  apply List.ext_getElem?
  intro i
  simp only [List.getElem?_take, List.getElem?_drop]
  by_cases c : i < HT.sIx xs.length xs.length none - min a xs.length
  · rw [if_pos c]
  · rw [if_neg c, List.getElem?_eq_none (by simp [HT.sIx] at c; omega)]
theorem cut_to {xs : Ds} {b : Nat} : cutD xs none (some (b : Int)) = xs.take b := by
  have := cut_mid (xs := xs) (a := 0) (b := b)
  simpa [cutD, HT.sIx] using this
theorem sl_from_t {xs : Ds} {a : Nat} : dSl (.tup xs) (some (a : Int)) none = some (.tup (xs.drop a)) := by rw [← cut_from]; rfl
theorem sl_from_l {xs : Ds} {a : Nat} : dSl (.lst xs) (some (a : Int)) none = some (.lst (xs.drop a)) := by rw [← cut_from]; rfl
theorem sl_to_t {xs : Ds} {b : Nat} : dSl (.tup xs) none (some (b : Int)) = some (.tup (xs.take b)) := by rw [← cut_to]; rfl
theorem sl_to_l {xs : Ds} {b : Nat} : dSl (.lst xs) none (some (b : Int)) = some (.lst (xs.take b)) := by rw [← cut_to]; rfl
theorem sl_mid_t {xs : Ds} {a b : Nat} : dSl (.tup xs) (some (a : Int)) (some (b : Int)) = some (.tup ((xs.drop a).take (b - a))) := by rw [← cut_mid]; rfl
theorem sl_mid_l {xs : Ds} {a b : Nat} : dSl (.lst xs) (some (a : Int)) (some (b : Int)) = some (.lst ((xs.drop a).take (b - a))) := by rw [← cut_mid]; rfl
/-! questions about any value -/
def isI : D → Bool
  | .int _ => true
  | _ => false
def isBt (lo hi : Int) : D → Bool
  | .int i => decide (lo ≤ i) && decide (i ≤ hi)
  | _ => false
def isRow (q n : Int) : D → Bool
  | .tup xs => decide ((xs.length : Int) = n) && xs.all (isBt 0 (q - 1))
  | _ => false
def isFld : D → Bool
  | .int i => decide (i = 2) || (decide (i = 3) || decide (i = 5))
  | _ => false
theorem row_of {q n : Nat} [Pr q] {d : D} (h : isRow q n d = true) : ∃ v : Vec q, Sup n v ∧ d = encV n v := by
  cases d with
  | tup xs =>
    simp only [isRow, Bool.and_eq_true, decide_eq_true_eq, List.all_eq_true] at h
    obtain ⟨hl, ha⟩ := h
    have hl : xs.length = n := by omega
    refine ⟨fun i => match xs[i]? with
      | some (.int z) => toF z
      | _ => 0, fun i hi => ?_, ?_⟩
    · show (match xs[i]? with
        | some (.int z) => toF z
        | _ => 0) = (0 : Fin q)
      rw [List.getElem?_eq_none (by omega)]
    · unfold encV
      congr 1
      apply List.ext_getElem?
      intro i
      by_cases c : i < n
      · rw [List.getElem?_map, List.getElem?_range c]
        obtain ⟨x, hx⟩ : ∃ x, xs[i]? = some x := ⟨_, List.getElem?_eq_getElem (by omega)⟩
        rw [hx]
        have hm := ha x (List.mem_of_getElem? hx)
        cases x with
        | int z =>
          simp only [isBt, Bool.and_eq_true, decide_eq_true_eq] at hm
          show some (D.int z) = some (D.int (((match xs[i]? with
            | some (.int z) => toF z
            | _ => 0 : Fin q).val : Nat) : Int))
          rw [hx]
          simp only
          rw [toF_val, Int.emod_eq_of_lt (by omega) (by omega)]
        | _ => cases hm
      · rw [List.getElem?_eq_none (by omega), List.getElem?_eq_none (by simpa using c)]
  | _ => cases h
@[simp] theorem row_enc {q n : Nat} [Pr q] {v : Vec q} : isRow q n (encV n v) = true := by
  unfold encV isRow
  simp only [List.length_map, List.length_range, decide_true, Bool.true_and, List.all_eq_true]
  intro x hx
  obtain ⟨i, _, rfl⟩ := List.mem_map.mp hx
  have := (v i).isLt
  simp only [isBt, Bool.and_eq_true, decide_eq_true_eq]
  omega
theorem plain_encV {q n : Nat} {v : Vec q} : (encV n v).plain = true := by
  show D.plains _ = true
  generalize List.range n = l
  induction l with
  | nil => rfl
  | cons i l ih => exact ih
theorem plains_map {α : Type} {f : α → D} {xs : List α} (h : ∀ x ∈ xs, (f x).plain = true) : D.plains (xs.map f) = true := by
  induction xs with
  | nil => rfl
  | cons x xs ih =>
    show (D.plain (f x) && D.plains (xs.map f)) = true
    rw [h x (.head _), ih fun y hy => h y (.tail _ hy)]; rfl
theorem plains_all {xs : Ds} (h : ∀ x ∈ xs, x.plain = true) : D.plains xs = true := by
  have := plains_map (f := id) (xs := xs) h
  simpa using this
end RS

namespace RS
open PySem PySem.Spec
def F_is_integer : SM := fun C => (mRet (mIf (mAsB (mBl (mIsa "int" (mPeek 0)))) (mBl (mNotB (mAsB (mBl (mIsa "bool" (mPeek 0)))))) fun _ => pure (.bl false)))
def I_is_integer (T : CT) : Prop := Has T "is_integer" ["thing"] 1 F_is_integer
def F_is_between : SM := fun C => (mRet (mIf (mAsB (mCallD (lenG 1 (C "is_integer")) (mCons (mVar 0) mNil))) (mBl (mChain .LtE .LtE (mPeek 1) (mPeek 0) (mPeek 2))) fun _ => pure (.bl false)))
def I_is_between (T : CT) : Prop := Has T "is_between" ["thing", "least", "most"] 3 F_is_between ∧ I_is_integer T
def F_is_row_value : SM := fun C => (mRet (mIf (mAsB (mBl (mIsa "tuple" (mPeek 2)))) (mIf (mAsB (mBl (mCmpB .Eq (mCall bLen (mCons (mPeek 2) mNil)) (mPeek 1)))) (mCall bAll (mCons (fun ρ => (mLc (mSeqI (mVar 2)) (gN 3) mYes (mCallD (lenG 3 (C "is_between")) (mCons (mVar 3) (mCons (mC (.int (0))) (mCons (mBin .Sub (mPeek 0) (mC (.int (1)))) mNil)))) [3]) ρ >>= fun ds => pure (.lst ds)) mNil)) fun _ => pure (.bl false)) fun _ => pure (.bl false)))
def I_is_row_value (T : CT) : Prop := Has T "is_row_value" ["q", "n", "thing", "mark"] 3 F_is_row_value ∧ I_is_between T
def F_is_field_value : SM := fun C => (mRet (mIf (mAsB (mCallD (lenG 1 (C "is_integer")) (mCons (mVar 0) mNil))) (mBl (mCmpB .In (mPeek 0) (mC (.tup [(.int (2)), (.int (3)), (.int (5))])))) fun _ => pure (.bl false)))
def I_is_field_value (T : CT) : Prop := Has T "is_field_value" ["thing"] 1 F_is_field_value ∧ I_is_integer T
def F_need_field : SM := fun C => (mIf (mNotB (mTru (mCallD (lenG 1 (C "is_field_value")) (mCons (mVar 0) mNil)))) (fun _ => M.stop) mNext)
def I_need_field (T : CT) : Prop := Has T "need_field" ["q"] 1 F_need_field ∧ I_is_field_value T
def F_need_length : SM := fun C => (mIf (mNotB (mTru (mCallD (lenG 3 (C "is_between")) (mCons (mVar 0) (mCons (mC (.int (2))) (mCons (mC (.int (12))) mNil)))))) (fun _ => M.stop) mNext)
def I_need_length (T : CT) : Prop := Has T "need_length" ["n"] 1 F_need_length ∧ I_is_between T
def F_need_row : SM := fun C => (mIf (mNotB (mTru (mCallD (lenG 3 (C "is_row_value")) (mCons (mVar 0) (mCons (mVar 1) (mCons (mVar 2) mNil)))))) (fun _ => M.stop) mNext)
def I_need_row (T : CT) : Prop := Has T "need_row" ["q", "n", "row"] 3 F_need_row ∧ I_is_row_value T
def F_noughts : SM := fun C => (mRet (mBin .Mult (mTup (mCons (mC (.int (0))) mNil)) (mPeek 0)))
def I_noughts (T : CT) : Prop := Has T "noughts" ["n"] 1 F_noughts
def F_unit_row : SM := fun C => (mRet (mCall bTuple (mCons (fun ρ => (mLc (mRngI1 (mPeek 0)) (gN 2) mYes (mIf (mCmpB .Eq (mPeek 2) (mPeek 1)) (mC (.int (1))) (mC (.int (0)))) [2]) ρ >>= fun ds => pure (.lst ds)) mNil)))
def I_unit_row (T : CT) : Prop := Has T "unit_row" ["n", "at", "place"] 2 F_unit_row
def F_unit_rows : SM := fun C => (mRet (fun ρ => (mLc (mRngI1 (mPeek 0)) (gN 1) mYes (mCallD (lenG 2 (C "unit_row")) (mCons (mVar 0) (mCons (mVar 1) mNil))) [1]) ρ >>= fun ds => pure (.lst ds)))
def I_unit_rows (T : CT) : Prop := Has T "unit_rows" ["n", "at"] 1 F_unit_rows ∧ I_unit_row T
def F_row_sum : SM := fun C => (mRet (mCall bTuple (mCons (fun ρ => (mLc (mZipI (mVar 1) (mVar 2)) (gTp (gCn (gN 4) (gCn (gN 5) gNl)) 2) mYes (mBin .Mod (mBin .Add (mPeek 4) (mBin .Mult (mPeek 3) (mPeek 5))) (mPeek 0)) [4, 5]) ρ >>= fun ds => pure (.lst ds)) mNil)))
def I_row_sum (T : CT) : Prop := Has T "row_sum" ["q", "row", "other", "many", "a", "b"] 4 F_row_sum
def F_row_times : SM := fun C => (mRet (mCall bTuple (mCons (fun ρ => (mLc (mSeqI (mVar 1)) (gN 3) mYes (mBin .Mod (mBin .Mult (mPeek 2) (mPeek 3)) (mPeek 0)) [3]) ρ >>= fun ds => pure (.lst ds)) mNil)))
def I_row_times (T : CT) : Prop := Has T "row_times" ["q", "row", "many", "mark"] 3 F_row_times
def F_meet : SM := fun C => (mRet (mBin .Mod (mCall bSum (mCons (fun ρ => (mLc (mZipI (mVar 1) (mVar 2)) (gTp (gCn (gN 3) (gCn (gN 4) gNl)) 2) mYes (mBin .Mult (mPeek 3) (mPeek 4)) [3, 4]) ρ >>= fun ds => pure (.lst ds)) mNil)) (mPeek 0)))
def I_meet (T : CT) : Prop := Has T "meet" ["q", "row", "other", "a", "b"] 3 F_meet
def F_undone_mark : SM := fun C => (mRet (mIxM (fun ρ => (mLc (mRngI2 (mC (.int (1))) (mPeek 0)) (gN 2) (mCmpB .Eq (mBin .Mod (mBin .Mult (mPeek 1) (mPeek 2)) (mPeek 0)) (mC (.int (1)))) (mVar 2) [2]) ρ >>= fun ds => pure (.lst ds)) (mC (.int (0)))))
def I_undone_mark (T : CT) : Prop := Has T "undone_mark" ["q", "mark", "other"] 2 F_undone_mark
def F_first_place : SM := fun C => (mSeq (mFor (mEnumI (mVar 0)) (gTp (gCn (gN 1) (gCn (gN 2) gNl)) 2) (mIf (mCmpB .NotEq (mPeek 2) (mC (.int (0)))) (mRet (mVar 1)) mNext))
    (mRet (mC .non)))
def I_first_place (T : CT) : Prop := Has T "first_place" ["row", "place", "mark"] 1 F_first_place
def F_plain : SM := fun C => (mSeq (mSetD (fun _ => pure []) 2)
    (mSeq (mFor (mSeqI (mVar 1)) (gN 3) (mSeq (mSeq (mFrz 2) (mFor (mItemsI (mVar 2)) (gTp (gCn (gN 5) (gCn (gN 6) gNl)) 2) (mAsg (mCallD (lenG 4 (C "row_sum")) (mCons (mVar 0) (mCons (mVar 3) (mCons (mVar 6) (mCons (mNeg (mIxM (mPeek 3) (mPeek 5))) mNil))))) (gN 3))))
    (mSeq (mAsg (mCallD (lenG 1 (C "first_place")) (mCons (mVar 3) mNil)) (gN 4))
    (mIf (mCmpB .IsNot (mPeek 4) (mC .non)) (mSeq (mAsg (mCallD (lenG 3 (C "row_times")) (mCons (mVar 0) (mCons (mVar 3) (mCons (mCallD (lenG 2 (C "undone_mark")) (mCons (mVar 0) (mCons (mIxM (mPeek 3) (mPeek 4)) mNil))) mNil)))) (gN 3))
    (mSeq (mSeq (mFrz 2) (mSetD (mDc (mItemsI (mVar 2)) (gTp (gCn (gN 5) (gCn (gN 6) gNl)) 2) mYes (mVar 5) (mCallD (lenG 4 (C "row_sum")) (mCons (mVar 0) (mCons (mVar 6) (mCons (mVar 3) (mCons (mNeg (mIxM (mPeek 6) (mPeek 4))) mNil))))) [5, 6]) 2))
    (mPut 2 (mVar 3) (mPeek 4)))) mNext))))
    (mRet (mCall bTuple (mCons (fun ρ => (mLc (mSeqI (fun ρ => (mCallF (dSorted false) (mCons (mPeek 2) mNil)) ρ >>= fun ds => pure (.lst ds))) (gN 5) mYes (mIxM (mPeek 2) (mPeek 5)) [5]) ρ >>= fun ds => pure (.lst ds)) mNil)))))
def I_plain (T : CT) : Prop := Has T "plain" ["q", "rows", "found", "row", "head", "place", "other"] 2 F_plain ∧ I_first_place T ∧ I_row_sum T ∧ I_row_times T ∧ I_undone_mark T
def F_is_plain_value : SM := fun C => (mSeq (mIf (mOrB (mNotB (mTru (mBl (mIsa "tuple" (mPeek 2))))) (mNotB (mTru (mCall bAll (mCons (fun ρ => (mLc (mSeqI (mVar 2)) (gN 3) mYes (mCallD (lenG 3 (C "is_row_value")) (mCons (mVar 0) (mCons (mVar 1) (mCons (mVar 3) mNil)))) [3]) ρ >>= fun ds => pure (.lst ds)) mNil))))) (mRet (mC (.bl false))) mNext)
    (mRet (mBl (mCmpB .Eq (mCallD (lenG 2 (C "plain")) (mCons (mVar 0) (mCons (mVar 2) mNil))) (mPeek 2)))))
def I_is_plain_value (T : CT) : Prop := Has T "is_plain_value" ["q", "n", "thing", "row"] 3 F_is_plain_value ∧ I_is_row_value T ∧ I_plain T
def F_free_number : SM := fun C => (mRet (mCall bLen (mCons (mCallD (lenG 2 (C "plain")) (mCons (mVar 0) (mCons (mVar 1) mNil))) mNil)))
def I_free_number (T : CT) : Prop := Has T "free_number" ["q", "rows"] 2 F_free_number ∧ I_plain T
def F_are_free : SM := fun C => (mRet (mBl (mCmpB .Eq (mCallD (lenG 2 (C "free_number")) (mCons (mVar 0) (mCons (mVar 1) mNil))) (mCall bLen (mCons (mPeek 1) mNil)))))
def I_are_free (T : CT) : Prop := Has T "are_free" ["q", "rows"] 2 F_are_free ∧ I_free_number T
def F_vanishing : SM := fun C => (mSeq (mAsg (mCallD (lenG 2 (C "plain")) (mCons (mVar 0) (mCons (mVar 1) mNil))) (gN 3))
    (mSeq (mSetV (mLc (mSeqI (mVar 3)) (gN 5) mYes (mCallD (lenG 1 (C "first_place")) (mCons (mVar 5) mNil)) [5]) 4)
    (mSeq (mSetO (mLst mNil) 6)
    (mSeq (mFor (mRngI1 (mPeek 2)) (gN 7) (mIf (mCmpB .NotIn (mPeek 7) (mPeek 4)) (mSeq (mSetD (mDc (mZipI (mVar 4) (mVar 3)) (gTp (gCn (gN 9) (gCn (gN 5) gNl)) 2) mYes (mVar 9) (mBin .Mod (mNeg (mIxM (mPeek 5) (mPeek 7))) (mPeek 0)) [9, 5]) 8)
    (mSeq (mPut 8 (mC (.int (1))) (mPeek 7))
    (mApp 6 (mCall bTuple (mCons (fun ρ => (mLc (mRngI1 (mPeek 2)) (gN 10) mYes (mGet (mPeek 8) (mVar 10) (mC (.int (0)))) [10]) ρ >>= fun ds => pure (.lst ds)) mNil))))) mNext))
    (mSeq (mFrz 6) (mRet (mCallD (lenG 2 (C "plain")) (mCons (mVar 0) (mCons (mVar 6) mNil)))))))))
def I_vanishing (T : CT) : Prop := Has T "vanishing" ["q", "rows", "n", "found", "heads", "row", "answers", "place", "told", "head", "at"] 3 F_vanishing ∧ I_first_place T ∧ I_plain T
def F_all_sums : SM := fun C => (mSeq (mAsg (fun ρ => (mLst (mCons (mCallD (lenG 1 (C "noughts")) (mCons (mVar 2) mNil)) mNil)) ρ >>= fun ds => pure (.lst ds)) (gN 3))
    (mSeq (mFor (mSeqI (mVar 1)) (gN 4) (mSetV (mLc2 (mSeqI (mVar 3)) (gN 5) mYes (mRngI1 (mPeek 0)) (gN 6) mYes (mCallD (lenG 4 (C "row_sum")) (mCons (mVar 0) (mCons (mVar 5) (mCons (mVar 4) (mCons (mVar 6) mNil))))) [5, 6] [6]) 3))
    (mRet (mVar 3))))
def I_all_sums (T : CT) : Prop := Has T "all_sums" ["q", "rows", "n", "found", "row", "other", "many"] 3 F_all_sums ∧ I_noughts T ∧ I_row_sum T
def F_is_book_value : SM := fun C => (mSeq (mIf (mOrB (mNotB (mTru (mBl (mIsa "tuple" (mPeek 0))))) (mOrB (mCmpB .NotEq (mCall bLen (mCons (mPeek 0) mNil)) (mC (.int (3)))) (mNotB (mTru (mCallD (lenG 1 (C "is_field_value")) (mCons (mIxM (mPeek 0) (mC (.int (0)))) mNil)))))) (mRet (mC (.bl false))) mNext)
    (mRet (mIf (mAsB (mCallD (lenG 3 (C "is_between")) (mCons (mIxM (mPeek 0) (mC (.int (1)))) (mCons (mC (.int (2))) (mCons (mC (.int (12))) mNil))))) (mCallD (lenG 3 (C "is_plain_value")) (mCons (mIxM (mPeek 0) (mC (.int (0)))) (mCons (mIxM (mPeek 0) (mC (.int (1)))) (mCons (mIxM (mPeek 0) (mC (.int (2)))) mNil)))) fun _ => pure (.bl false))))
def I_is_book_value (T : CT) : Prop := Has T "is_book_value" ["thing"] 1 F_is_book_value ∧ I_is_between T ∧ I_is_field_value T ∧ I_is_plain_value T
def F_need_book : SM := fun C => (mIf (mNotB (mTru (mCallD (lenG 1 (C "is_book_value")) (mCons (mVar 0) mNil)))) (fun _ => M.stop) mNext)
def I_need_book (T : CT) : Prop := Has T "need_book" ["book"] 1 F_need_book ∧ I_is_book_value T
def F_raw_partner : SM := fun C => (mSeq (mAsg (mVar 0) (gTp (gCn (gN 1) (gCn (gN 2) (gCn (gN 3) gNl))) 3))
    (mRet (mTup (mCons (mVar 1) (mCons (mVar 2) (mCons (mCallD (lenG 3 (C "vanishing")) (mCons (mVar 1) (mCons (mVar 3) (mCons (mVar 2) mNil)))) mNil))))))
def I_raw_partner (T : CT) : Prop := Has T "raw_partner" ["book", "q", "n", "basis"] 1 F_raw_partner ∧ I_vanishing T
def F_is_word_of : SM := fun C => (mRet (mCall bAll (mCons (fun ρ => (mLc (mSeqI (mIxM (mCallD (lenG 1 (C "raw_partner")) (mCons (mVar 0) mNil)) (mC (.int (2))))) (gN 2) mYes (mBl (mCmpB .Eq (mCallD (lenG 3 (C "meet")) (mCons (mIxM (mPeek 0) (mC (.int (0)))) (mCons (mVar 1) (mCons (mVar 2) mNil)))) (mC (.int (0))))) [2]) ρ >>= fun ds => pure (.lst ds)) mNil)))
def I_is_word_of (T : CT) : Prop := Has T "is_word_of" ["book", "row", "other"] 2 F_is_word_of ∧ I_meet T ∧ I_raw_partner T
def F_raw_within : SM := fun C => (mSeq (mAsg (mVar 0) (gTp (gCn (gN 2) (gCn (gN 3) (gCn (gN 4) gNl))) 3))
    (mSeq (mSetV (mLc (mRngI1 (mPeek 3)) (gN 6) (mCmpB .NotIn (mPeek 6) (mPeek 1)) (mCallD (lenG 2 (C "unit_row")) (mCons (mVar 3) (mCons (mVar 6) mNil))) [6]) 5)
    (mRet (mTup (mCons (mVar 2) (mCons (mVar 3) (mCons (mCallD (lenG 3 (C "vanishing")) (mCons (mVar 2) (mCons (mBin .Add (fun ρ => (mCallF bList (mCons (mIxM (mCallD (lenG 1 (C "raw_partner")) (mCons (mVar 0) mNil)) (mC (.int (2)))) mNil)) ρ >>= fun ds => pure (.lst ds)) (mPeek 5)) (mCons (mVar 3) mNil)))) mNil)))))))
def I_raw_within (T : CT) : Prop := Has T "raw_within" ["book", "places", "q", "n", "basis", "barred", "place"] 2 F_raw_within ∧ I_raw_partner T ∧ I_unit_row T ∧ I_vanishing T
def F_is_paper : SM := fun C => (mRet (mIf (mAsB (mBl (mIsa "tuple" (mPeek 0)))) (mIf (mAsB (mBl (mCmpB .Eq (mCall bLen (mCons (mPeek 0) mNil)) (mPeek 2)))) (mIf (mAsB (mBl (mIsa "str" (mIxM (mPeek 0) (mC (.int (0))))))) (mBl (mCmpB .Eq (mIxM (mPeek 0) (mC (.int (0)))) (mPeek 1))) fun _ => pure (.bl false)) fun _ => pure (.bl false)) fun _ => pure (.bl false)))
def I_is_paper (T : CT) : Prop := Has T "is_paper" ["thing", "word", "many"] 3 F_is_paper
def F_mix : SM := fun C => (mSeq (mAsg (mCallD (lenG 1 (C "noughts")) (mCons (mVar 3) mNil)) (gN 4))
    (mSeq (mFor (mZipI (mVar 1) (mVar 2)) (gTp (gCn (gN 5) (gCn (gN 6) gNl)) 2) (mAsg (mCallD (lenG 4 (C "row_sum")) (mCons (mVar 0) (mCons (mVar 4) (mCons (mVar 6) (mCons (mVar 5) mNil))))) (gN 4)))
    (mRet (mVar 4))))
def I_mix (T : CT) : Prop := Has T "mix" ["q", "marks", "rows", "n", "found", "many", "row"] 4 F_mix ∧ I_noughts T ∧ I_row_sum T
end RS

/-! what the field functions tell -/
namespace RS
open PySem PySem.Spec LA L2
section
variable {T : CT} {k : Nat} {s : DS}
theorem ev_is_integer (h : I_is_integer T) {d : D} (hp : d.plain = true) : callD T (k + 1) "is_integer" [d] s = .ok (.bl (isI d)) s := by
  rw [callD_has h rfl]
  unfold F_is_integer
  cases d <;> first | rfl | cases hp
theorem ev_is_integer_i (h : I_is_integer T) {i : Int} : callD T (k + 1) "is_integer" [.int i] s = .ok (.bl true) s := ev_is_integer h rfl
theorem ev_is_between (h : I_is_between T) {d : D} {lo hi : Int} (hp : d.plain = true) : callD T (k + 2) "is_between" [d, .int lo, .int hi] s = .ok (.bl (isBt lo hi d)) s := by
  obtain ⟨h1, h2⟩ := h
  rw [callD_has h1 rfl]
  unfold F_is_between
  cases d with
  | int i =>
    simp [ev_is_integer_i h2, isBt]
  | _ =>
    simp [ev_is_integer h2, hp, isI, isBt]
    try rfl
theorem ev_is_row_value (h : I_is_row_value T) {d : D} {q : Int} {n : Nat} (hp : d.plain = true) (hn : Lm n) : callD T (k + 3) "is_row_value" [.int q, .int n, d] s = .ok (.bl (isRow q n d)) s := by
  obtain ⟨h1, h2⟩ := h
  rw [callD_has h1 rfl]
  unfold F_is_row_value
  cases d with
  | tup xs =>
    have hp : D.plains xs = true := hp
    by_cases c : xs.length = n
    · have key : ∀ x ∈ xs, x.plain = true := plains_mem hp
      have e : mLcGo (gN 3) mYes (mCallD (lenG 3 (callD T (k + 2) "is_between")) (mCons (mVar 3) (mCons (mC (.int (0))) (mCons (mBin .Sub (mPeek 0) (mC (.int (1)))) mNil)))) [some (.val (.int q)), some (.val (.int n)), some (.val (.tup xs)), none] xs s = .ok (xs.map fun d => .bl (isBt 0 (q - 1) d)) s := by
        have z := lcGo_F (g := gN 3) (t := mYes) (e := mCallD (lenG 3 (callD T (k + 2) "is_between")) (mCons (mVar 3) (mCons (mC (.int (0))) (mCons (mBin .Sub (mPeek 0) (mC (.int (1)))) mNil)))) (ρ := [some (.val (.int q)), some (.val (.int n)), some (.val (.tup xs)), none]) id (xs := xs) (s := s)
        rw [List.map_id] at z
        rw [z]
        refine Eq.trans (lcF_congr rfl rfl (h' := fun x s => .ok (some (.bl (isBt 0 (q - 1) x))) s) fun x hx s => ?_) lcF_map
        simp [ev_is_between h2 (key x hx)]
      simp [c, hn, e, isRow]
    · have c' : ((xs.length : Int) = (n : Int)) = False := eq_false (by omega)
      simp [c', isRow]
  | non => rfl
  | bl b => rfl
  | int i => rfl
  | str x => rfl
  | lst xs => rfl
  | dic xs => rfl
  | _ => cases hp
theorem ev_is_field_value (h : I_is_field_value T) {d : D} (hp : d.plain = true) : callD T (k + 2) "is_field_value" [d] s = .ok (.bl (isFld d)) s := by
  obtain ⟨h1, h2⟩ := h
  rw [callD_has h1 rfl]
  unfold F_is_field_value
  cases d with
  | int i =>
    have e : dCmp .In (.int i) (.tup [.int 2, .int 3, .int 5]) = some (decide (2 = i) || (decide (3 = i) || (decide (5 = i) || false))) := congrArg some rfl
    simp [ev_is_integer_i h2, isFld, e]
    simp only [eq_comm (a := (2 : Int)), eq_comm (a := (3 : Int)), eq_comm (a := (5 : Int))]
  | _ =>
    simp [ev_is_integer h2, hp, isI, isFld]
    try rfl
end
section
variable {T : CT} {k : Nat} {s : DS} {q n : Nat} [Pr q]
theorem fld_q : isFld (.int (q : Int)) = true := by
  rename_i p
  rcases p.h with e | e | e <;> subst e <;> rfl
theorem ev_need_field (h : I_need_field T) : callD T (k + 3) "need_field" [.int q] s = .ok .non s := by
  obtain ⟨h1, h2⟩ := h
  rw [callD_has h1 rfl]
  unfold F_need_field
  simp [ev_is_field_value h2 (d := .int q) rfl, fld_q]
theorem ev_need_length (h : I_need_length T) (h2 : 2 ≤ n) (h3 : n ≤ 12) : callD T (k + 3) "need_length" [.int n] s = .ok .non s := by
  obtain ⟨h1, h4⟩ := h
  rw [callD_has h1 rfl]
  unfold F_need_length
  have : isBt 2 12 (.int n) = true := by simp [isBt]; omega
  simp [ev_is_between h4 (d := .int n) rfl, this]
theorem ev_need_row (h : I_need_row T) (hn : Lm n) (v : Vec q) : callD T (k + 4) "need_row" [.int q, .int n, encV n v] s = .ok .non s := by
  obtain ⟨h1, h4⟩ := h
  rw [callD_has h1 rfl]
  unfold F_need_row
  simp [ev_is_row_value h4 (d := encV n v) plain_encV hn]
theorem ev_row_sum (h : I_row_sum T) (hn : Lm n) (u w : Vec q) (m : Int) :
    callD T (k + 1) "row_sum" [.int q, encV n u, encV n w, .int m] s = .ok (encV n fun i => u i + toF m * w i) s := by
  rw [callD_has h rfl]
  unfold F_row_sum encV
  simp [hn]
theorem ev_row_times (h : I_row_times T) (hn : Lm n) (u : Vec q) (m : Int) :
    callD T (k + 1) "row_times" [.int q, encV n u, .int m] s = .ok (encV n fun i => toF m * u i) s := by
  rw [callD_has h rfl]
  unfold F_row_times encV
  simp [hn]
theorem dot_sum {u w : Vec q} : ∀ {n : Nat}, (toF ((List.range n).map fun i => (((u i).val : Nat) : Int) * (((w i).val : Nat) : Int)).sum : Fin q) = dot n u w
  | 0 => by simp [dot, sumF]
  | n + 1 => by
    rw [List.range_succ, List.map_append, List.sum_append]
    rw [toF_add, dot_sum (n := n)]
    simp [dot, sumF]
theorem ev_meet (h : I_meet T) (hn : Lm n) (u w : Vec q) :
    callD T (k + 1) "meet" [.int q, encV n u, encV n w] s = .ok (.int ((dot n u w).val : Nat)) s := by
  rw [callD_has h rfl]
  unfold F_meet encV
  simp [hn, dot_sum]
theorem ev_noughts (h : I_noughts T) (hn : n ≤ 1000) : callD T (k + 1) "noughts" [.int n] s = .ok (encV n (fun _ => (0 : Fin q))) s := by
  rw [callD_has h rfl]
  unfold F_noughts
  have e : dBin .Mult (.tup [.int 0]) (.int n) = some (.tup (List.replicate n (.int 0))) := by
    rw [mul_tup ⟨by omega, by omega, by simp⟩]
    simp
  simp [e, encV]
  congr 1
  refine List.ext_getElem (by simp) fun i h1 h2 => by simp
theorem unit_val {i j : Nat} : ((((unit j : Vec q) i).val : Nat) : Int) = if (i : Int) = (j : Int) then 1 else 0 := by
  unfold unit
  by_cases c : i = j
  · subst c
    have := Pr.two (q := q)
    rw [if_pos rfl, if_pos rfl, ← toF_one, toF_val, Int.emod_eq_of_lt (by omega) (by omega)]
  · rw [if_neg c, if_neg (by omega)]; rfl
theorem ev_unit_row (h : I_unit_row T) (hn : Lm n) (j : Nat) : callD T (k + 1) "unit_row" [.int n, .int (j : Int)] s = .ok (encV n (unit j : Vec q)) s := by
  rw [callD_has h rfl]
  unfold F_unit_row encV
  simp [hn, unit_val]
theorem ev_unit_rows (h : I_unit_rows T) (hn : Lm n) : callD T (k + 2) "unit_rows" [.int n] s = .ok (.lst ((List.range n).map fun j => encV n (unit j : Vec q))) s := by
  obtain ⟨h1, h2⟩ := h
  rw [callD_has h1 rfl]
  unfold F_unit_rows
  simp [hn, ev_unit_row (q := q) h2 hn]
theorem ev_undone_mark (h : I_undone_mark T) {a : Fin q} (ha : a ≠ 0) : callD T (k + 1) "undone_mark" [.int q, .int ((a.val : Nat) : Int)] s = .ok (.int (((inv a).val : Nat) : Int)) s := by
  have key : ∀ b : Fin q, b * a = 1 → callD T (k + 1) "undone_mark" [.int q, .int ((a.val : Nat) : Int)] s = .ok (.int ((b.val : Nat) : Int)) s → callD T (k + 1) "undone_mark" [.int q, .int ((a.val : Nat) : Int)] s = .ok (.int (((inv a).val : Nat) : Int)) s := fun b hb e => by
    rw [← inv_uniq hb ha]; exact e
  rename_i p
  rcases p.h with e | e | e
  · subst e
    match a, ha with
    | ⟨0, _⟩, ha => exact absurd rfl ha
    | ⟨1, _⟩, ha => exact key 1 rfl (by rw [callD_has h rfl]; kernel_rfl)
  · subst e
    match a, ha with
    | ⟨0, _⟩, ha => exact absurd rfl ha
    | ⟨1, _⟩, ha => exact key 1 rfl (by rw [callD_has h rfl]; kernel_rfl)
    | ⟨2, _⟩, ha => exact key 2 rfl (by rw [callD_has h rfl]; kernel_rfl)
  · subst e
    match a, ha with
    | ⟨0, _⟩, ha => exact absurd rfl ha
    | ⟨1, _⟩, ha => exact key 1 rfl (by rw [callD_has h rfl]; kernel_rfl)
    | ⟨2, _⟩, ha => exact key 3 rfl (by rw [callD_has h rfl]; kernel_rfl)
    | ⟨3, _⟩, ha => exact key 2 rfl (by rw [callD_has h rfl]; kernel_rfl)
    | ⟨4, _⟩, ha => exact key 4 rfl (by rw [callD_has h rfl]; kernel_rfl)
/-- a place, or none -/
def encO : Option Nat → D
  | some i => .int (i : Int)
  | none => .non
theorem ev_first_place (h : I_first_place T) (v : Vec q) : callD T (k + 1) "first_place" [encV n v] s = .ok (encO (first n v)) s := by
  rw [callD_has h rfl]
  unfold F_first_place encV
  simp
  rcases loop_ret (g := gTp (gCn (gN 1) (gCn (gN 2) gNl)) 2) (b := mIf (mCmpB .NotEq (mPeek 2) (mC (.int 0))) (mRet (mVar 1)) mNext) (enc := fun i => D.tup [.int ((i : Nat) : Int), .int (((v i).val : Nat) : Int)]) (s := s)
    (fun ρ => ∃ d a b, ρ = [d, a, b]) (fun i => decide (v i ≠ 0)) (fun i => .int (i : Int)) (xs := List.range n) (ρ := [some (.val (.tup ((List.range n).map fun i => .int (((v i).val : Nat) : Int)))), none, none]) (fun i hi ρ hρ => by
      obtain ⟨d, a, b, rfl⟩ := hρ
      refine ⟨_, by simp; rfl, ?_⟩
      by_cases c : v i = 0
      · right; simp [c]
      · left; simp [c]) ⟨_, _, _, rfl⟩ with ⟨i, e1, e2⟩ | ⟨e1, ρ', e2, e3⟩
  · have e : first n v = some i := e1
    rw [e2, e]
    simp [encO]
  · have e : first n v = none := e1
    rw [e2, e]
    simp [encO]
end
end RS

/-! plain tuples -/
namespace RS
open PySem PySem.Spec LA L2
section
variable {T : CT} {k : Nat} {s : DS} {q n : Nat} [Pr q]
def prD (n : Nat) (p : Nat × Vec q) : D := .tup [.int (p.1 : Int), encV n p.2]
def encP (n : Nat) (P : Sys q) : Dp2 := P.map fun p => (.int (p.1 : Int), encV n p.2)
@[simp] theorem items_P {P : Sys q} : dItems (.dic (encP n P)) = some (P.map (prD n)) := by
  show some ((encP n P).map pairD) = _
  unfold encP
  rw [List.map_map]; rfl
theorem ix_encV {v : Vec q} {i : Nat} (h : i < n) : dIxM (encV n v) (.int (i : Int)) s = .ok (.int (((v i).val : Nat) : Int)) s := by
  unfold encV
  simp [h]
def redE (q n : Nat) [Pr q] (b c o4 : Option Sl) (v : Vec q) (ρ : Env) : Prop := ∃ o5 o6, ρ = [some (.val (.int q)), b, c, some (.val (encV n v)), o4, o5, o6]
def redB (C : Tab) : MS := mAsg (mCallD (lenG 4 (C "row_sum")) (mCons (mVar 0) (mCons (mVar 3) (mCons (mVar 6) (mCons (mNeg (mIxM (mPeek 3) (mPeek 5))) mNil))))) (gN 3)
theorem red_step (h : I_row_sum T) (hn : Lm n) {p : Nat × Vec q} (hp : p.1 < n) {v : Vec q} {b c o4 : Option Sl} {ρ : Env} (hρ : redE q n b c o4 v ρ) :
    Wr (R.bind (ofO (gTp (gCn (gN 5) (gCn (gN 6) gNl)) 2 (prD n p) ρ) s) fun ρ1 s => redB (callD T (k + 1)) ρ1 s) s (redE q n b c o4 fun i => v i + -v p.1 * p.2 i) := by
  obtain ⟨o5, o6, rfl⟩ := hρ
  simp [redB, redE, prD, ix_encV hp, ev_row_sum h hn]
theorem red_ev (h : I_row_sum T) (hn : Lm n) {P : Sys q} (hP : ∀ p ∈ P, p.1 < n) {v : Vec q} {b c o4 o5 o6 : Option Sl} : Wr (mLoop (gTp (gCn (gN 5) (gCn (gN 6) gNl)) 2) (redB (callD T (k + 1)))
    (P.map (prD n)) [some (.val (.int q)), b, c, some (.val (encV n v)), o4, o5, o6] s) s (redE q n b c o4 (red P v)) := by
  unfold red
  exact loop_foldW (redE q n b c o4) _ (fun p hp v ρ hρ => red_step h hn (hP p hp) hρ) ⟨_, _, rfl⟩
theorem heads_keys {P : Sys q} (nd : (P.map (·.1)).Nodup) : (P.map fun p => (Sum.inl (p.1 : Int) : Key)).Nodup := by
  have : (P.map fun p => (Sum.inl (p.1 : Int) : Key)) = (P.map (·.1)).map fun i : Nat => (Sum.inl (i : Int) : Key) := by rw [List.map_map]; rfl
  rw [this]
  refine List.Pairwise.map _ (fun a b h e => h ?_) nd
  injection e with e
  omega
/-- the other rows, made new -/
theorem dc_ev (h : I_row_sum T) (hn : Lm n) {P : Sys q} (nd : (P.map (·.1)).Nodup) {r : Vec q} {j : Nat} (hj : j < n) {b c : Option Sl} : mDcGo (gTp (gCn (gN 5) (gCn (gN 6) gNl)) 2) mYes (mVar 5) (mCallD (lenG 4 (callD T (k + 1) "row_sum")) (mCons (mVar 0) (mCons (mVar 6) (mCons (mVar 3) (mCons (mNeg (mIxM (mPeek 6) (mPeek 4))) mNil)))))
    [some (.val (.int q)), b, c, some (.val (encV n r)), some (.val (.int (j : Int))), none, none] [] (P.map (prD n)) s = .ok (encP n (P.map fun p => (p.1, fun i => p.2 i + -p.2 j * r i))) s := by
  rw [dcGo_map (prD n) (fun p => .inl (p.1 : Int)) (fun p => encV n fun i => p.2 i + -p.2 j * r i) (fun p hp => ?_) (heads_keys nd) (by simp)]
  · unfold encP
    rw [List.nil_append, List.map_map]
    rfl
  · refine ⟨[some (.val (.int q)), b, c, some (.val (encV n r)), some (.val (.int (j : Int))), some (.val (.int (p.1 : Int))), some (.val (encV n p.2))], ?_, ?_, ?_, ?_⟩
    · simp [prD]
    · simp
    · simp
    · simp [ix_encV hj, ev_row_sum h hn]
theorem put_P {P : Sys q} {j : Nat} {r : Vec q} (hf : ∀ p ∈ P, p.1 ≠ j) (hl : P.length < lim) : dPut (.dic (encP n P)) (.int (j : Int)) (encV n r) = some (.dic (encP n (P ++ [(j, r)]))) := by
  have hp : putD (encP n P) (.inl (j : Int)) (encV n r) = encP n (P ++ [(j, r)]) := by
    unfold putD
    rw [if_neg]
    · unfold encP
      rw [List.map_append]; rfl
    · rw [List.any_eq_true]
      rintro ⟨x, hx, e⟩
      obtain ⟨p, hp, rfl⟩ := List.mem_map.mp hx
      have e := of_decide_eq_true e
      simp at e
      exact hf p hp (by omega)
  show (keyOf (.int (j : Int))).bind (fun k => if (encP n P).length < lim then some (D.dic (putD (encP n P) k (encV n r))) else none) = _
  rw [key_int]
  show (if (encP n P).length < lim then some (D.dic (putD (encP n P) (.inl (j : Int)) (encV n r))) else none) = _
  rw [if_pos (by unfold encP; rw [List.length_map]; exact hl), hp]
theorem len_P {P : Sys q} : (encP n P).length = P.length := by unfold encP; simp
theorem ints_P {P : Sys q} : intsOf ((encP n P).map (·.1)) = some ((P.map (·.1)).map fun i : Nat => (i : Int)) := by
  unfold encP
  rw [List.map_map, List.map_map]
  exact intsOf_f (f := fun p : Nat × Vec q => (p.1 : Int))
theorem sort_P {P : Sys q} (nd : (P.map (·.1)).Nodup) : sortBy ltI ((P.map (·.1)).map fun i : Nat => (i : Int)) = (sortP P).map fun p => (p.1 : Int) := by
  have p1 : ((sortP P).map fun p => (p.1 : Int)).Perm ((P.map (·.1)).map fun i : Nat => (i : Int)) := by
    rw [List.map_map]
    exact (sortP_perm P).map _
  refine (sort_uniqI ?_ (sortBy_sorted swo_I _) (p1.trans (sortBy_perm _).symm)).symm
  rw [List.pairwise_map]
  refine (sortP_asc nd).imp fun {a b} hab => ?_
  simp [ltI]
  omega
theorem dLook_cons {x d : D} {r : Dp2} {kx : Key} {ky : Key} (h : keyOf x = some ky) : dLook ((x, d) :: r) kx = if ky = kx then some d else dLook r kx := by
  unfold dLook
  rw [List.find?_cons]
  simp only [h]
  by_cases c : ky = kx
  · simp [c]
  · simp [c]
theorem look_P {P : Sys q} {m : Nat} (e : Ech m P) {p : Nat × Vec q} (hp : p ∈ P) : dLook (encP n P) (.inl (p.1 : Int)) = some (encV n p.2) := by
  induction P with
  | nil => cases hp
  | cons x P ih =>
    show dLook ((.int (x.1 : Int), encV n x.2) :: encP n P) (.inl (p.1 : Int)) = _
    rw [dLook_cons (key_int)]
    rcases List.mem_cons.mp hp with rfl | h
    · rw [if_pos rfl]
    · have nd := List.nodup_cons.mp e.nd
      rw [if_neg, ih e.cons h]
      intro c
      injection c with c
      exact nd.1 (List.mem_map.mpr ⟨p, h, by show p.1 = x.1; omega⟩)
theorem ix_P {P : Sys q} {m : Nat} (e : Ech m P) {p : Nat × Vec q} (hp : p ∈ P) : dIxM (.dic (encP n P)) (.int (p.1 : Int)) s = .ok (encV n p.2) s := by
  rw [ix_dic, key_int]
  show ofO (dLook (encP n P) (.inl (p.1 : Int))) s = _
  rw [look_P e hp]; rfl
theorem Ech.len_lt {P : Sys q} (e : Ech n P) (hn : n < 64) : P.length < 64 := Nat.lt_of_le_of_lt e.len hn
def plE (q n : Nat) [Pr q] (d : D) (P : Sys q) (ρ : Env) : Prop := Ech n P ∧ ∃ sl o3 o4 o5 o6, (sl = Sl.own (.dic (encP n P)) ∨ sl = Sl.val (.dic (encP n P))) ∧ ρ = [some (.val (.int q)), some (.val d), some sl, o3, o4, o5, o6]
def plB (C : Tab) : MS := mSeq (mSeq (mFrz 2) (mFor (mItemsI (mVar 2)) (gTp (gCn (gN 5) (gCn (gN 6) gNl)) 2) (redB C)))
    (mSeq (mAsg (mCallD (lenG 1 (C "first_place")) (mCons (mVar 3) mNil)) (gN 4))
    (mIf (mCmpB .IsNot (mPeek 4) (mC .non)) (mSeq (mAsg (mCallD (lenG 3 (C "row_times")) (mCons (mVar 0) (mCons (mVar 3) (mCons (mCallD (lenG 2 (C "undone_mark")) (mCons (mVar 0) (mCons (mIxM (mPeek 3) (mPeek 4)) mNil))) mNil)))) (gN 3))
    (mSeq (mSeq (mFrz 2) (mSetD (mDc (mItemsI (mVar 2)) (gTp (gCn (gN 5) (gCn (gN 6) gNl)) 2) mYes (mVar 5) (mCallD (lenG 4 (C "row_sum")) (mCons (mVar 0) (mCons (mVar 6) (mCons (mVar 3) (mCons (mNeg (mIxM (mPeek 6) (mPeek 4))) mNil))))) [5, 6]) 2))
    (mPut 2 (mVar 3) (mPeek 4)))) mNext))
theorem pl_step (h2 : I_first_place T) (h3 : I_row_sum T) (h4 : I_row_times T) (h5 : I_undone_mark T) (hn : n < 64) (hlm : Lm n) {d : D} {v : Vec q} (hs : Sup n v) {P : Sys q} {ρ : Env} (hρ : plE q n d P ρ) :
    Wr (R.bind (ofO (gN 3 (encV n v) ρ) s) fun ρ1 s => plB (callD T (k + 1)) ρ1 s) s (plE q n d (addRow n P v)) := by
  unfold plB
  obtain ⟨e, sl, o3, o4, o5, o6, hsl, rfl⟩ := hρ
  have e' := addRow_ech e hs
  have frz : mFrz 2 [some (.val (.int q)), some (.val d), some sl, some (.val (encV n v)), o4, o5, o6] s = .ok (.nx [some (.val (.int q)), some (.val d), some (.val (.dic (encP n P))), some (.val (encV n v)), o4, o5, o6]) s := by
    rcases hsl with rfl | rfl
    · simp
    · simp
  obtain ⟨ρ1, r1, hr⟩ := red_ev (k := k) (s := s) h3 hlm (P := P) e.lt (v := v) (b := some (.val d)) (c := some (.val (.dic (encP n P)))) (o4 := o4) (o5 := o5) (o6 := o6)
  obtain ⟨o5', o6', rfl⟩ := hr
  have fp := ev_first_place (k := k) (s := s) h2 (n := n) (red P v)
  simp only [gN_eq, setS_0, setS_s, Option.map_some, ofO_some, bindk, ev_seq, frz, seqO_nx, ev_for, ev_itemsI, ev_var, look_0, look_s, rdV_val, items_P, r1]
  simp [fp]
  cases hf : first n (red P v) with
  | none =>
    rw [addRow_none hf]
    simp [encO, e, plE]
  | some j =>
    obtain ⟨j1, j2, j3⟩ := first_some hf
    have ff := first_free e hf
    have um := ev_undone_mark (k := k) (s := s) h5 j2
    have dc := dc_ev (k := k) (s := s) h3 hlm (P := P) e.nd (r := fun i => inv (red P v j) * red P v i) j1 (b := some (.val d)) (c := some (.val (.dic (encP n P))))
    have hl : (P.map fun p => ((p.1 : Nat), fun i => p.2 i + -p.2 j * (inv (red P v j) * red P v i))).length < lim := by
      have := e.len
      have hl : lim = 16777216 := rfl
      rw [List.length_map, hl]
      omega
    have pt := put_P (n := n) (P := P.map fun p => (p.1, fun i => p.2 i + -p.2 j * (inv (red P v j) * red P v i))) (j := j) (r := fun i => inv (red P v j) * red P v i) (fun p hp => by
      obtain ⟨x, hx, rfl⟩ := List.mem_map.mp hp
      exact ff x hx) hl
    have hlP : Lm P.length := hlm.le e.len
    simp [encO, ix_encV j1, um, ev_row_times h4 hlm, hlP, dc, deckO, pt]
    rw [addRow_some hf] at e' ⊢
    exact ⟨e', by simp⟩
theorem ev_plain (h : I_plain T) (hn : n < 64) {d : D} {L : List (Vec q)} (hd : dSeq d = some (L.map (encV n))) (hL : Sups n L) :
    callD T (k + 2) "plain" [.int q, d] s = .ok (.tup ((pl n L).map (encV n))) s := by
  obtain ⟨h1, h2, h3, h4, h5⟩ := h
  have hlm : Lm n := Lm.of (by omega)
  rw [callD_has h1 rfl]
  unfold F_plain
  simp only [ev_seq, ev_setD, pure_eq, start_cons, start_nil, List.length_cons, List.length_nil, List.replicate, bindk, setS_0, setS_s, Option.map_some, ofO_some, seqO_nx, ev_for, ev_seqI, ev_var, look_0, look_s, rdV_val, hd]
  obtain ⟨ρ', e1, E⟩ := loop_foldW (s := s) (g := gN 3) (b := plB (callD T (k + 1))) (plE q n d) (addRow n) (xs := L) (enc := encV n) (a := []) (ρ := [some (.val (.int q)), some (.val d), some (.own (.dic [])), none, none, none, none])
    (fun v hv P ρ hρ => pl_step h2 h3 h4 h5 hn hlm (hL v hv) hρ) ⟨Ech.nil, _, _, _, _, _, .inl rfl, rfl⟩
  show R.bind (R.bind (mLoop (gN 3) (plB (callD T (k + 1))) _ _ _) _) _ = _
  rw [e1]
  rw [show L.foldl (addRow n) [] = plainP n L from rfl] at E
  obtain ⟨e, sl, o3, o4, o5, o6, hsl, rfl⟩ := E
  have hpk : rdP (some sl) s = .ok (.dic (encP n (plainP n L))) s := by
    rcases hsl with rfl | rfl <;> rfl
  have hso : dSorted false [.dic (encP n (plainP n L))] = some ((plS n L).map fun p => .int (p.1 : Int)) := by
    show (if false = true then none else (intsOf ((encP n (plainP n L)).map (·.1))).bind fun ns => if ns.length < 64 then some ((sortBy ltI ns).map D.int) else none) = _
    rw [if_neg (by simp), ints_P]
    show (if _ then _ else _) = _
    rw [if_pos (by simpa using Ech.len_lt e hn), sort_P e.nd, List.map_map]
    rfl
  have hlS : (plS n L).length ≤ n := (plS_ech hL).len
  have key : mLcGo (gN 5) mYes (mIxM (mPeek 2) (mPeek 5)) [some (.val (.int q)), some (.val d), some sl, o3, o4, none, o6] ((plS n L).map fun p => .int (p.1 : Int)) s = .ok ((plS n L).map fun p => encV n p.2) s := by
    rw [lcGo_F]
    refine Eq.trans (lcF_congr rfl rfl (h' := fun p s => .ok (some (encV n p.2)) s) fun p hp s => ?_) lcF_map
    have hpk' : rdP (some sl) s = .ok (.dic (encP n (plainP n L))) s := by
      rcases hsl with rfl | rfl <;> rfl
    have := ix_P (n := n) (s := s) e (p := p) ((sortP_perm _).mem_iff.mp hp)
    simp [hpk', this]
  simp [hpk, hso, hlm.le hlS, key]
  unfold pl rows
  rw [List.map_map]; rfl
end
end RS

/-! equal data, shown data -/
namespace RS
open PySem PySem.Spec LA L2
mutual
/-- ints, tuples and lists of such -/
def D.num : D → Bool
  | .int _ => true
  | .tup xs | .lst xs => D.nums xs
  | _ => false
def D.nums : Ds → Bool
  | [] => true
  | d :: ds => D.num d && D.nums ds
end
mutual
theorem num_flat : ∀ d : D, d.num = true → d.flat = true
  | .int _, _ => rfl
  | .tup xs, h => nums_flat xs h
  | .lst xs, h => nums_flat xs h
  | .non, h => by cases h
  | .bl _, h => by cases h
  | .str _, h => by cases h
  | .dic _, h => by cases h
  | .scr _, h => by cases h
  | .deck, h => by cases h
  | .err _ _, h => by cases h
  | .lam _ _, h => by cases h
theorem nums_flat : ∀ ds : Ds, D.nums ds = true → D.flats ds = true
  | [], _ => rfl
  | d :: ds, h => by
    have h' := Bool.and_eq_true_iff.mp (show (D.num d && D.nums ds) = true from h)
    exact Bool.and_eq_true_iff.mpr ⟨num_flat d h'.1, nums_flat ds h'.2⟩
end
mutual
theorem num_lay : ∀ d : D, d.num = true → d.py.canLay0 = true
  | .int _, _ => rfl
  | .tup xs, h => nums_lay xs h
  | .lst xs, h => nums_lay xs h
  | .non, h => by cases h
  | .bl _, h => by cases h
  | .str _, h => by cases h
  | .dic _, h => by cases h
  | .scr _, h => by cases h
  | .deck, h => by cases h
  | .err _ _, h => by cases h
  | .lam _ _, h => by cases h
theorem nums_lay : ∀ ds : Ds, D.nums ds = true → PyData.canLayAll0 (D.pys ds) = true
  | [], _ => rfl
  | d :: ds, h => by
    have h' := Bool.and_eq_true_iff.mp (show (D.num d && D.nums ds) = true from h)
    exact Bool.and_eq_true_iff.mpr ⟨num_lay d h'.1, nums_lay ds h'.2⟩
end
theorem num_good {d : D} (h : d.num = true) (k : dpD d ≤ 60) : d.good = true := by
  unfold D.good SeqAt.shaped
  rw [num_flat d h, num_lay d h, dp_py d, decide_eq_true (by omega)]; rfl
mutual
theorem num_eqv : ∀ d e : D, d.num = true → e.num = true → (PyData.eqv d.py e.py = true ↔ d = e)
  | .int i, .int j, _, _ => by
    show (i == j) = true ↔ _
    simp
  | .tup xs, .tup ys, h, k => by
    show PyData.eqvAll (D.pys xs) (D.pys ys) = true ↔ _
    rw [nums_eqv xs ys h k]; simp
  | .lst xs, .lst ys, h, k => by
    show PyData.eqvAll (D.pys xs) (D.pys ys) = true ↔ _
    rw [nums_eqv xs ys h k]; simp
  | .int i, .tup ys, _, _ => by
    show false = true ↔ _
    simp
  | .int i, .lst ys, _, _ => by
    show false = true ↔ _
    simp
  | .tup i, .int ys, _, _ => by
    show false = true ↔ _
    simp
  | .lst i, .int ys, _, _ => by
    show false = true ↔ _
    simp
  | .tup i, .lst ys, _, _ => by
    show false = true ↔ _
    simp
  | .lst i, .tup ys, _, _ => by
    show false = true ↔ _
    simp
  | .non, _, h, _ => by cases h
  | .bl _, _, h, _ => by cases h
  | .str _, _, h, _ => by cases h
  | .dic _, _, h, _ => by cases h
  | .scr _, _, h, _ => by cases h
  | .deck, _, h, _ => by cases h
  | .err _ _, _, h, _ => by cases h
  | .lam _ _, _, h, _ => by cases h
  | _, .non, _, h => by cases h
  | _, .bl _, _, h => by cases h
  | _, .str _, _, h => by cases h
  | _, .dic _, _, h => by cases h
  | _, .scr _, _, h => by cases h
  | _, .deck, _, h => by cases h
  | _, .err _ _, _, h => by cases h
  | _, .lam _ _, _, h => by cases h
theorem nums_eqv : ∀ ds es : Ds, D.nums ds = true → D.nums es = true → (PyData.eqvAll (D.pys ds) (D.pys es) = true ↔ ds = es)
  | [], [], _, _ => by
    show true = true ↔ _
    simp
  | [], _ :: _, _, _ => by
    show false = true ↔ _
    simp
  | _ :: _, [], _, _ => by
    show false = true ↔ _
    simp
  | d :: ds, e :: es, h, k => by
    have h' := Bool.and_eq_true_iff.mp (show (D.num d && D.nums ds) = true from h)
    have k' := Bool.and_eq_true_iff.mp (show (D.num e && D.nums es) = true from k)
    show (PyData.eqv d.py e.py && PyData.eqvAll (D.pys ds) (D.pys es)) = true ↔ _
    rw [Bool.and_eq_true, num_eqv d e h'.1 k'.1, nums_eqv ds es h'.2 k'.2]; simp
end
theorem nums_all {ds : Ds} (h : ∀ d ∈ ds, d.num = true) : D.nums ds = true := by
  induction ds with
  | nil => rfl
  | cons d ds ih => exact Bool.and_eq_true_iff.mpr ⟨h d (.head _), ih fun x hx => h x (.tail _ hx)⟩
noncomputable instance instDecD : DecidableEq D := fun a b => Classical.propDecidable _
theorem eq_num {d e : D} (h : d.num = true) (k : e.num = true) (hd : dpD d ≤ 60) (he : dpD e ≤ 60) : dCmp .Eq d e = some (decide (d = e)) := by
  have : dEq d e = some (PyData.eqv d.py e.py) := by
    have hg : (d.good && e.good) = true := by rw [num_good h hd, num_good k he]; rfl
    unfold dEq
    split
    · cases h
    · rename_i xs; cases xs <;> rfl
    · rename_i xs; cases xs <;> rfl
    · exact if_pos hg
  rw [show dCmp .Eq d e = dEq d e from rfl, this]
  congr 1
  rw [Bool.eq_iff_iff, num_eqv d e h k]; simp
theorem ne_num {d e : D} (h : d.num = true) (k : e.num = true) (hd : dpD d ≤ 60) (he : dpD e ≤ 60) : dCmp .NotEq d e = some (!decide (d = e)) := by
  show (dEq d e).map not = _
  rw [show dEq d e = dCmp .Eq d e from rfl, eq_num h k hd he]; rfl
theorem dps_le {ds : Ds} {k : Nat} (h : ∀ d ∈ ds, dpD d ≤ k) : dps ds ≤ k := by
  induction ds with
  | nil => exact Nat.zero_le _
  | cons d ds ih =>
    show max (dpD d) (dps ds) ≤ k
    have := h d (.head _)
    have := ih fun x hx => h x (.tail _ hx)
    omega
theorem in_any {d : D} {es : Ds} (h : d.num = true) (k : ∀ e ∈ es, e.num = true) (hd : dpD d ≤ 60) (he : ∀ e ∈ es, dpD e ≤ 59) : dCmp .In d (.lst es) = some (decide (d ∈ es)) ∧ dCmp .In d (.tup es) = some (decide (d ∈ es)) := by
  have hg : (D.lst es).good = true := num_good (nums_all k) (by show dps es + 1 ≤ 60; have := dps_le he; omega)
  have hg' : (D.tup es).good = true := num_good (nums_all k) (by show dps es + 1 ≤ 60; have := dps_le he; omega)
  have : (es.any fun z => PyData.eqv z.py d.py) = decide (d ∈ es) := by
    rw [Bool.eq_iff_iff, List.any_eq_true, decide_eq_true_eq]
    constructor
    · rintro ⟨z, hz, e⟩
      rw [num_eqv z d (k z hz) h] at e
      rw [← e]; exact hz
    · intro hm
      exact ⟨d, hm, (num_eqv d d h h).mpr rfl⟩
  constructor
  · show (if d.good && (D.lst es).good then some (es.any fun z => PyData.eqv z.py d.py) else none) = _
    rw [num_good h hd, hg, this]; rfl
  · show (if d.good && (D.tup es).good then some (es.any fun z => PyData.eqv z.py d.py) else none) = _
    rw [num_good h hd, hg', this]; rfl
theorem in_lst {d : D} {es : Ds} (h : d.num = true) (k : ∀ e ∈ es, e.num = true) (hd : dpD d ≤ 60) (he : ∀ e ∈ es, dpD e ≤ 59) : dCmp .In d (.lst es) = some (decide (d ∈ es)) := (in_any h k hd he).1
theorem in_tup {d : D} {es : Ds} (h : d.num = true) (k : ∀ e ∈ es, e.num = true) (hd : dpD d ≤ 60) (he : ∀ e ∈ es, dpD e ≤ 59) : dCmp .In d (.tup es) = some (decide (d ∈ es)) := (in_any h k hd he).2
theorem notin_lst {d : D} {es : Ds} (h : d.num = true) (k : ∀ e ∈ es, e.num = true) (hd : dpD d ≤ 60) (he : ∀ e ∈ es, dpD e ≤ 59) : dCmp .NotIn d (.lst es) = some (!decide (d ∈ es)) := by
  show (dCmp .In d (.lst es)).map not = _
  rw [in_lst h k hd he]; rfl
theorem notin_tup {d : D} {es : Ds} (h : d.num = true) (k : ∀ e ∈ es, e.num = true) (hd : dpD d ≤ 60) (he : ∀ e ∈ es, dpD e ≤ 59) : dCmp .NotIn d (.tup es) = some (!decide (d ∈ es)) := by
  show (dCmp .In d (.tup es)).map not = _
  rw [in_tup h k hd he]; rfl
/-! ints among ints -/
theorem in_ints_l {i : Int} {l : List Int} : dCmp .In (.int i) (.lst (l.map D.int)) = some (decide (i ∈ l)) := by
  rw [in_lst rfl (by simp; intros; rfl) (by show 0 ≤ 60; omega) (by simp; intros; show 0 ≤ 59; omega)]
  congr 1
  rw [Bool.eq_iff_iff]; simp
theorem in_ints_t {i : Int} {l : List Int} : dCmp .In (.int i) (.tup (l.map D.int)) = some (decide (i ∈ l)) := by
  rw [in_tup rfl (by simp; intros; rfl) (by show 0 ≤ 60; omega) (by simp; intros; show 0 ≤ 59; omega)]
  congr 1
  rw [Bool.eq_iff_iff]; simp
theorem notin_ints_l {i : Int} {l : List Int} : dCmp .NotIn (.int i) (.lst (l.map D.int)) = some (!decide (i ∈ l)) := by
  show (dCmp .In (.int i) (.lst (l.map D.int))).map not = _
  rw [in_ints_l]; rfl
theorem notin_ints_t {i : Int} {l : List Int} : dCmp .NotIn (.int i) (.tup (l.map D.int)) = some (!decide (i ∈ l)) := by
  show (dCmp .In (.int i) (.tup (l.map D.int))).map not = _
  rw [in_ints_t]; rfl
/-! rows -/
section
variable {q n : Nat}
theorem num_encV {v : Vec q} : (encV n v).num = true := nums_all fun d hd => by
  obtain ⟨i, _, rfl⟩ := List.mem_map.mp hd
  rfl
theorem dp_encV {v : Vec q} : dpD (encV n v) ≤ 1 := by
  show dps _ + 1 ≤ 1
  have := dps_le (k := 0) (ds := (List.range n).map fun i => D.int (((v i).val : Nat) : Int)) fun d hd => by
    obtain ⟨i, _, rfl⟩ := List.mem_map.mp hd
    exact Nat.le_refl _
  omega
theorem num_rows {L : List (Vec q)} : ∀ d ∈ L.map (encV n), d.num = true := fun d hd => by
  obtain ⟨v, _, rfl⟩ := List.mem_map.mp hd
  exact num_encV
theorem dp_rows {L : List (Vec q)} : ∀ d ∈ L.map (encV n), dpD d ≤ 1 := fun d hd => by
  obtain ⟨v, _, rfl⟩ := List.mem_map.mp hd
  exact dp_encV
theorem rows_inj [Pr q] : ∀ {L M : List (Vec q)}, Sups n L → Sups n M → L.map (encV n) = M.map (encV n) → L = M
  | [], [], _, _, _ => rfl
  | [], _ :: _, _, _, h => by simp at h
  | _ :: _, [], _, _, h => by simp at h
  | u :: L, v :: M, hL, hM, h => by
    simp only [List.map_cons, List.cons.injEq] at h
    obtain ⟨h1, h2⟩ := Sups.cons.mp hL
    obtain ⟨k1, k2⟩ := Sups.cons.mp hM
    rw [encV_sup h1 k1 h.1, rows_inj h2 k2 h.2]
end
/-! what can be shown -/
structure Sz (d : D) (n k : Nat) : Prop where
  ok : okD d = true
  sz : szD d ≤ n
  dp : dpD d ≤ k
theorem Sz.rp {d : D} {n k : Nat} (h : Sz d n k) (hn : n ≤ 8000000 := by omega) (hk : k ≤ 60 := by omega) : Rp d := ⟨h.ok, Nat.le_trans h.sz hn, Nat.le_trans h.dp hk⟩
theorem Sz.mono {d : D} {n k n' k' : Nat} (h : Sz d n k) (hn : n ≤ n' := by omega) (hk : k ≤ k' := by omega) : Sz d n' k' := ⟨h.ok, Nat.le_trans h.sz hn, Nat.le_trans h.dp hk⟩
theorem oks_all {ds : Ds} (h : ∀ d ∈ ds, okD d = true) : oks ds = true := by
  induction ds with
  | nil => rfl
  | cons d ds ih => exact Bool.and_eq_true_iff.mpr ⟨h d (.head _), ih fun x hx => h x (.tail _ hx)⟩
theorem szs_all {ds : Ds} {n : Nat} (h : ∀ d ∈ ds, szD d ≤ n) : szs ds ≤ ds.length * (n + 2) := by
  induction ds with
  | nil => exact Nat.zero_le _
  | cons d ds ih =>
    show szD d + 2 + szs ds ≤ (ds.length + 1) * (n + 2)
    have := h d (.head _)
    have := ih fun x hx => h x (.tail _ hx)
    rw [Nat.succ_mul]
    omega
theorem Sz.tup {ds : Ds} {n k : Nat} (h : ∀ d ∈ ds, Sz d n k) : Sz (.tup ds) (ds.length * (n + 2) + 3) (k + 1) :=
  ⟨oks_all fun d hd => (h d hd).ok, Nat.add_le_add_right (szs_all fun d hd => (h d hd).sz) 3, Nat.succ_le_succ (dps_le fun d hd => (h d hd).dp)⟩
theorem Sz.lst {ds : Ds} {n k : Nat} (h : ∀ d ∈ ds, Sz d n k) : Sz (.lst ds) (ds.length * (n + 2) + 3) (k + 1) :=
  ⟨oks_all fun d hd => (h d hd).ok, Nat.add_le_add_right (szs_all fun d hd => (h d hd).sz) 3, Nat.succ_le_succ (dps_le fun d hd => (h d hd).dp)⟩
theorem Sz.int {i : Int} (h : i.natAbs < 2 ^ 200) : Sz (.int i) 202 0 := ⟨decide_eq_true h, Nat.le_refl _, Nat.le_refl _⟩
theorem Sz.nat {i : Nat} (h : i < 10000) : Sz (.int (i : Int)) 202 0 := Sz.int (by
  have : (2 : Nat) ^ 200 > 10000 := by decide
  omega)
theorem Sz.bl {b : Bool} : Sz (.bl b) 5 0 := ⟨rfl, Nat.le_refl _, Nat.le_refl _⟩
theorem Sz.non : Sz .non 4 0 := ⟨rfl, Nat.le_refl _, Nat.le_refl _⟩
theorem Sz.encV {q n : Nat} [Pr q] {v : Vec q} : Sz (encV n v) (n * 204 + 3) 1 := by
  have := Sz.tup (ds := (List.range n).map fun i => D.int (((v i).val : Nat) : Int)) (n := 202) (k := 0) fun d hd => by
    obtain ⟨i, _, rfl⟩ := List.mem_map.mp hd
    exact Sz.nat (by have := (v i).isLt; have := Pr.five (q := q); omega)
  rw [List.length_map, List.length_range] at this
  exact this
theorem Sz.rows {q n m : Nat} [Pr q] {L : List (Vec q)} (hl : L.length ≤ m) : Sz (.tup (L.map (RS.encV n))) (m * (n * 204 + 5) + 3) 2 := by
  have := Sz.tup (ds := L.map (RS.encV n)) (n := n * 204 + 3) (k := 1) fun d hd => by
    obtain ⟨v, _, rfl⟩ := List.mem_map.mp hd
    exact Sz.encV
  refine this.mono ?_ (Nat.le_refl _)
  rw [List.length_map]
  exact Nat.add_le_add_right (Nat.mul_le_mul_right _ hl) 3
theorem Sz.cons {d : D} {ds : Ds} {n m k : Nat} (h : Sz d n k) (t : Sz (.tup ds) m (k + 1)) : Sz (.tup (d :: ds)) (n + 2 + m) (k + 1) :=
  ⟨Bool.and_eq_true_iff.mpr ⟨h.ok, t.ok⟩, by
    have h1 := h.sz
    have h2 : szs ds + 3 ≤ m := t.sz
    show szD d + 2 + szs ds + 3 ≤ n + 2 + m
    omega, by
    have h1 := h.dp
    have h2 : dps ds + 1 ≤ k + 1 := t.dp
    show max (dpD d) (dps ds) + 1 ≤ k + 1
    omega⟩
theorem Sz.nil {k : Nat} : Sz (.tup []) 3 (k + 1) := ⟨rfl, Nat.le_refl _, Nat.succ_le_succ (Nat.zero_le _)⟩
@[simp] theorem repr_of {d : D} (h : Rp d) : bRepr [d] = some (.str d.py.shown) := repr_ok h
@[simp] theorem eq_strs {x y : Str} : dCmp .Eq (.str x) (.str y) = some (x == y) := (rfl)
@[simp] theorem ne_strs {x y : Str} : dCmp .NotEq (.str x) (.str y) = some (!(x == y)) := (rfl)
end RS

/-! rows that meet others in 0; sums; books -/
namespace RS
open PySem PySem.Spec LA L2
section
variable {T : CT} {k : Nat} {s : DS} {q n : Nat} [Pr q]
theorem first_head {P : Sys q} (e : Ech n P) {p : Nat × Vec q} (hp : p ∈ P) : first n p.2 = some p.1 := by
  unfold first
  rw [List.find?_range_eq_some]
  refine ⟨?_, List.mem_range.mpr (e.lt p hp), fun i hi => ?_⟩
  · rw [e.one p hp]; exact decide_eq_true one_ne
  · rw [e.low p hp i hi]; simp
def toldD (P : Sys q) (j : Nat) : Dp2 := (P.map fun p => (D.int (p.1 : Int), D.int (((-p.2 j).val : Nat) : Int))) ++ [(.int (j : Int), .int 1)]
theorem val_one : ((((1 : Fin q).val : Nat)) : Int) = 1 := by
  rw [← toF_one, toF_val]
  have := Pr.two (q := q)
  exact Int.emod_eq_of_lt (by omega) (by omega)
theorem headRow_cons {P : Sys q} {p : Nat × Vec q} {i : Nat} : headRow (p :: P) i = if p.1 = i then some p.2 else headRow P i := by
  unfold headRow
  rw [List.find?_cons]
  by_cases c : p.1 = i
  · simp [c]
  · simp [c]
theorem look_told {j i : Nat} : ∀ {P : Sys q}, (∀ p ∈ P, p.1 ≠ j) → (dLook (toldD P j) (.inl (i : Int))).getD (.int 0) = .int (((dualRow P j i).val : Nat) : Int)
  | [], _ => by
    unfold toldD dualRow
    rw [List.map_nil, List.nil_append, dLook_cons key_int]
    by_cases c : i = j
    · subst c
      rw [if_pos rfl, if_pos rfl, val_one]; rfl
    · rw [if_neg (by intro e; injection e with e; omega), if_neg c]; rfl
  | p :: P, h => by
    have ih := look_told (i := i) (P := P) fun x hx => h x (.tail _ hx)
    have hp := h p (.head _)
    show (dLook ((D.int (p.1 : Int), D.int (((-p.2 j).val : Nat) : Int)) :: toldD P j) (.inl (i : Int))).getD (.int 0) = _
    rw [dLook_cons key_int]
    unfold dualRow at *
    rw [headRow_cons]
    by_cases c : p.1 = i
    · rw [if_pos (by rw [c]), if_neg (by omega), if_pos c]; rfl
    · rw [if_neg (by intro e; injection e with e; omega), if_neg c]
      exact ih
theorem put_told {P : Sys q} {j : Nat} (h : ∀ p ∈ P, p.1 ≠ j) (hl : P.length < 64) : dPut (.dic (P.map fun p => (D.int (p.1 : Int), D.int (((-p.2 j).val : Nat) : Int)))) (.int (j : Int)) (.int 1) = some (.dic (toldD P j)) := by
  have hp : putD (P.map fun p => (D.int (p.1 : Int), D.int (((-p.2 j).val : Nat) : Int))) (.inl (j : Int)) (.int 1) = toldD P j := by
    unfold putD
    rw [if_neg]
    · rfl
    · rw [List.any_eq_true]
      rintro ⟨x, hx, e⟩
      obtain ⟨p, hp, rfl⟩ := List.mem_map.mp hx
      have e := of_decide_eq_true e
      simp at e
      exact h p hp (by omega)
  show (if (P.map fun p => (D.int (p.1 : Int), D.int (((-p.2 j).val : Nat) : Int))).length < lim then some (D.dic (putD _ (.inl (j : Int)) (.int 1))) else none) = _
  rw [if_pos (by rw [List.length_map]; have : lim = 16777216 := rfl; omega), hp]
theorem foldl_filter {α β : Type} (c : α → Bool) (g : α → β) : ∀ (l : List α) (acc : List β), l.foldl (fun acc j => if c j = true then acc ++ [g j] else acc) acc = acc ++ (l.filter c).map g
  | [], acc => by simp
  | x :: l, acc => by
    rw [List.foldl_cons, foldl_filter c g l, List.filter_cons]
    by_cases h : c x = true
    · simp [h]
    · simp [h]
def vanH (P : Sys q) : D := .lst (P.map fun p => .int (p.1 : Int))
def vanE (q n : Nat) [Pr q] (d : D) (P : Sys q) (acc : List (Vec q)) (ρ : Env) : Prop := ∃ o5 o7 o8 o9 o10, ρ = [some (.val (.int q)), some (.val d), some (.val (.int n)), some (.val (.tup (P.map fun p => encV n p.2))), some (.val (vanH P)), o5, some (.own (.lst (acc.map (encV n)))), o7, o8, o9, o10]
def vanB : MS := mIf (mCmpB .NotIn (mPeek 7) (mPeek 4)) (mSeq (mSetD (mDc (mZipI (mVar 4) (mVar 3)) (gTp (gCn (gN 9) (gCn (gN 5) gNl)) 2) mYes (mVar 9) (mBin .Mod (mNeg (mIxM (mPeek 5) (mPeek 7))) (mPeek 0)) [9, 5]) 8)
    (mSeq (mPut 8 (mC (.int (1))) (mPeek 7))
    (mApp 6 (mCall bTuple (mCons (fun ρ => (mLc (mRngI1 (mPeek 2)) (gN 10) mYes (mGet (mPeek 8) (mVar 10) (mC (.int (0)))) [10]) ρ >>= fun ds => pure (.lst ds)) mNil))))) mNext
theorem van_dc {P : Sys q} (nd : (P.map (·.1)).Nodup) {j : Nat} (hj : j < n) {a b c o6 o8 o10 : Option Sl} : mDcGo (gTp (gCn (gN 9) (gCn (gN 5) gNl)) 2) mYes (mVar 9) (mBin .Mod (mNeg (mIxM (mPeek 5) (mPeek 7))) (mPeek 0))
    [some (.val (.int q)), a, some (.val (.int n)), b, c, none, o6, some (.val (.int (j : Int))), o8, none, o10] [] (P.map fun p => .tup [.int (p.1 : Int), encV n p.2]) s = .ok (P.map fun p => (D.int (p.1 : Int), D.int (((-p.2 j).val : Nat) : Int))) s := by
  rw [dcGo_map (fun p : Nat × Vec q => .tup [.int (p.1 : Int), encV n p.2]) (fun p => .inl (p.1 : Int)) (fun p => .int (((-p.2 j).val : Nat) : Int)) (fun p hp => ?_) (heads_keys nd) (by simp)]
  · rw [List.nil_append]; rfl
  · refine ⟨[some (.val (.int q)), a, some (.val (.int n)), b, c, some (.val (encV n p.2)), o6, some (.val (.int (j : Int))), o8, some (.val (.int (p.1 : Int))), o10], ?_, ?_, ?_, ?_⟩
    · simp
    · simp
    · simp
    · simp [ix_encV hj]
theorem van_step (hn : n < 64) {d : D} {P : Sys q} (e : Ech n P) {acc : List (Vec q)} (ha : acc.length ≤ 64) {j : Nat} (hj : j < n) {ρ : Env} (hρ : vanE q n d P acc ρ) :
    Wr (R.bind (ofO (gN 7 (.int (j : Int)) ρ) s) fun ρ1 s => vanB ρ1 s) s (vanE q n d P (if (!(P.map (·.1)).contains j) = true then acc ++ [dualRow P j] else acc)) := by
  obtain ⟨o5, o7, o8, o9, o10, rfl⟩ := hρ
  have hin : dCmp .NotIn (.int (j : Int)) (vanH P) = some (!(P.map (·.1)).contains j) := by
    unfold vanH
    have : (P.map fun p => D.int (p.1 : Int)) = ((P.map (·.1)).map fun i : Nat => (i : Int)).map D.int := by rw [List.map_map, List.map_map]; rfl
    rw [this, notin_ints_l]
    congr 2
    rw [Bool.eq_iff_iff]
    simp only [decide_eq_true_eq, List.contains_iff_mem, List.mem_map]
    constructor
    · rintro ⟨x, hx, e⟩
      have : x = j := by omega
      rw [← this]; exact hx
    · intro h
      exact ⟨j, h, rfl⟩
  by_cases c : (P.map (·.1)).contains j = true
  · have hc : (P.map (·.1)).contains j = true := c
    simp only [vanB, gN_eq, setS_0, setS_s, Option.map_some, ofO_some, bindk, ev_if, ev_cmpB, ev_peek, look_0, look_s, rdP_val, hin, hc, Bool.not_true, Bool.false_eq_true, if_false, ev_next, Wr_ok]
    exact ⟨_, _, _, _, _, rfl⟩
  · have hc : (P.map (·.1)).contains j = false := by simpa using c
    have hne : ∀ p ∈ P, p.1 ≠ j := no_head.mp (by rw [hc]; rfl)
    have hl := Ech.len_lt e hn
    have hz : Lm P.length := Lm.of (by omega)
    have hln : Lm n := Lm.of (by omega)
    have hac : Lm (acc.length + 1) := Lm.of (by omega)
    have pt := put_told hne hl
    have dc := fun a b c o6 o8 o10 => van_dc (s := s) (n := n) e.nd hj (a := a) (b := b) (c := c) (o6 := o6) (o8 := o8) (o10 := o10)
    simp only [vanB, gN_eq, setS_0, setS_s, Option.map_some, ofO_some, bindk, ev_if, ev_cmpB, ev_peek, look_0, look_s, rdP_val, hin, hc, Bool.not_false, if_true]
    simp [vanH, hz, dc, deckO, pt, hln, look_told hne, hac]
    refine ⟨o5, some (.val (.int (j : Int))), some (.own (.dic (toldD P j))), o9, o10, ?_⟩
    simp [vanH, encV]
theorem fold_len {α β : Type} (c : α → Bool) (g : α → β) : ∀ (l : List α) (acc : List β), (l.foldl (fun acc j => if c j = true then acc ++ [g j] else acc) acc).length ≤ acc.length + l.length
  | [], acc => by simp
  | x :: l, acc => by
    rw [List.foldl_cons]
    by_cases h : c x = true
    · have := fold_len c g l (acc ++ [g x])
      rw [if_pos h]
      simp at this ⊢
      omega
    · have := fold_len c g l acc
      rw [if_neg h]
      simp at this ⊢
      omega
theorem ev_vanishing (h : I_vanishing T) (hn : n < 64) {d : D} {L : List (Vec q)} (hd : dSeq d = some (L.map (encV n))) (hL : Sups n L) :
    callD T (k + 3) "vanishing" [.int q, d, .int n] s = .ok (.tup ((van n L).map (encV n))) s := by
  obtain ⟨h1, h2, h3⟩ := h
  have hlm : Lm n := Lm.of (by omega)
  have e := plS_ech hL
  have hl := Ech.len_lt e hn
  rw [callD_has h1 rfl]
  unfold F_vanishing
  have pl1 := ev_plain (k := k) (s := s) h3 hn hd hL
  have er : (pl n L).map (encV n) = (plS n L).map fun p => encV n p.2 := by
    unfold pl rows
    rw [List.map_map]; rfl
  rw [er] at pl1
  have hh : mLcGo (gN 5) mYes (mCallD (lenG 1 (callD T (k + 2) "first_place")) (mCons (mVar 5) mNil)) [some (.val (.int q)), some (.val d), some (.val (.int n)), some (.val (.tup ((plS n L).map fun p => encV n p.2))), none, none, none, none, none, none, none] ((plS n L).map fun p => encV n p.2) s = .ok ((plS n L).map fun p => .int (p.1 : Int)) s := by
    rw [lcGo_F]
    refine Eq.trans (lcF_congr rfl rfl (h' := fun p s => .ok (some (.int (p.1 : Int))) s) fun p hp s => ?_) lcF_map
    have := ev_first_place (k := k + 1) (s := s) h2 (n := n) p.2
    simp [this, first_head e hp, encO]
  obtain ⟨ρ', e1, E⟩ := loop_foldP (s := s) (g := gN 7) (b := vanB) (enc := fun j : Nat => .int (j : Int)) (vanE q n d (plS n L)) (fun acc j => if (!((plS n L).map (·.1)).contains j) = true then acc ++ [dualRow (plS n L) j] else acc) (xs := List.range n) (a := [])
    (ρ := [some (.val (.int q)), some (.val d), some (.val (.int n)), some (.val (.tup ((plS n L).map fun p => encV n p.2))), some (.val (vanH (plS n L))), none, some (.own (.lst [])), none, none, none, none])
    (fun pre j post hx ρ hρ => by
      have hj : j < n := List.mem_range.mp (by rw [hx]; simp)
      have hle : pre.length ≤ n := by
        have := congrArg List.length hx
        simp at this
        omega
      have := fold_len (fun j => !((plS n L).map (·.1)).contains j) (dualRow (plS n L)) pre []
      exact van_step hn e (by simp at this ⊢; omega) hj hρ) ⟨_, _, _, _, _, rfl⟩
  rw [foldl_filter, List.nil_append, show ((List.range n).filter fun j => !((plS n L).map (·.1)).contains j).map (dualRow (plS n L)) = dualL n (plS n L) from rfl] at E
  obtain ⟨o5, o7, o8, o9, o10, rfl⟩ := E
  have pl2 := ev_plain (k := k) (s := s) h3 hn (d := .lst ((dualL n (plS n L)).map (encV n))) (L := dualL n (plS n L)) rfl (dualL_sups e)
  unfold vanB vanH at e1
  simp [pl1, hlm, hlm.le e.len, hh, e1, pl2]
  rfl
end
end RS

namespace RS
open PySem PySem.Spec
def F_book_of : SM := fun C => (mSeq (mDrop (mCallD (lenG 1 (C "need_field")) (mCons (mVar 0) mNil)))
    (mSeq (mDrop (mCallD (lenG 1 (C "need_length")) (mCons (mVar 1) mNil)))
    (mSeq (mIf (mNotB (mTru (mBl (mIsa "tuple" (mPeek 2))))) (fun _ => M.stop) mNext)
    (mSeq (mFor (mSeqI (mVar 2)) (gN 3) (mDrop (mCallD (lenG 3 (C "need_row")) (mCons (mVar 0) (mCons (mVar 1) (mCons (mVar 3) mNil))))))
    (mRet (mTup (mCons (mVar 0) (mCons (mVar 1) (mCons (mCallD (lenG 2 (C "plain")) (mCons (mVar 0) (mCons (mVar 2) mNil))) mNil)))))))))
def I_book_of (T : CT) : Prop := Has T "book_of" ["q", "n", "rows", "row"] 3 F_book_of ∧ I_need_field T ∧ I_need_length T ∧ I_need_row T ∧ I_plain T
def F_dimension : SM := fun C => (mSeq (mDrop (mCallD (lenG 1 (C "need_book")) (mCons (mVar 0) mNil)))
    (mRet (mCall bLen (mCons (mIxM (mPeek 0) (mC (.int (2)))) mNil))))
def I_dimension (T : CT) : Prop := Has T "dimension" ["book"] 1 F_dimension ∧ I_need_book T
def F_has_word : SM := fun C => (mSeq (mDrop (mCallD (lenG 1 (C "need_book")) (mCons (mVar 0) mNil)))
    (mSeq (mDrop (mCallD (lenG 3 (C "need_row")) (mCons (mIxM (mPeek 0) (mC (.int (0)))) (mCons (mIxM (mPeek 0) (mC (.int (1)))) (mCons (mVar 1) mNil)))))
    (mRet (mCallD (lenG 2 (C "is_word_of")) (mCons (mVar 0) (mCons (mVar 1) mNil))))))
def I_has_word (T : CT) : Prop := Has T "has_word" ["book", "row"] 2 F_has_word ∧ I_is_word_of T ∧ I_need_book T ∧ I_need_row T
def F_partner_of : SM := fun C => (mSeq (mDrop (mCallD (lenG 1 (C "need_book")) (mCons (mVar 0) mNil)))
    (mRet (mCallD (lenG 1 (C "raw_partner")) (mCons (mVar 0) mNil))))
def I_partner_of (T : CT) : Prop := Has T "partner_of" ["book"] 1 F_partner_of ∧ I_need_book T ∧ I_raw_partner T
def F_within : SM := fun C => (mSeq (mDrop (mCallD (lenG 1 (C "need_book")) (mCons (mVar 0) mNil)))
    (mSeq (mIf (mOrB (mNotB (mTru (mBl (mIsa "tuple" (mPeek 1))))) (mNotB (mTru (mCall bAll (mCons (fun ρ => (mLc (mSeqI (mVar 1)) (gN 2) mYes (mCallD (lenG 3 (C "is_between")) (mCons (mVar 2) (mCons (mC (.int (0))) (mCons (mBin .Sub (mIxM (mPeek 0) (mC (.int (1)))) (mC (.int (1)))) mNil)))) [2]) ρ >>= fun ds => pure (.lst ds)) mNil))))) (fun _ => M.stop) mNext)
    (mSeq (mIf (mNotB (mTru (mCall bAll (mCons (fun ρ => (mLc (mZipI (mVar 1) (mSl (mPeek 1) (mP (mC (.int (1)))) mNoP)) (gTp (gCn (gN 3) (gCn (gN 4) gNl)) 2) mYes (mBl (mCmpB .Lt (mPeek 3) (mPeek 4))) [3, 4]) ρ >>= fun ds => pure (.lst ds)) mNil)))) (fun _ => M.stop) mNext)
    (mRet (mCallD (lenG 2 (C "raw_within")) (mCons (mVar 0) (mCons (mVar 1) mNil)))))))
def I_within (T : CT) : Prop := Has T "within" ["book", "places", "place", "one", "other"] 2 F_within ∧ I_is_between T ∧ I_need_book T ∧ I_raw_within T
def F_words_of : SM := fun C => (mSeq (mDrop (mCallD (lenG 1 (C "need_book")) (mCons (mVar 0) mNil)))
    (mSeq (mAsg (mVar 0) (gTp (gCn (gN 1) (gCn (gN 2) (gCn (gN 3) gNl))) 3))
    (mRet (mCall bTuple (mCons (fun ρ => (mCallF (dSorted false) (mCons (mCallD (lenG 3 (C "all_sums")) (mCons (mVar 1) (mCons (mVar 3) (mCons (mVar 2) mNil)))) mNil)) ρ >>= fun ds => pure (.lst ds)) mNil)))))
def I_words_of (T : CT) : Prop := Has T "words_of" ["book", "q", "n", "basis"] 1 F_words_of ∧ I_all_sums T ∧ I_need_book T
end RS

/-! books -/
namespace RS
open PySem PySem.Spec LA L2
section
variable {T : CT} {k : Nat} {s : DS} {q n : Nat} [Pr q]
def encT (n : Nat) (L : List (Vec q)) : D := .tup (L.map (encV n))
def encB (q n : Nat) (L : List (Vec q)) : D := .tup [.int q, .int n, encT n L]
theorem plain_encT {L : List (Vec q)} : (encT n L).plain = true := plains_map fun _ _ => plain_encV
theorem plain_encB {L : List (Vec q)} : (encB q n L).plain = true := by
  show (true && (true && ((encT n L).plain && true))) = true
  rw [plain_encT]; rfl
theorem num_encT {L : List (Vec q)} : (encT n L).num = true := nums_all num_rows
theorem dp_encT {L : List (Vec q)} : dpD (encT n L) ≤ 2 := by
  show dps _ + 1 ≤ 2
  have := dps_le (dp_rows (n := n) (L := L))
  omega
theorem encT_inj {L M : List (Vec q)} (h : Sups n L) (k : Sups n M) : encT n L = encT n M ↔ L = M := by
  constructor
  · intro e
    unfold encT at e
    injection e with e
    exact rows_inj h k e
  · rintro rfl; rfl
theorem ev_plain_T (h : I_plain T) (hn : n < 64) {L : List (Vec q)} (hL : Sups n L) : callD T (k + 2) "plain" [.int q, encT n L] s = .ok (encT n (pl n L)) s := ev_plain h hn rfl hL
theorem ev_plain_L (h : I_plain T) (hn : n < 64) {L : List (Vec q)} (hL : Sups n L) : callD T (k + 2) "plain" [.int q, .lst (L.map (encV n))] s = .ok (encT n (pl n L)) s := ev_plain h hn rfl hL
theorem ev_van_T (h : I_vanishing T) (hn : n < 64) {L : List (Vec q)} (hL : Sups n L) : callD T (k + 3) "vanishing" [.int q, encT n L, .int n] s = .ok (encT n (van n L)) s := ev_vanishing h hn rfl hL
theorem ev_van_L (h : I_vanishing T) (hn : n < 64) {L : List (Vec q)} (hL : Sups n L) : callD T (k + 3) "vanishing" [.int q, .lst (L.map (encV n)), .int n] s = .ok (encT n (van n L)) s := ev_vanishing h hn rfl hL
theorem ev_is_plain_T (h : I_is_plain_value T) (hn : n < 64) {L : List (Vec q)} (hL : Sups n L) (hl : L.length ≤ 100000) : callD T (k + 4) "is_plain_value" [.int q, .int n, encT n L] s = .ok (.bl (decide (encT n (pl n L) = encT n L))) s := by
  obtain ⟨h1, h2, h3⟩ := h
  have hlm : Lm n := Lm.of (by omega)
  have hlL : Lm L.length := Lm.of (by omega)
  rw [callD_has h1 rfl]
  unfold F_is_plain_value
  have e := eq_num (num_encT (n := n) (L := pl n L)) (num_encT (n := n) (L := L)) (Nat.le_trans dp_encT (by omega)) (Nat.le_trans dp_encT (by omega))
  have p := ev_plain_T (k := k + 1) (s := s) h3 hn hL
  have r : ∀ v : Vec q, ∀ s, callD T (k + 3) "is_row_value" [.int q, .int n, encV n v] s = .ok (.bl true) s := fun v s => by
    rw [ev_is_row_value h2 plain_encV hlm, row_enc]
  unfold encT at *
  simp [hlL, r, p, e]
theorem ev_is_plain_ok (h : I_is_plain_value T) (hn : n < 64) {L : List (Vec q)} (hL : Plain n L) : callD T (k + 4) "is_plain_value" [.int q, .int n, encT n L] s = .ok (.bl true) s := by
  rw [ev_is_plain_T h hn hL.sups (by have := hL.len; omega), hL.pl]; simp
theorem ev_is_book_ok (h : I_is_book_value T) (h2 : 2 ≤ n) (h3 : n ≤ 12) {L : List (Vec q)} (hL : Plain n L) : callD T (k + 5) "is_book_value" [encB q n L] s = .ok (.bl true) s := by
  obtain ⟨h1, i1, i2, i3⟩ := h
  rw [callD_has h1 rfl]
  unfold F_is_book_value
  have e1 := ev_is_field_value (k := k + 2) (s := s) i2 (d := .int q) rfl
  have e2 := ev_is_between (k := k + 2) (s := s) i1 (d := .int n) (lo := 2) (hi := 12) rfl
  have e3 := ev_is_plain_ok (k := k) (s := s) i3 (by omega) hL
  have b : isBt 2 12 (.int n) = true := by simp [isBt]; omega
  rw [fld_q] at e1
  rw [b] at e2
  unfold encB
  simp [e1, e2, e3]
theorem ev_need_book (h : I_need_book T) (h2 : 2 ≤ n) (h3 : n ≤ 12) {L : List (Vec q)} (hL : Plain n L) : callD T (k + 6) "need_book" [encB q n L] s = .ok .non s := by
  obtain ⟨h1, i1⟩ := h
  rw [callD_has h1 rfl]
  unfold F_need_book
  simp [ev_is_book_ok (k := k) (s := s) i1 h2 h3 hL]
theorem ev_raw_partner (h : I_raw_partner T) (hn : n < 64) {L : List (Vec q)} (hL : Sups n L) : callD T (k + 4) "raw_partner" [encB q n L] s = .ok (encB q n (van n L)) s := by
  obtain ⟨h1, i1⟩ := h
  rw [callD_has h1 rfl]
  unfold F_raw_partner
  have e := ev_van_T (k := k) (s := s) i1 hn hL
  unfold encB
  simp [e]
theorem ev_is_word_of (h : I_is_word_of T) (hn : n < 64) {L : List (Vec q)} (hL : Sups n L) (v : Vec q) : callD T (k + 5) "is_word_of" [encB q n L, encV n v] s = .ok (.bl ((van n L).all fun o => decide (dot n v o = 0))) s := by
  obtain ⟨h1, i1, i2⟩ := h
  have hlm : Lm n := Lm.of (by omega)
  rw [callD_has h1 rfl]
  unfold F_is_word_of
  have e := ev_raw_partner (k := k) (s := s) i2 hn hL
  have hl : Lm (van n L).length := hlm.le (van_plain hL).len
  have m : ∀ o : Vec q, ∀ s, callD T (k + 4) "meet" [.int q, encV n v, encV n o] s = .ok (.int ((dot n v o).val : Nat)) s := fun o s => ev_meet i1 hlm v o
  unfold encB at *
  unfold encT at *
  simp [e, hl, m]
open Classical in
theorem word_all {L : List (Vec q)} (hL : Sups n L) {v : Vec q} (hv : Sup n v) : ((van n L).all fun o => decide (dot n v o = 0)) = decide (Span L v) := by
  rw [Bool.eq_iff_iff, List.all_eq_true, decide_eq_true_eq]
  have h1 : Span L v ↔ Perp n (van n L) v := by
    rw [← van_iff (van_sups hL), van_van hL]
    exact (pl_same hL v).symm
  rw [h1]
  constructor
  · intro h
    exact ⟨hv, fun r hr => by rw [dot_comm]; exact of_decide_eq_true (h r hr)⟩
  · intro h o ho
    exact decide_eq_true (by rw [dot_comm]; exact h.2 o ho)
/-- places -/
def encN (l : List Nat) : D := .tup (l.map fun i : Nat => .int (i : Int))
def barred (n : Nat) (l : List Nat) : List Nat := (List.range n).filter fun i => !l.contains i
noncomputable def wth (n : Nat) (L : List (Vec q)) (l : List Nat) : List (Vec q) := van n (van n L ++ (barred n l).map unit)
theorem unit_sup {j : Nat} (h : j < n) : Sup n (unit j : Vec q) := fun i hi => if_neg (by omega)
theorem wth_sups {L : List (Vec q)} (hL : Sups n L) (l : List Nat) : Sups n (van n L ++ (barred n l).map unit) := (van_sups hL).append fun r hr => by
  obtain ⟨j, hj, rfl⟩ := List.mem_map.mp hr
  exact unit_sup (List.mem_range.mp (List.mem_filter.mp hj).1)
theorem notin_encN {i : Nat} {l : List Nat} : dCmp .NotIn (.int (i : Int)) (encN l) = some (!l.contains i) := by
  unfold encN
  have : (l.map fun i : Nat => D.int (i : Int)) = (l.map fun i : Nat => (i : Int)).map D.int := by rw [List.map_map]; rfl
  rw [this, notin_ints_t]
  congr 2
  rw [Bool.eq_iff_iff]
  simp only [decide_eq_true_eq, List.contains_iff_mem, List.mem_map]
  constructor
  · rintro ⟨x, hx, e⟩
    have : x = i := by omega
    rw [← this]; exact hx
  · intro h
    exact ⟨i, h, rfl⟩
theorem ev_raw_within (h : I_raw_within T) (hn : n < 64) {L : List (Vec q)} (hL : Sups n L) (l : List Nat) : callD T (k + 5) "raw_within" [encB q n L, encN l] s = .ok (encB q n (wth n L l)) s := by
  obtain ⟨h1, i1, i2, i3⟩ := h
  have hlm : Lm n := Lm.of (by omega)
  rw [callD_has h1 rfl]
  unfold F_raw_within
  have e := ev_raw_partner (k := k) (s := s) i1 hn hL
  have u : ∀ j : Nat, ∀ s, callD T (k + 4) "unit_row" [.int n, .int (j : Int)] s = .ok (encV n (unit j : Vec q)) s := fun j s => ev_unit_row i2 hlm j
  have v := ev_van_L (k := k + 1) (s := s) i3 hn (wth_sups hL l)
  have hl1 : (van n L).length ≤ n := (van_plain hL).len
  have hl2 : (barred n l).length ≤ n := by
    have := List.length_filter_le (fun i => !l.contains i) (List.range n)
    unfold barred
    simpa using this
  have ad : dBin .Add (.lst ((van n L).map (encV n))) (.lst ((barred n l).map fun j => encV n (unit j : Vec q))) = some (.lst ((van n L ++ (barred n l).map unit).map (encV n))) := by
    have : dBin .Add (.lst ((van n L).map (encV n))) (.lst ((barred n l).map fun j => encV n (unit j : Vec q))) = some (.lst ((van n L).map (encV n) ++ (barred n l).map fun j => encV n (unit j : Vec q))) := if_pos (by
      simp only [List.length_map]
      have : lim = 16777216 := rfl
      omega)
    rw [this, List.map_append, List.map_map]; rfl
  unfold wth
  unfold encB at *
  unfold encT at *
  simp [hlm, notin_encN, u, e]
  unfold barred at ad v
  simp at ad v
  simp [ad, v, barred]
end
end RS

/-! what is asked of books -/
namespace RS
open PySem PySem.Spec LA L2
section
variable {T : CT} {k : Nat} {s : DS} {q n : Nat} [Pr q]
theorem ix_B0 {L : List (Vec q)} : dIxM (encB q n L) (.int 0) s = .ok (.int q) s := by unfold encB; simp
theorem ix_B1 {L : List (Vec q)} : dIxM (encB q n L) (.int 1) s = .ok (.int n) s := by unfold encB; simp
theorem ix_B2 {L : List (Vec q)} : dIxM (encB q n L) (.int 2) s = .ok (encT n L) s := by unfold encB; simp
theorem len_T {L : List (Vec q)} : bLen [encT n L] = some (.int (L.length : Int)) := by unfold encT; simp
theorem ev_dimension (h : I_dimension T) (h2 : 2 ≤ n) (h3 : n ≤ 12) {L : List (Vec q)} (hL : Plain n L) : callD T (k + 7) "dimension" [encB q n L] s = .ok (.int (L.length : Int)) s := by
  obtain ⟨h1, i1⟩ := h
  rw [callD_has h1 rfl]
  unfold F_dimension
  simp [ev_need_book (k := k) i1 h2 h3 hL, ix_B2, len_T]
theorem ev_partner_of (h : I_partner_of T) (h2 : 2 ≤ n) (h3 : n ≤ 12) {L : List (Vec q)} (hL : Plain n L) : callD T (k + 7) "partner_of" [encB q n L] s = .ok (encB q n (van n L)) s := by
  obtain ⟨h1, i1, i2⟩ := h
  rw [callD_has h1 rfl]
  unfold F_partner_of
  have e := ev_raw_partner (k := k + 2) (s := s) i2 (n := n) (by omega) hL.sups
  simp [ev_need_book (k := k) i1 h2 h3 hL, e]
open Classical in
theorem ev_has_word (h : I_has_word T) (h2 : 2 ≤ n) (h3 : n ≤ 12) {L : List (Vec q)} (hL : Plain n L) {v : Vec q} (hv : Sup n v) : callD T (k + 7) "has_word" [encB q n L, encV n v] s = .ok (.bl (decide (Span L v))) s := by
  obtain ⟨h1, i1, i2, i3⟩ := h
  have hlm : Lm n := Lm.of (by omega)
  rw [callD_has h1 rfl]
  unfold F_has_word
  have e := ev_is_word_of (k := k + 1) (s := s) i1 (n := n) (by omega) hL.sups v
  rw [word_all hL.sups hv] at e
  simp [ev_need_book (k := k) i2 h2 h3 hL, ix_B0, ix_B1, ev_need_row (k := k + 2) i3 hlm v, e]
/-- ascending places -/
def AscN (n : Nat) (l : List Nat) : Prop := l.Pairwise (· < ·) ∧ ∀ i ∈ l, i < n
theorem AscN.len {n : Nat} {l : List Nat} (h : AscN n l) : l.length ≤ n := by
  have := nodup_sub_len (l := l) (m := List.range n) (h.1.imp fun {a b} h => Nat.ne_of_lt h) fun x hx => List.mem_range.mpr (h.2 x hx)
  simpa using this
theorem zip_asc : ∀ {l : List Nat}, l.Pairwise (· < ·) → ∀ p ∈ l.zip l.tail, p.1 < p.2
  | [], _, p, h => by simp at h
  | [x], _, p, h => by simp at h
  | x :: y :: l, h, p, hp => by
    have h' := List.pairwise_cons.mp h
    simp only [List.tail_cons, List.zip_cons_cons, List.mem_cons] at hp
    rcases hp with rfl | hp
    · exact h'.1 y (.head _)
    · exact zip_asc h'.2 p (by simpa using hp)
theorem sl_1 {l : List Nat} : dSl (encN l) (some 1) none = some (encN l.tail) := by
  have := sl_from_t (xs := l.map fun i : Nat => D.int (i : Int)) (a := 1)
  rw [← List.map_drop, List.drop_one] at this
  exact this
open Classical in
theorem ev_book_of (h : I_book_of T) (h2 : 2 ≤ n) (h3 : n ≤ 12) {L : List (Vec q)} (hL : Sups n L) : callD T (k + 5) "book_of" [.int q, .int n, encT n L] s = .ok (encB q n (pl n L)) s := by
  obtain ⟨h1, i1, i2, i3, i4⟩ := h
  have hlm : Lm n := Lm.of (by omega)
  rw [callD_has h1 rfl]
  unfold F_book_of
  obtain ⟨ρ', e1, o, rfl⟩ := loop_foldW (s := s) (g := gN 3) (b := mDrop (mCallD (lenG 3 (callD T (k + 4) "need_row")) (mCons (mVar 0) (mCons (mVar 1) (mCons (mVar 3) mNil))))) (enc := encV n) (fun (_ : Unit) ρ => ∃ o, ρ = [some (.val (.int q)), some (.val (.int n)), some (.val (encT n L)), o]) (fun _ _ => ()) (xs := L) (a := ())
    (ρ := [some (.val (.int q)), some (.val (.int n)), some (.val (encT n L)), none]) (fun v hv _ ρ hρ => by
      obtain ⟨o, rfl⟩ := hρ
      simp [ev_need_row (k := k) i3 hlm v]) ⟨_, rfl⟩
  have it : dIsa "tuple" (encT n L) = some true := rfl
  have sq : dSeq (encT n L) = some (L.map (encV n)) := rfl
  simp [ev_need_field (k := k + 1) i1, ev_need_length (k := k + 1) i2 h2 h3, it, sq, e1, ev_plain_T (k := k + 2) (s := s) i4 (n := n) (by omega) hL, encB]
theorem ev_within (h : I_within T) (h2 : 2 ≤ n) (h3 : n ≤ 12) {L : List (Vec q)} (hL : Plain n L) {l : List Nat} (hl : AscN n l) : callD T (k + 7) "within" [encB q n L, encN l] s = .ok (encB q n (wth n L l)) s := by
  obtain ⟨h1, i1, i2, i3⟩ := h
  rw [callD_has h1 rfl]
  unfold F_within
  have e := ev_raw_within (k := k + 1) (s := s) i3 (n := n) (by omega) hL.sups l
  have hll := hl.len
  have hlm : Lm l.length := Lm.of (by omega)
  have hzl : Lm (l.length - 1) := hlm.le (by omega)
  have bt : ∀ i : Nat, ∀ s, i ∈ l → callD T (k + 6) "is_between" [.int (i : Int), .int 0, .int ((n : Int) - 1)] s = .ok (.bl true) s := fun i s hi => by
    rw [ev_is_between i1 (d := .int (i : Int)) rfl]
    have := hl.2 i hi
    have : isBt 0 ((n : Int) - 1) (.int (i : Int)) = true := by simp [isBt]; omega
    rw [this]
  have g1 : mLcGo (gN 2) mYes (mCallD (lenG 3 (callD T (k + 6) "is_between")) (mCons (mVar 2) (mCons (mC (.int (0))) (mCons (mBin .Sub (mIxM (mPeek 0) (mC (.int (1)))) (mC (.int (1)))) mNil)))) [some (.val (encB q n L)), some (.val (encN l)), none, none, none] (l.map fun i : Nat => .int (i : Int)) s = .ok (l.map fun _ => .bl true) s := by
    rw [lcGo_F]
    refine Eq.trans (lcF_congr rfl rfl (h' := fun i s => .ok (some (.bl true)) s) fun i hi s => ?_) lcF_map
    simp [ix_B1, bt i s hi]
  have g2 : mLcGo (gTp (gCn (gN 3) (gCn (gN 4) gNl)) 2) mYes (mBl (mCmpB .Lt (mPeek 3) (mPeek 4))) [some (.val (encB q n L)), some (.val (encN l)), none, none, none] ((l.zip l.tail).map fun p => .tup [.int (p.1 : Int), .int (p.2 : Int)]) s = .ok ((l.zip l.tail).map fun _ => .bl true) s := by
    rw [lcGo_F]
    refine Eq.trans (lcF_congr rfl rfl (h' := fun i s => .ok (some (.bl true)) s) fun p hp s => ?_) lcF_map
    have := zip_asc hl.1 p hp
    simp [this]
  have sq : dSeq (encN l) = some (l.map fun i : Nat => .int (i : Int)) := rfl
  have zz : dZipI (encN l) (encN l.tail) = some ((l.zip l.tail).map fun p => .tup [.int (p.1 : Int), .int (p.2 : Int)]) := by
    unfold encN
    rw [zip_tt, dZip_zip]
  have it : dIsa "tuple" (encN l) = some true := rfl
  have al : ∀ {α : Type} (xs : List α), (xs.all fun _ => true) = true := fun xs => by simp
  simp [-lcGo_F, ev_need_book (k := k) i2 h2 h3 hL, it, sq, hlm, g1, sl_1, zz, hzl, g2, al, e]
end
end RS

/-! draws: what comes of a state that is not known -/
namespace RS
open PySem PySem.Spec LA L2
section
variable {α β : Type} {P : α → DS → Prop}
@[simp] theorem W_ok {a : α} {s : DS} : W (.ok a s) P = P a s := propext ⟨fun ⟨b, s', e, p⟩ => by cases e; exact p, fun p => ⟨a, s, rfl, p⟩⟩
theorem W_bind {r : R β} {f : β → DS → R α} : W (R.bind r f) P = W r fun b s => W (f b s) P := propext ⟨fun ⟨a, s, e, p⟩ => (by
  cases r with
  | ok b s1 => exact ⟨b, s1, rfl, a, s, e, p⟩
  | exc => cases e
  | stuck => cases e), fun ⟨b, s1, e, a, s, e2, p⟩ => ⟨a, s, by rw [e]; exact e2, p⟩⟩
theorem W_imp {r : R α} {Q : α → DS → Prop} (h : W r Q) (k : ∀ a s, Q a s → P a s) : W r P := h.mono k
theorem W_calm {r : R α} : W r P → W (R.calm r) P := fun ⟨a, s, e, p⟩ => ⟨a, s, by rw [e]; rfl, p⟩
@[simp] theorem W_calm' {r : R α} : W (R.calm r) P = W r P := propext ⟨fun ⟨a, s, e, p⟩ => (by
  cases r with
  | ok b s1 => exact ⟨a, s, e, p⟩
  | exc => cases e
  | stuck => cases e), W_calm⟩
theorem W_ite {c : Prop} [Decidable c] {x y : R α} : W (if c then x else y) P = if c then W x P else W y P := by split <;> rfl
theorem W_eq {r : R α} {a : α} {s : DS} (h : r = .ok a s) (p : P a s) : W r P := ⟨a, s, h, p⟩
/-- what holds of things one by one -/
inductive All2 {α β : Type} (Q : α → β → Prop) : List α → List β → Prop
  | nil : All2 Q [] []
  | cons {x : α} {y : β} {xs : List α} {ys : List β} : Q x y → All2 Q xs ys → All2 Q (x :: xs) (y :: ys)
theorem All2.len {Q : α → β → Prop} : ∀ {xs : List α} {ys : List β}, All2 Q xs ys → ys.length = xs.length
  | _, _, .nil => rfl
  | _, _, .cons _ t => congrArg Nat.succ t.len
theorem All2.right {Q : α → β → Prop} {p : β → Prop} (h : ∀ x y, Q x y → p y) : ∀ {xs : List α} {ys : List β}, All2 Q xs ys → ∀ y ∈ ys, p y
  | _, _, .nil => by simp
  | _, _, .cons q t => fun y hy => by
    rcases List.mem_cons.mp hy with rfl | hy
    · exact h _ _ q
    · exact t.right h y hy
theorem All2.choose {γ : Type} {Q : α → γ → Prop} {enc : γ → β} : ∀ {xs : List α} {ys : List β}, All2 (fun x y => ∃ g, Q x g ∧ y = enc g) xs ys → ∃ gs : List γ, ys = gs.map enc ∧ All2 Q xs gs
  | _, _, .nil => ⟨[], rfl, .nil⟩
  | _, _, .cons ⟨g, q, e⟩ t => by
    obtain ⟨gs, e2, t2⟩ := t.choose
    exact ⟨g :: gs, by rw [e, e2]; rfl, .cons q t2⟩
/-- a walk whose steps draw -/
theorem lcF_W {γ : Type} {J : DS → Prop} {Q : γ → D → Prop} {h : γ → DS → R (Option D)} : ∀ {xs : List γ} {s : DS}, (∀ x, x ∈ xs → ∀ s, J s → W (h x s) fun o s' => J s' ∧ ∃ y, o = some y ∧ Q x y) → J s → W (lcF h xs s) fun ys s' => J s' ∧ All2 Q xs ys
  | [], s, _, hs => ⟨[], s, rfl, hs, .nil⟩
  | x :: xs, s, k, hs => by
    obtain ⟨o, s1, e1, j1, y, rfl, q⟩ := k x (.head _) s hs
    obtain ⟨ys, s2, e2, j2, a2⟩ := lcF_W (xs := xs) (fun z hz => k z (.tail _ hz)) j1
    refine ⟨y :: ys, s2, ?_, j2, .cons q a2⟩
    unfold lcF
    rw [e1, bindk, e2, bindk]; rfl
/-- a loop whose steps draw: goes on to the end, or ends early with what is told -/
theorem loop_W {γ : Type} {g : Tg} {b : MS} {enc : γ → D} (J : Env → DS → Prop) (Pr : D → DS → Prop) : ∀ {xs : List γ} {ρ : Env} {s : DS}, (∀ x, x ∈ xs → ∀ ρ s, J ρ s → W (R.bind (ofO (g (enc x) ρ) s) fun ρ1 s => b ρ1 s) fun o s' => match o with
    | .nx ρ' => J ρ' s'
    | .rt d => Pr d s'
    | _ => False) → J ρ s → W (mLoop g b (xs.map enc) ρ s) fun o s' => match o with
    | .nx ρ' => J ρ' s'
    | .rt d => Pr d s'
    | _ => False
  | [], ρ, s, _, h => ⟨.nx ρ, s, rfl, h⟩
  | x :: xs, ρ, s, k, h => by
    obtain ⟨o, s1, e1, p1⟩ := k x (.head _) ρ s h
    rw [List.map_cons, loop_cons, e1, bindk]
    cases o with
    | nx ρ1 => exact loop_W J Pr (xs := xs) (fun y hy => k y (.tail _ hy)) p1
    | rt d => exact ⟨.rt d, s1, rfl, p1⟩
    | bk => exact p1.elim
    | ct => exact p1.elim
end

/-! ### the deck -/
def dk (fd : Str) (cs : List Int) (m t : Int) : DS := some ⟨cs, [("mixed", m), (fd, t)]⟩
def okFd (fd : Str) : Prop := fd = "draws" ∨ fd = "turn"
/-- a deck as the law leaves it -/
def Wf (fd : Str) (s : DS) : Prop := ∃ cs m t, s = dk fd cs m t ∧ cs.length ≤ 63
theorem ix_t {fd : Str} (h : okFd fd) {cs : List Int} {m t : Int} : dIxM .deck (.str fd) (dk fd cs m t) = .ok (.int t) (dk fd cs m t) := by
  rcases h with rfl | rfl
  · kernel_rfl
  · kernel_rfl
theorem ix_m {fd : Str} (h : okFd fd) {cs : List Int} {m t : Int} : dIxM .deck (.str "mixed") (dk fd cs m t) = .ok (.int m) (dk fd cs m t) := by
  rcases h with rfl | rfl
  · kernel_rfl
  · kernel_rfl
theorem put_t {fd : Str} (h : okFd fd) {cs : List Int} {m t u : Int} {ρ : Env} : mPutDk ρ (.str fd) (.int u) (dk fd cs m t) = .ok (.nx ρ) (dk fd cs m u) := by
  rcases h with rfl | rfl
  · kernel_rfl
  · kernel_rfl
theorem pow18 : dBin .Pow (.int 10) (.int 18) = some (.int (10 ^ 18)) := by kernel_rfl
def drawF (fd : Str) (a m1 a2 b2 m2 a3 b3 m3 a4 m4 : Int) : SM := fun C => (mSeq (mPut 0 (mBin .Add (mIxM (mPeek 0) (mC (.str fd))) (mC (.int (1)))) (mC (.str fd)))
    (mSeq (mAsg (mBin .Add (mIxM (mPeek 0) (mC (.str "mixed"))) (mBin .Mult (mC (.int a)) (mIxM (mPeek 0) (mC (.str fd))))) (gN 2))
    (mSeq (mIf (mCellsNe 0) (mSeq (mAsg (mCellsPop 0) (gN 3))
    (mSeq (mIf (mCmpB .GtE (mPeek 3) (mBin .Pow (mC (.int (10))) (mC (.int (18))))) (mSeq (mCellsApp 0 (mBin .FloorDiv (mPeek 3) (mCall bMax (mCons (mC (.int (2))) (mCons (mPeek 1) mNil)))))
    (mRet (mBin .Mod (mCall bInt (mCons (mPeek 3) mNil)) (mPeek 1)))) mNext)
    (mAsg (mBin .Add (mPeek 2) (mBin .Mod (mCall bInt (mCons (mPeek 3) mNil)) (mC (.int m1)))) (gN 2)))) mNext)
    (mSeq (mAsg (mBin .Mod (mCall bInt (mCons (mBin .Add (mBin .Mult (mPeek 2) (mC (.int a2))) (mC (.int b2))) mNil)) (mC (.int m2))) (gN 2))
    (mSeq (mAsg (mBin .Mod (mCall bInt (mCons (mBin .Add (mBin .Add (mBin .Mult (mPeek 2) (mPeek 2)) (mBin .Mult (mC (.int a3)) (mIxM (mPeek 0) (mC (.str fd))))) (mC (.int b3))) mNil)) (mC (.int m3))) (gN 2))
    (mSeq (mAsg (mBin .Mod (mCall bInt (mCons (mBin .Mult (mPeek 2) (mC (.int a4))) mNil)) (mC (.int m4))) (gN 2))
    (mRet (mBin .Mod (mCall bInt (mCons (mBin .FloorDiv (mPeek 2) (mC (.int (64)))) mNil)) (mPeek 1)))))))))
structure DrawC (fd : Str) (a m1 a2 m2 a3 m3 a4 m4 : Int) : Prop where
  fd : okFd fd
  a : Smi a
  m1 : 0 < m1
  a2 : Smi a2
  m2 : 0 < m2 ∧ m2 < 2 ^ 63
  a3 : Smi a3
  m3 : 0 < m3
  a4 : Smi a4
  m4 : 0 < m4
theorem deckO_deck : deckO (some (.val .deck)) = true := rfl
/-- draws are right: below what is asked, and the deck stays a deck -/
structure Drw (T : CT) (fd : Str) : Prop where
  go : ∀ (k : Nat) (s : DS) (b : Nat), Wf fd s → 0 < b → b < 1073741824 → W (callD T (k + 1) "_law_draw" [.deck, .int b] s) fun d s' => (∃ r : Nat, r < b ∧ d = .int (r : Int)) ∧ Wf fd s'
def drawEnd (fd : Str) (a2 b2 m2 a3 b3 m3 a4 m4 : Int) : MS := (mSeq (mAsg (mBin .Mod (mCall bInt (mCons (mBin .Add (mBin .Mult (mPeek 2) (mC (.int a2))) (mC (.int b2))) mNil)) (mC (.int m2))) (gN 2))
    (mSeq (mAsg (mBin .Mod (mCall bInt (mCons (mBin .Add (mBin .Add (mBin .Mult (mPeek 2) (mPeek 2)) (mBin .Mult (mC (.int a3)) (mIxM (mPeek 0) (mC (.str fd))))) (mC (.int b3))) mNil)) (mC (.int m3))) (gN 2))
    (mSeq (mAsg (mBin .Mod (mCall bInt (mCons (mBin .Mult (mPeek 2) (mC (.int a4))) mNil)) (mC (.int m4))) (gN 2))
    (mRet (mBin .Mod (mCall bInt (mCons (mBin .FloorDiv (mPeek 2) (mC (.int (64)))) mNil)) (mPeek 1))))))
theorem draw_end {fd : Str} {a m1 a2 b2 m2 a3 b3 m3 a4 m4 : Int} (H : DrawC fd a m1 a2 m2 a3 m3 a4 m4) {cs : List Int} {m t f : Int} {b : Nat} {o : Option Sl} (hb : 0 < b) (hl : cs.length ≤ 63) :
    W (drawEnd fd a2 b2 m2 a3 b3 m3 a4 m4 [some (.val .deck), some (.val (.int b)), some (.val (.int f)), o] (dk fd cs m t)) fun o s' => match o with
      | .rt d => (∃ r : Nat, r < b ∧ d = .int (r : Int)) ∧ Wf fd s'
      | _ => False := by
  have h1 := Int.emod_nonneg (f * a2 + b2) (b := m2) (by have := H.m2.1; omega)
  have h2 := Int.emod_lt_of_pos (f * a2 + b2) H.m2.1
  have h3 : Smi ((f * a2 + b2) % m2) := by have := H.m2.2; unfold Smi; omega
  unfold drawEnd
  simp only [ev_seq, ev_asg, ev_bin, ev_call, ev_cons, ev_nil, ev_peek, ev_C, look_0, look_s, rdP_val, bindk, mul_r H.a2, add_int, ofO_some, bint_int, mod_pos H.m2.1, gN_eq, setS_0, setS_s, Option.map_some, seqO_nx, mul_l h3, ev_ixM, ix_t H.fd, mul_l H.a3, mod_pos H.m3, mul_r H.a4, mod_pos H.m4, ev_ret, div_pos (show (0 : Int) < 64 ∧ (64 : Int) < 1073741824 by decide), mod_pos (show (0 : Int) < (b : Int) by omega), W_ok]
  generalize ((((f * a2 + b2) % m2 * ((f * a2 + b2) % m2) + a3 * t + b3) % m3 * a4) % m4 / 64) = z
  have r0 := Int.emod_nonneg z (b := (b : Int)) (by omega)
  have r1 := Int.emod_lt_of_pos z (b := (b : Int)) (by omega)
  exact ⟨⟨(z % (b : Int)).toNat, by omega, by congr 1; omega⟩, cs, m, t, rfl, hl⟩
theorem draw_ok {T : CT} {fd : Str} {a m1 a2 b2 m2 a3 b3 m3 a4 m4 : Int} {N : List Str} (hN : N.length = 4) (H : DrawC fd a m1 a2 m2 a3 m3 a4 m4) (h : Has T "_law_draw" N 2 (drawF fd a m1 a2 b2 m2 a3 b3 m3 a4 m4)) : Drw T fd := ⟨fun k s b hs h0 hb => by
  obtain ⟨cs, m, t, rfl, hl⟩ := hs
  rw [callD_has h rfl]
  have hst : startE N [.deck, .int (b : Int)] = [some (.val .deck), some (.val (.int (b : Int))), none, none] := by
    unfold startE
    rw [hN]; rfl
  rw [hst, W_bind]
  have e0 : drawF fd a m1 a2 b2 m2 a3 b3 m3 a4 m4 (callD T k) = (mSeq (mPut 0 (mBin .Add (mIxM (mPeek 0) (mC (.str fd))) (mC (.int (1)))) (mC (.str fd)))
    (mSeq (mAsg (mBin .Add (mIxM (mPeek 0) (mC (.str "mixed"))) (mBin .Mult (mC (.int a)) (mIxM (mPeek 0) (mC (.str fd))))) (gN 2))
    (mSeq (mIf (mCellsNe 0) (mSeq (mAsg (mCellsPop 0) (gN 3))
    (mSeq (mIf (mCmpB .GtE (mPeek 3) (mBin .Pow (mC (.int (10))) (mC (.int (18))))) (mSeq (mCellsApp 0 (mBin .FloorDiv (mPeek 3) (mCall bMax (mCons (mC (.int (2))) (mCons (mPeek 1) mNil)))))
    (mRet (mBin .Mod (mCall bInt (mCons (mPeek 3) mNil)) (mPeek 1)))) mNext)
    (mAsg (mBin .Add (mPeek 2) (mBin .Mod (mCall bInt (mCons (mPeek 3) mNil)) (mC (.int m1)))) (gN 2)))) mNext) (drawEnd fd a2 b2 m2 a3 b3 m3 a4 m4)))) := rfl
  rw [e0]
  have fin : ∀ {cs : List Int} {m t f : Int} {o : Option Sl}, cs.length ≤ 63 → W (drawEnd fd a2 b2 m2 a3 b3 m3 a4 m4 [some (.val .deck), some (.val (.int b)), some (.val (.int f)), o] (dk fd cs m t)) fun o s' => W (finO o s') fun d s' => (∃ r : Nat, r < b ∧ d = .int (r : Int)) ∧ Wf fd s' := fun {cs m t f o} hl =>
    W_imp (draw_end H h0 hl) fun o s' p => by
      cases o with
      | rt d => simpa using p
      | _ => exact p.elim
  simp only [ev_seq, ev_put, ev_bin, ev_ixM, ev_peek, ev_C, look_0, look_s, rdP_val, bindk, ix_t H.fd, add_int, ofO_some, deckO_deck, if_true, put_t H.fd, seqO_nx, ev_asg, ix_m H.fd, mul_l H.a, gN_eq, setS_0, setS_s, Option.map_some, ev_if]
  generalize hf : m + a * (t + 1) = f
  generalize ht : t + 1 = t'
  cases hc : cs.getLast? with
  | none =>
    have ec : cs = [] := List.getLast?_eq_none_iff.mp hc
    subst ec
    have q1 : mCellsNe 0 [some (.val .deck), some (.val (.int (b : Int))), some (.val (.int f)), none] (dk fd [] m t') = .ok false (dk fd [] m t') := rfl
    simp only [q1, bindk, Bool.false_eq_true, if_false, ev_next, seqO_nx]
    exact fin hl
  | some y =>
    have hne : cs ≠ [] := fun e => by rw [e] at hc; cases hc
    have q1 : mCellsNe 0 [some (.val .deck), some (.val (.int (b : Int))), some (.val (.int f)), none] (dk fd cs m t') = .ok true (dk fd cs m t') := by
      show R.ok (!cs.isEmpty) (dk fd cs m t') = _
      rw [List.isEmpty_eq_false_iff.mpr hne]; rfl
    have q2 : mCellsPop 0 [some (.val .deck), some (.val (.int (b : Int))), some (.val (.int f)), none] (dk fd cs m t') = .ok (.int y) (dk fd cs.dropLast m t') := by
      show (match cs.getLast? with
        | some y => R.ok (D.int y) (dk fd cs.dropLast m t')
        | none => .stuck) = _
      rw [hc]
    have hld : cs.dropLast.length ≤ 62 := by rw [List.length_dropLast]; omega
    simp only [q1, bindk, if_true, q2, ev_seq, ev_asg, gN_eq, setS_0, setS_s, Option.map_some, ofO_some, seqO_nx, ev_if, ev_cmpB, ev_peek, look_0, look_s, rdP_val, ev_bin, ev_C, pow18, ge_int]
    by_cases hy : (10 : Int) ^ 18 ≤ y
    · have hmx : bMax [.int 2, .int (b : Int)] = some (.int (if (b : Int) > 2 then (b : Int) else 2)) := rfl
      have q5 : mCellsApp 0 (mBin .FloorDiv (mPeek 3) (mCall bMax (mCons (mC (.int (2))) (mCons (mPeek 1) mNil)))) [some (.val .deck), some (.val (.int (b : Int))), some (.val (.int f)), some (.val (.int y))] (dk fd cs.dropLast m t') = .ok (.nx [some (.val .deck), some (.val (.int (b : Int))), some (.val (.int f)), some (.val (.int y))]) (dk fd (cs.dropLast ++ [y / (if (b : Int) > 2 then (b : Int) else 2)]) m t') := by
        unfold mCellsApp
        rw [if_pos (show isDeck _ 0 = true from rfl), bnd_eq]
        simp only [ev_bin, ev_peek, look_0, look_s, rdP_val, ev_call, ev_cons, ev_C, ev_nil, bindk, hmx, ofO_some, div_pos (show (0 : Int) < (if (b : Int) > 2 then (b : Int) else 2) ∧ (if (b : Int) > 2 then (b : Int) else 2) < 1073741824 by split <;> omega)]
        show (if cs.dropLast.length < lim then (R.ok _ _ : R O) else .stuck) = _
        rw [if_pos (Nat.lt_of_le_of_lt hld (by decide))]
        rfl
      simp only [decide_eq_true hy, if_true, q5, bindk, seqO_nx, ev_ret, ev_bin, ev_call, ev_cons, ev_nil, ev_peek, look_0, look_s, rdP_val, bint_int, ofO_some, mod_pos (show (0 : Int) < (b : Int) by omega), seqO_rt, W_ok, finO_rt]
      have r0 := Int.emod_nonneg y (b := (b : Int)) (by omega)
      have r1 := Int.emod_lt_of_pos y (b := (b : Int)) (by omega)
      exact ⟨⟨(y % (b : Int)).toNat, by omega, by congr 1; omega⟩, _, m, t', rfl, by rw [List.length_append, List.length_singleton]; omega⟩
    · simp only [decide_eq_false hy, Bool.false_eq_true, if_false, ev_next, bindk, seqO_nx, ev_asg, ev_bin, ev_call, ev_cons, ev_nil, ev_peek, ev_C, look_0, look_s, rdP_val, bint_int, ofO_some, mod_pos H.m1, add_int, gN_eq, setS_0, setS_s, Option.map_some]
      exact fin (by omega)⟩
end RS

/-! the deck of a script, and things picked by draws -/
namespace RS
open PySem PySem.Spec LA L2
theorem intsOf_map' : ∀ l : List Int, intsOf (l.map D.int) = some l
  | [] => rfl
  | i :: l => by
    show (intsOf (l.map D.int)).map (i :: ·) = _
    rw [intsOf_map' l]; rfl
def deckL (c0 a m1 b m2 : Int) : MS := mSeq (mAsg (mC (.int c0)) (gN 1))
    (mFor (mSeqI (mSl (mPeek 0) mNoP (mP (mC (.int (63)))))) (gN 2) (mAsg (mBin .Mod (mCall bInt (mCons (mBin .Add (mBin .Add (mBin .Mult (mPeek 1) (mC (.int a))) (mBin .Mod (mCall bInt (mCons (mPeek 2) mNil)) (mC (.int m1)))) (mC (.int b))) mNil)) (mC (.int m2))) (gN 1)))
def deckF1 (fd : Str) (c0 a m1 b m2 : Int) : SM := fun C => (mSeq (mAsg (mC (.int c0)) (gN 1))
    (mSeq (mFor (mSeqI (mSl (mPeek 0) mNoP (mP (mC (.int (63)))))) (gN 2) (mAsg (mBin .Mod (mCall bInt (mCons (mBin .Add (mBin .Add (mBin .Mult (mPeek 1) (mC (.int a))) (mBin .Mod (mCall bInt (mCons (mPeek 2) mNil)) (mC (.int m1)))) (mC (.int b))) mNil)) (mC (.int m2))) (gN 1)))
    (mRet (mDeck (mBackF (fun ρ => (mCallF bList (mCons (mSl (mPeek 0) mNoP (mP (mC (.int (63))))) mNil)) ρ >>= fun ds => pure (.lst ds))) [("mixed", (mVar 1)), (fd, (mC (.int (0))))]))))
def deckF2 (fd : Str) (c0 a m1 b m2 : Int) : SM := fun C => (mSeq (mAsg (mC (.int c0)) (gN 1))
    (mSeq (mFor (mSeqI (mSl (mPeek 0) mNoP (mP (mC (.int (63)))))) (gN 2) (mAsg (mBin .Mod (mCall bInt (mCons (mBin .Add (mBin .Add (mBin .Mult (mPeek 1) (mC (.int a))) (mBin .Mod (mCall bInt (mCons (mPeek 2) mNil)) (mC (.int m1)))) (mC (.int b))) mNil)) (mC (.int m2))) (gN 1)))
    (mRet (mDeck (mBackF (fun ρ => (mLc (mSeqI (mSl (mPeek 0) mNoP (mP (mC (.int (63)))))) (gN 2) mYes (mCall bInt (mCons (mPeek 2) mNil)) [2]) ρ >>= fun ds => pure (.lst ds))) [("mixed", (mVar 1)), (fd, (mC (.int (0))))]))))
structure DeckC (fd : Str) (a m1 m2 : Int) : Prop where
  fd : okFd fd
  a : Smi a
  m1 : 0 < m1
  m2 : 0 < m2
theorem mk_deck {fd : Str} (h : okFd fd) {l : List Int} {mx : Int} : mkDeck (l.map D.int) [("mixed", mx), (fd, 0)] none = .ok .deck (dk fd l mx 0) := by
  unfold mkDeck
  rw [intsOf_map']
  rcases h with rfl | rfl
  · kernel_rfl
  · kernel_rfl
theorem deck_src {ns : List Int} (h : ns.length ≤ 63) : ∃ l : List Int, l.length ≤ 63 ∧ ∀ (o1 o2 : Option Sl), mSl (mPeek 0) mNoP (mP (mC (.int (63)))) [some (.val (.scr ns)), o1, o2] none = .ok (.lst (l.map D.int)) none := by
  refine ⟨ns.take 63, by rw [List.length_take]; omega, fun o1 o2 => ?_⟩
  have : dSl (.scr ns) none (some 63) = some (.lst (cutD (ns.map D.int) none (some 63))) := rfl
  have e : cutD (ns.map D.int) none (some 63) = (ns.take 63).map D.int := by
    rw [List.map_take]
    exact cut_to (b := 63)
  simp only [ev_sl, ev_peek, look_0, rdP_val, bindk, ev_noP, ev_P, ev_C, dint_int, Option.map_some, ofO_some, this, e]
def deckE (ns : List Int) (ρ : Env) : Prop := ∃ (mx : Int) (o : Option Sl), ρ = [some (.val (.scr ns)), some (.val (.int mx)), o]
theorem deck_loop {fd : Str} {a m1 b m2 : Int} (H : DeckC fd a m1 m2) {ns l : List Int} {c0 : Int} : Wr (mLoop (gN 2) (mAsg (mBin .Mod (mCall bInt (mCons (mBin .Add (mBin .Add (mBin .Mult (mPeek 1) (mC (.int a))) (mBin .Mod (mCall bInt (mCons (mPeek 2) mNil)) (mC (.int m1)))) (mC (.int b))) mNil)) (mC (.int m2))) (gN 1)) (l.map D.int) [some (.val (.scr ns)), some (.val (.int c0)), none] none) none (deckE ns) :=
  loop_foldW (σ := Unit) (fun _ => deckE ns) (fun _ _ => ()) (a := ()) (fun i hi _ ρ hρ => by
    obtain ⟨mx, o, rfl⟩ := hρ
    simp only [gN_eq, setS_0, setS_s, Option.map_some, ofO_some, bindk, ev_asg, ev_bin, ev_call, ev_cons, ev_nil, ev_peek, ev_C, look_0, look_s, rdP_val, mul_r H.a, bint_int, mod_pos H.m1, add_int, mod_pos H.m2, Wr_ok]
    exact ⟨_, _, rfl⟩) ⟨_, _, rfl⟩
theorem deck_ok1 {T : CT} {k : Nat} {fd : Str} {c0 a m1 b m2 : Int} {N : List Str} (hN : N.length = 3) (H : DeckC fd a m1 m2) (h : Has T "_law_deck" N 1 (deckF1 fd c0 a m1 b m2)) {ns : List Int} (hn : ns.length ≤ 63) : W (callD T (k + 1) "_law_deck" [.scr ns] none) fun d s => d = .deck ∧ Wf fd s := by
  rw [callD_has h rfl]
  have hst : startE N [.scr ns] = [some (.val (.scr ns)), none, none] := by
    unfold startE
    rw [hN]; rfl
  obtain ⟨l, hl, src⟩ := deck_src hn
  obtain ⟨ρ', e1, mx, o, rfl⟩ := deck_loop (b := b) H (ns := ns) (l := l) (c0 := c0)
  have er : (l.map D.int).reverse = l.reverse.map D.int := by rw [List.map_reverse]
  have e4 : mDeck (mBackF (fun ρ => (mCallF bList (mCons (mSl (mPeek 0) mNoP (mP (mC (.int (63))))) mNil)) ρ >>= fun ds => pure (.lst ds))) [("mixed", (mVar 1)), (fd, (mC (.int (0))))] [some (.val (.scr ns)), some (.val (.int mx)), o] none = .ok .deck (dk fd l.reverse mx 0) := by
    refine bnd_of (m := mBackF (fun ρ => (mCallF bList (mCons (mSl (mPeek 0) mNoP (mP (mC (.int (63))))) mNil)) ρ >>= fun ds => pure (.lst ds)) [some (.val (.scr ns)), some (.val (.int mx)), o]) (a := l.reverse.map D.int) (s' := none) ?_ ?_
    · simp only [ev_backF, bnd_eq, ev_callF, ev_cons, ev_nil, src, bindk, list_lst, ofO_some, pure_eq]
      show R.ok (l.map D.int).reverse none = _
      rw [er]
    · refine bnd_of (m := mFl [("mixed", (mVar 1)), (fd, (mC (.int (0))))] [some (.val (.scr ns)), some (.val (.int mx)), o]) (a := [("mixed", mx), (fd, 0)]) (s' := none) rfl ?_
      exact mk_deck H.fd
  rw [hst]
  refine W_eq (a := .deck) (s := dk fd l.reverse mx 0) ?_ ⟨rfl, _, _, _, rfl, by rw [List.length_reverse]; exact hl⟩
  unfold deckF1
  simp only [ev_seq, ev_asg, ev_C, bindk, gN_eq, setS_0, setS_s, Option.map_some, ofO_some, seqO_nx, ev_for, ev_seqI, src, seq_lst, e1, ev_ret, e4, finO_rt]
theorem deck_ok2 {T : CT} {k : Nat} {fd : Str} {c0 a m1 b m2 : Int} {N : List Str} (hN : N.length = 3) (H : DeckC fd a m1 m2) (h : Has T "_law_deck" N 1 (deckF2 fd c0 a m1 b m2)) {ns : List Int} (hn : ns.length ≤ 63) : W (callD T (k + 1) "_law_deck" [.scr ns] none) fun d s => d = .deck ∧ Wf fd s := by
  rw [callD_has h rfl]
  have hst : startE N [.scr ns] = [some (.val (.scr ns)), none, none] := by
    unfold startE
    rw [hN]; rfl
  obtain ⟨l, hl, src⟩ := deck_src hn
  obtain ⟨ρ', e1, mx, o, rfl⟩ := deck_loop (b := b) H (ns := ns) (l := l) (c0 := c0)
  have er : (l.map D.int).reverse = l.reverse.map D.int := by rw [List.map_reverse]
  have lm : Lm l.length := Lm.of (by omega)
  have e4 : mDeck (mBackF (fun ρ => (mLc (mSeqI (mSl (mPeek 0) mNoP (mP (mC (.int (63)))))) (gN 2) mYes (mCall bInt (mCons (mPeek 2) mNil)) [2]) ρ >>= fun ds => pure (.lst ds))) [("mixed", (mVar 1)), (fd, (mC (.int (0))))] [some (.val (.scr ns)), some (.val (.int mx)), o] none = .ok .deck (dk fd l.reverse mx 0) := by
    refine bnd_of (m := mBackF (fun ρ => (mLc (mSeqI (mSl (mPeek 0) mNoP (mP (mC (.int (63)))))) (gN 2) mYes (mCall bInt (mCons (mPeek 2) mNil)) [2]) ρ >>= fun ds => pure (.lst ds)) [some (.val (.scr ns)), some (.val (.int mx)), o]) (a := l.reverse.map D.int) (s' := none) ?_ ?_
    · have z : lcF (fun (x : Int) (s : DS) => R.ok (some (D.int x)) s) l none = .ok (l.map D.int) none := lcF_map
      simp only [ev_backF, bnd_eq, ev_lc, ev_seqI, src, bindk, seq_lst, ofO_some, List.length_map, lm, if_true, lcGo_F, wipe_cons, wipe_nil, List.set_cons_succ, List.set_cons_zero, gN_eq, setS_0, setS_s, Option.map_some, ev_yes, calm_ok', ev_call, ev_cons, ev_nil, ev_peek, look_0, look_s, rdP_val, bint_int, z, pure_eq]
      show R.ok (l.map D.int).reverse none = _
      rw [er]
    · refine bnd_of (m := mFl [("mixed", (mVar 1)), (fd, (mC (.int (0))))] [some (.val (.scr ns)), some (.val (.int mx)), o]) (a := [("mixed", mx), (fd, 0)]) (s' := none) rfl ?_
      exact mk_deck H.fd
  rw [hst]
  refine W_eq (a := .deck) (s := dk fd l.reverse mx 0) ?_ ⟨rfl, _, _, _, rfl, by rw [List.length_reverse]; exact hl⟩
  unfold deckF2
  simp only [ev_seq, ev_asg, ev_C, bindk, gN_eq, setS_0, setS_s, Option.map_some, ofO_some, seqO_nx, ev_for, ev_seqI, src, seq_lst, e1, ev_ret, e4, finO_rt]
end RS

namespace RS
open PySem PySem.Spec
def F__law_inverse : SM := fun C => (mRet (mIxM (fun ρ => (mLc (mRngI2 (mC (.int (1))) (mPeek 0)) (gN 2) (mCmpB .Eq (mBin .Mod (mCall bInt (mCons (mBin .Mult (mPeek 1) (mPeek 2)) mNil)) (mPeek 0)) (mC (.int (1)))) (mVar 2) [2]) ρ >>= fun ds => pure (.lst ds)) (mC (.int (0)))))
def I__law_inverse (T : CT) : Prop := Has T "_law_inverse" ["q", "x", "y"] 2 F__law_inverse
def F__law_plus : SM := fun C => (mRet (mCall bTuple (mCons (fun ρ => (mLc (mZipI (mVar 1) (mVar 2)) (gTp (gCn (gN 4) (gCn (gN 5) gNl)) 2) mYes (mBin .Mod (mCall bInt (mCons (mBin .Add (mPeek 4) (mBin .Mult (mPeek 3) (mPeek 5))) mNil)) (mPeek 0)) [4, 5]) ρ >>= fun ds => pure (.lst ds)) mNil)))
def I__law_plus (T : CT) : Prop := Has T "_law_plus" ["q", "one", "other", "times", "x", "y"] 4 F__law_plus
def F__law_times_k00 : SM := fun C => (mRet (mCall bTuple (mCons (fun ρ => (mLc (mSeqI (mVar 1)) (gN 3) mYes (mBin .Mod (mCall bInt (mCons (mBin .Mult (mPeek 3) (mPeek 2)) mNil)) (mPeek 0)) [3]) ρ >>= fun ds => pure (.lst ds)) mNil)))
def I__law_times_k00 (T : CT) : Prop := Has T "_law_times" ["q", "row", "times", "x"] 3 F__law_times_k00
def F__law_first : SM := fun C => (mRet (mIxM (fun ρ => (mLc (mEnumI (mVar 0)) (gTp (gCn (gN 1) (gCn (gN 2) gNl)) 2) (mCmpB .NotEq (mPeek 2) (mC (.int (0)))) (mVar 1) [1, 2]) ρ >>= fun ds => pure (.lst ds)) (mC (.int (0)))))
def I__law_first (T : CT) : Prop := Has T "_law_first" ["row", "at", "x"] 1 F__law_first
def F__law_plain_k00 : SM := fun C => (mSeq (mAsg (fun ρ => (mLst mNil) ρ >>= fun ds => pure (.lst ds)) (gN 2))
    (mSeq (mFor (mSeqI (mVar 1)) (gN 3) (mSeq (mFor (mSeqI (mVar 2)) (gN 4) (mAsg (mCallD (lenG 4 (C "_law_plus")) (mCons (mVar 0) (mCons (mVar 3) (mCons (mVar 4) (mCons (mNeg (mIxM (mPeek 3) (mCallD (lenG 1 (C "_law_first")) (mCons (mVar 4) mNil)))) mNil))))) (gN 3)))
    (mIf (mCmpB .NotEq (fun ρ => (mLc (mSeqI (mVar 3)) (gN 6) (mCmpB .NotEq (mPeek 6) (mC (.int (0)))) (mVar 6) [6]) ρ >>= fun ds => pure (.lst ds)) (fun ρ => (mLst mNil) ρ >>= fun ds => pure (.lst ds))) (mSeq (mAsg (mCallD (lenG 1 (C "_law_first")) (mCons (mVar 3) mNil)) (gN 5))
    (mSeq (mAsg (mCallD (lenG 3 (C "_law_times")) (mCons (mVar 0) (mCons (mVar 3) (mCons (mCallD (lenG 2 (C "_law_inverse")) (mCons (mVar 0) (mCons (mIxM (mPeek 3) (mPeek 5)) mNil))) mNil)))) (gN 3))
    (mAsg (mBin .Add (fun ρ => (mLc (mSeqI (mVar 2)) (gN 4) mYes (mCallD (lenG 4 (C "_law_plus")) (mCons (mVar 0) (mCons (mVar 4) (mCons (mVar 3) (mCons (mNeg (mIxM (mPeek 4) (mPeek 5))) mNil))))) [4]) ρ >>= fun ds => pure (.lst ds)) (fun ρ => (mLst (mCons (mVar 3) mNil)) ρ >>= fun ds => pure (.lst ds))) (gN 2)))) mNext)))
    (mRet (mCall bTuple (mCons (fun ρ => (mCallF (dSorted true) (mCons (mPeek 2) mNil)) ρ >>= fun ds => pure (.lst ds)) mNil)))))
def I__law_plain_k00 (T : CT) : Prop := Has T "_law_plain" ["q", "rows", "found", "row", "other", "at", "x"] 2 F__law_plain_k00 ∧ I__law_first T ∧ I__law_inverse T ∧ I__law_plus T ∧ I__law_times_k00 T
def F__law_sums_k01 : SM := fun C => (mSeq (mAsg (fun ρ => (mLst (mCons (mBin .Mult (mTup (mCons (mC (.int (0))) mNil)) (mPeek 1)) mNil)) ρ >>= fun ds => pure (.lst ds)) (gN 3))
    (mSeq (mFor (mSeqI (mVar 2)) (gN 4) (mSeq (mSetO (mLst mNil) 5)
    (mSeq (mFor (mRngI1 (mPeek 0)) (gN 6) (mExt 5 (mLc (mSeqI (mVar 3)) (gN 7) mYes (mCallD (lenG 4 (C "_law_plus")) (mCons (mVar 0) (mCons (mVar 7) (mCons (mVar 4) (mCons (mVar 6) mNil))))) [7])))
    (mSeq (mFrz 5) (mAsg (mVar 5) (gN 3))))))
    (mRet (fun ρ => (mCallF (dSorted false) (mCons (mPeek 3) mNil)) ρ >>= fun ds => pure (.lst ds)))))
def I__law_sums_k01 (T : CT) : Prop := Has T "_law_sums" ["q", "n", "rows", "found", "row", "later", "times", "some"] 3 F__law_sums_k01 ∧ I__law_plus T
def F__law_meet : SM := fun C => (mRet (mBin .Mod (mCall bInt (mCons (mCall bSum (mCons (fun ρ => (mLc (mZipI (mVar 1) (mVar 2)) (gTp (gCn (gN 3) (gCn (gN 4) gNl)) 2) mYes (mBin .Mult (mPeek 3) (mPeek 4)) [3, 4]) ρ >>= fun ds => pure (.lst ds)) mNil)) mNil)) (mPeek 0)))
def I__law_meet (T : CT) : Prop := Has T "_law_meet" ["q", "one", "other", "x", "y"] 3 F__law_meet
def F__law_pick : SM := fun C => (mRet (mIxM (mPeek 1) (mCallD (lenG 2 (C "_law_draw")) (mCons (mVar 0) (mCons (mCall bLen (mCons (mPeek 1) mNil)) mNil)))))
def I__law_pick (T : CT) : Prop := Has T "_law_pick" ["deck", "some"] 2 F__law_pick
def F__law_drawn_row : SM := fun C => (mSeq (mAsg (mCallD (lenG 2 (C "_law_pick")) (mCons (mVar 0) (mCons (fun ρ => (mLst (mCons (mC (.int (1))) (mCons (mC (.int (2))) (mCons (mC (.int (3))) mNil)))) ρ >>= fun ds => pure (.lst ds)) mNil))) (gN 3))
    (mRet (mCall bTuple (mCons (fun ρ => (mLc (mRngI1 (mPeek 2)) (gN 4) mYes (mIf (mCmpB .Eq (mCallD (lenG 2 (C "_law_draw")) (mCons (mVar 0) (mCons (mVar 3) mNil))) (mC (.int (0)))) (mCallD (lenG 2 (C "_law_draw")) (mCons (mVar 0) (mCons (mVar 1) mNil))) (mC (.int (0)))) [4]) ρ >>= fun ds => pure (.lst ds)) mNil))))
def I__law_drawn_row (T : CT) : Prop := Has T "_law_drawn_row" ["deck", "q", "n", "share", "i"] 3 F__law_drawn_row ∧ I__law_pick T
def F__law_sizes_k01 : SM := fun C => (mSeq (mAsg (fun ρ => (mLst (mCons (mTup (mCons (mC (.int (2))) (mCons (mC (.int (4))) mNil))) (mCons (mTup (mCons (mC (.int (2))) (mCons (mC (.int (5))) mNil))) (mCons (mTup (mCons (mC (.int (2))) (mCons (mC (.int (3))) mNil))) (mCons (mTup (mCons (mC (.int (3))) (mCons (mC (.int (3))) mNil))) (mCons (mTup (mCons (mC (.int (2))) (mCons (mC (.int (6))) mNil))) (mCons (mTup (mCons (mC (.int (3))) (mCons (mC (.int (4))) mNil))) (mCons (mTup (mCons (mC (.int (2))) (mCons (mC (.int (4))) mNil))) (mCons (mTup (mCons (mC (.int (5))) (mCons (mC (.int (2))) mNil))) (mCons (mTup (mCons (mC (.int (2))) (mCons (mC (.int (5))) mNil))) (mCons (mTup (mCons (mC (.int (5))) (mCons (mC (.int (3))) mNil))) (mCons (mTup (mCons (mC (.int (3))) (mCons (mC (.int (2))) mNil))) mNil)))))))))))) ρ >>= fun ds => pure (.lst ds)) (gN 1))
    (mRet (mCallD (lenG 2 (C "_law_pick")) (mCons (mVar 0) (mCons (mBin .Add (mPeek 1) (fun ρ => (mLst (mCons (mTup (mCons (mC (.int (2))) (mCons (mC (.int (2))) mNil))) (mCons (mTup (mCons (mC (.int (2))) (mCons (mC (.int (7))) mNil))) (mCons (mTup (mCons (mC (.int (3))) (mCons (mC (.int (5))) mNil))) mNil)))) ρ >>= fun ds => pure (.lst ds))) mNil)))))
def I__law_sizes_k01 (T : CT) : Prop := Has T "_law_sizes" ["deck", "some"] 1 F__law_sizes_k01 ∧ I__law_pick T
def F__law_drawn_book_k00 : SM := fun C => (mSeq (mSetV (mLc (mRngI1 (mCallD (lenG 2 (C "_law_draw")) (mCons (mVar 0) (mCons (mBin .Add (mPeek 2) (mC (.int (1)))) mNil)))) (gN 4) mYes (mCallD (lenG 3 (C "_law_drawn_row")) (mCons (mVar 0) (mCons (mVar 1) (mCons (mVar 2) mNil)))) [4]) 3)
    (mRet (mTup (mCons (mVar 1) (mCons (mVar 2) (mCons (mCallD (lenG 2 (C "_law_plain")) (mCons (mVar 1) (mCons (mVar 3) mNil))) mNil))))))
def I__law_drawn_book_k00 (T : CT) : Prop := Has T "_law_drawn_book" ["deck", "q", "n", "rows", "go"] 3 F__law_drawn_book_k00 ∧ I__law_drawn_row T ∧ I__law_plain_k00 T
def F__law_unit : SM := fun C => (mRet (fun ρ => (mLc (mRngI1 (mPeek 0)) (gN 1) mYes (mCall bTuple (mCons (fun ρ => (mLc (mRngI1 (mPeek 0)) (gN 2) mYes (mCall bInt (mCons (mBl (mCmpB .Eq (mPeek 1) (mPeek 2))) mNil)) [2]) ρ >>= fun ds => pure (.lst ds)) mNil)) [1]) ρ >>= fun ds => pure (.lst ds)))
def I__law_unit (T : CT) : Prop := Has T "_law_unit" ["m", "i", "j"] 1 F__law_unit
def F__law_rows_against : SM := fun C => (mSeq (mAsg (mCallD (lenG 3 (C "_law_sums")) (mCons (mVar 0) (mCons (mVar 1) (mCons (mCallD (lenG 1 (C "_law_unit")) (mCons (mVar 1) mNil)) mNil)))) (gN 3))
    (mRet (mCallD (lenG 2 (C "_law_plain")) (mCons (mVar 0) (mCons (fun ρ => (mLc (mSeqI (mVar 3)) (gN 4) (mCmpB .Eq (fun ρ => (mLc (mSeqI (mVar 2)) (gN 5) (mCmpB .NotEq (mCallD (lenG 3 (C "_law_meet")) (mCons (mVar 0) (mCons (mVar 4) (mCons (mVar 5) mNil)))) (mC (.int (0)))) (mC (.int (1))) [5]) ρ >>= fun ds => pure (.lst ds)) (fun ρ => (mLst mNil) ρ >>= fun ds => pure (.lst ds))) (mVar 4) [4]) ρ >>= fun ds => pure (.lst ds)) mNil)))))
def I__law_rows_against (T : CT) : Prop := Has T "_law_rows_against" ["q", "n", "basis", "rows", "row", "other"] 3 F__law_rows_against ∧ I__law_meet T ∧ I__law_plain_k00 T ∧ I__law_sums_k01 T ∧ I__law_unit T
def F__law_is_partner_right : SM := fun C => (mSeq (mPar2 3 4 (mCons (mIxM (mPeek 0) (mC (.int (0)))) (mCons (mIxM (mPeek 0) (mC (.int (1)))) mNil)))
    (mSeq (mAsg (mIf (mCmpB .Eq (mPeek 2) (mC (.int (0)))) (mCallD (lenG 1 (C "partner_of")) (mCons (mVar 0) mNil)) (mKw0 ["book"] ["book"] (C "partner_of") (mCons (mVar 0) mNil))) (gN 5))
    (mSeq (mIf (mCmpB .NotEq (mCall bRepr (mCons (mTup (mCons (mVar 5) (mCons (mCallD (lenG 1 (C "partner_of")) (mCons (mVar 0) mNil)) mNil))) mNil)) (mCall bRepr (mCons (mTup (mCons (mVar 1) (mCons (mVar 1) mNil))) mNil))) (mRet (mC (.bl false))) mNext)
    (mRet (mBl (mCmpB .Eq (mCall bRepr (mCons (mTup (mCons (mCallD (lenG 1 (C "partner_of")) (mCons (mVar 1) mNil)) (mCons (mCallD (lenG 1 (C "dimension")) (mCons (mVar 1) mNil)) mNil))) mNil)) (mCall bRepr (mCons (mTup (mCons (mVar 0) (mCons (mBin .Sub (mPeek 4) (mCall bLen (mCons (mIxM (mPeek 0) (mC (.int (2)))) mNil))) mNil))) mNil))))))))
def I__law_is_partner_right (T : CT) : Prop := Has T "_law_is_partner_right" ["book", "due", "way", "q", "n", "told"] 3 F__law_is_partner_right ∧ I_dimension T ∧ I_partner_of T
end RS

/-! what the first family of laws reckons by itself: rows, plain tuples -/
namespace RS
open PySem PySem.Spec LA L2
/-- a row's ints -/
def rowI {q : Nat} (n : Nat) (v : Vec q) : List Int := (List.range n).map fun i => (((v i).val : Nat) : Int)
theorem encV_ints {q n : Nat} {v : Vec q} : encV n v = rowD (rowI n v) := by
  unfold encV rowD rowI
  rw [List.map_map]; rfl
theorem lex_of {l m : List Int} : ∀ {h : Nat} {x y : Int}, (∀ i, i < h → l[i]? = m[i]?) → l[h]? = some x → m[h]? = some y → x < y → HT.lexLt l m = true := by
  induction l generalizing m with
  | nil => intro h x y _ h1 _ _; simp at h1
  | cons a l ih =>
    intro h x y e h1 h2 hxy
    cases m with
    | nil => simp at h2
    | cons b m =>
      rw [HT.lexLt_cons]
      cases h with
      | zero =>
        simp at h1 h2
        subst h1; subst h2
        rw [if_neg (by omega)]
        exact decide_eq_true hxy
      | succ h =>
        have hab : a = b := by
          have := e 0 (by omega)
          simpa using this
        rw [if_pos hab]
        exact ih (h := h) (x := x) (y := y) (fun i hi => by simpa using e (i + 1) (by omega)) (by simpa using h1) (by simpa using h2) hxy
theorem lex_asym {l m : List Int} (h : HT.lexLt l m = true) : HT.lexLt m l = false := by
  induction l generalizing m with
  | nil => cases m <;> rfl
  | cons a l ih =>
    cases m with
    | nil => rw [HT.lexLt_cons_nil] at h; cases h
    | cons b m =>
      rw [HT.lexLt_cons] at h ⊢
      by_cases c : a = b
      · rw [if_pos c] at h
        rw [if_pos c.symm]
        exact ih h
      · rw [if_neg c] at h
        rw [if_neg (fun e => c e.symm)]
        have := of_decide_eq_true h
        exact decide_eq_false (by omega)
theorem ints_get {q n i : Nat} {v : Vec q} (h : i < n) : (rowI n v)[i]? = some (((v i).val : Nat) : Int) := by
  unfold rowI
  simp [h]
theorem rowsOf_enc {q n : Nat} (hn : 0 < n) : ∀ {L : List (Vec q)}, rowsOf (L.map (encV n)) = some (L.map (rowI n))
  | [] => rfl
  | v :: L => by
    have ih := rowsOf_enc hn (L := L)
    have e : encV n v = .tup ((rowI n v).map .int) := encV_ints
    rw [List.map_cons, e]
    show (intsOf ((rowI n v).map D.int)).bind (fun ns => if ns.isEmpty then none else (rowsOf (L.map (encV n))).map (ns :: ·)) = _
    rw [intsOf_map', ih]
    have hne : (rowI n v).isEmpty = false := by
      unfold rowI
      cases n with
      | zero => omega
      | succ n => rw [List.range_succ_eq_map]; rfl
    simp only [Option.bind_some, hne, Bool.false_eq_true, if_false, Option.map_some, List.map_cons]
theorem rowsO_enc {q n : Nat} {L : List (Vec q)} (hn : 0 < n ∨ L.length ≤ 1) : rowsO (L.map (encV n)) = some (L.map (rowI n)) := by
  rcases Nat.eq_zero_or_pos n with rfl | h0
  · rcases hn with h | h
    · omega
    · match L, h with
      | [], _ => rfl
      | [v], _ => rfl
  · rw [← rowsOf_enc h0]
    unfold rowsO
    split
    · rename_i h
      match L with
      | [] => simp at h
      | [v] =>
        simp only [List.map_cons, List.map_nil, List.cons.injEq, and_true] at h
        unfold encV at h
        injection h with h
        have := congrArg List.length h
        simp at this
        omega
      | u :: v :: L => simp at h
    · rfl
theorem intsOf_rows {q n : Nat} : ∀ {L : List (Vec q)}, L ≠ [] → intsOf (L.map (encV n)) = none
  | [], h => absurd rfl h
  | v :: L, _ => rfl
section
variable {T : CT} {k : Nat} {s : DS} {q n : Nat} [Pr q]
/-- sorted from the greatest: heads ascending -/
theorem sorted_rev0 {P : Sys q} (e : Ech n P) : dSorted true [.lst ((rows P).map (encV n))] = some ((rows (sortP P)).map (encV n)) := by
  cases P with
  | nil => rfl
  | cons p P =>
    have hne : rows (p :: P) ≠ [] := by unfold rows; simp
    have hn : 0 < n := by have := e.lt p (.head _); omega
    generalize hP : p :: P = Q at *
    have h1 := intsOf_rows (n := n) hne
    have h2 := rowsO_enc (n := n) (L := rows Q) (.inl hn)
    have key : (sortBy HT.lexLt ((rows Q).map (rowI n))).reverse = (rows (sortP Q)).map (rowI n) := by
      have p1 : ((rows (sortP Q)).map (rowI n)).reverse.Perm ((rows Q).map (rowI n)) := (List.reverse_perm _).trans (((sortP_perm Q).map _).map _)
      have hs : ((rows (sortP Q)).map (rowI n)).reverse.Pairwise (fun a b => HT.lexLt b a = false) := by
        rw [List.pairwise_reverse]
        unfold rows
        rw [List.map_map, List.pairwise_map]
        have e' := e.perm (sortP_perm Q).symm
        have ha := sortP_asc e.nd
        refine List.Pairwise.imp_of_mem (fun {a b} hma hmb hab => ?_) ha
        refine lex_asym (lex_of (h := a.1) (x := 0) (y := 1) (fun i hi => ?_) ?_ ?_ (by omega))
        · show (rowI n b.2)[i]? = (rowI n a.2)[i]?
          rw [ints_get (by have := e'.lt a hma; omega), ints_get (by have := e'.lt a hma; omega), e'.low a hma i hi, e'.low b hmb i (by omega)]
        · show (rowI n b.2)[a.1]? = some 0
          rw [ints_get (e'.lt a hma), e'.off b hmb a hma (by omega)]; rfl
        · show (rowI n a.2)[a.1]? = some 1
          rw [ints_get (e'.lt a hma), e'.one a hma, val_one]
      have es : sortBy HT.lexLt ((rows Q).map (rowI n)) = ((rows (sortP Q)).map (rowI n)).reverse := sort_uniq (sortBy_sorted (NtL.swo_lexL id) _) hs ((sortBy_perm _).trans p1.symm)
      rw [es, List.reverse_reverse]
    show (match intsOf ((rows Q).map (encV n)) with
      | some ns => if true = true then (if ns.isEmpty then some [] else none) else some ((sortBy ltI ns).map D.int)
      | none => (rowsO ((rows Q).map (encV n))).map fun rs => (if true = true then (sortBy HT.lexLt rs).reverse else sortBy HT.lexLt rs).map rowD) = _
    rw [h1]
    simp only [h2, Option.map_some, if_true, key]
    rw [List.map_map]
    congr 1
    refine List.map_congr_left fun v _ => ?_
    exact encV_ints.symm
theorem sorted_rev (hn : 0 < n) {P : Sys q} (e : Ech n P) : dSorted true [.lst ((rows P).map (encV n))] = some ((rows (sortP P)).map (encV n)) := sorted_rev0 e
theorem ev_linverse (h : I__law_inverse T) {a : Fin q} (ha : a ≠ 0) : callD T (k + 1) "_law_inverse" [.int q, .int ((a.val : Nat) : Int)] s = .ok (.int (((inv a).val : Nat) : Int)) s := by
  have key : ∀ b : Fin q, b * a = 1 → callD T (k + 1) "_law_inverse" [.int q, .int ((a.val : Nat) : Int)] s = .ok (.int ((b.val : Nat) : Int)) s → callD T (k + 1) "_law_inverse" [.int q, .int ((a.val : Nat) : Int)] s = .ok (.int (((inv a).val : Nat) : Int)) s := fun b hb e => by
    rw [← inv_uniq hb ha]; exact e
  rename_i p
  rcases p.h with e | e | e
  · subst e
    match a, ha with
    | ⟨0, _⟩, ha => exact absurd rfl ha
    | ⟨1, _⟩, ha => exact key 1 rfl (by rw [callD_has h rfl]; kernel_rfl)
  · subst e
    match a, ha with
    | ⟨0, _⟩, ha => exact absurd rfl ha
    | ⟨1, _⟩, ha => exact key 1 rfl (by rw [callD_has h rfl]; kernel_rfl)
    | ⟨2, _⟩, ha => exact key 2 rfl (by rw [callD_has h rfl]; kernel_rfl)
  · subst e
    match a, ha with
    | ⟨0, _⟩, ha => exact absurd rfl ha
    | ⟨1, _⟩, ha => exact key 1 rfl (by rw [callD_has h rfl]; kernel_rfl)
    | ⟨2, _⟩, ha => exact key 3 rfl (by rw [callD_has h rfl]; kernel_rfl)
    | ⟨3, _⟩, ha => exact key 2 rfl (by rw [callD_has h rfl]; kernel_rfl)
    | ⟨4, _⟩, ha => exact key 4 rfl (by rw [callD_has h rfl]; kernel_rfl)
theorem ev_lplus (h : I__law_plus T) (hn : Lm n) (u w : Vec q) (m : Int) : callD T (k + 1) "_law_plus" [.int q, encV n u, encV n w, .int m] s = .ok (encV n fun i => u i + toF m * w i) s := by
  rw [callD_has h rfl]
  unfold F__law_plus encV
  simp [hn]
theorem ev_ltimes (h : I__law_times_k00 T) (hn : Lm n) (u : Vec q) (m : Int) : callD T (k + 1) "_law_times" [.int q, encV n u, .int m] s = .ok (encV n fun i => toF m * u i) s := by
  rw [callD_has h rfl]
  unfold F__law_times_k00 encV
  simp [hn]
  intro i hi
  congr 2
  grind
theorem head_find {α : Type} {p : α → Bool} : ∀ {l : List α} {x : α}, l.find? p = some x → ∃ r, l.filter p = x :: r
  | [], _, h => by cases h
  | y :: l, x, h => by
    rw [List.find?_cons] at h
    rw [List.filter_cons]
    cases c : p y with
    | true =>
      rw [c] at h
      cases h
      exact ⟨_, rfl⟩
    | false =>
      rw [c] at h
      exact head_find h
theorem ev_lfirst (h : I__law_first T) (hn : Lm n) {v : Vec q} {j : Nat} (hj : first n v = some j) : callD T (k + 1) "_law_first" [encV n v] s = .ok (.int (j : Int)) s := by
  rw [callD_has h rfl]
  unfold F__law_first encV
  obtain ⟨r, hr⟩ := head_find (show (List.range n).find? (fun i => decide (v i ≠ 0)) = some j from hj)
  have hr' : (List.range n).filter (fun i => !decide (v i = 0)) = j :: r := by
    rw [← hr]
    congr 1
    funext i
    simp
  simp [hn, hr']
theorem ev_lmeet (h : I__law_meet T) (hn : Lm n) (u w : Vec q) : callD T (k + 1) "_law_meet" [.int q, encV n u, encV n w] s = .ok (.int ((dot n u w).val : Nat)) s := by
  rw [callD_has h rfl]
  unfold F__law_meet encV
  simp [hn, dot_sum]
theorem ev_lunit (h : I__law_unit T) (hn : Lm n) : callD T (k + 1) "_law_unit" [.int n] s = .ok (.lst ((List.range n).map fun j => encV n (unit j : Vec q))) s := by
  rw [callD_has h rfl]
  unfold F__law_unit
  simp [hn]
  intro j hj
  unfold encV
  congr 1
  refine List.map_congr_left fun i hi => ?_
  congr 1
  rw [unit_val]
  by_cases c : i = j
  · subst c; simp
  · rw [if_neg (by omega), if_neg (by omega)]
end
end RS

/-! the laws' plain tuples and sums -/
namespace RS
open PySem PySem.Spec LA L2
theorem ne_nil {xs : Ds} (h : ∀ d ∈ xs, d.num = true) (k : ∀ d ∈ xs, dpD d ≤ 59) : dCmp .NotEq (.lst xs) (.lst []) = some (!xs.isEmpty) := by
  rw [ne_num (d := .lst xs) (e := .lst []) (nums_all h) rfl (by show dps xs + 1 ≤ 60; have := dps_le k; omega) (by show 0 + 1 ≤ 60; omega)]
  congr 2
  rw [Bool.eq_iff_iff]
  cases xs <;> simp
theorem eq_nil {xs : Ds} (h : ∀ d ∈ xs, d.num = true) (k : ∀ d ∈ xs, dpD d ≤ 59) : dCmp .Eq (.lst xs) (.lst []) = some xs.isEmpty := by
  rw [eq_num (d := .lst xs) (e := .lst []) (nums_all h) rfl (by show dps xs + 1 ≤ 60; have := dps_le k; omega) (by show 0 + 1 ≤ 60; omega)]
  congr 1
  rw [Bool.eq_iff_iff]
  cases xs <;> simp
section
variable {α : Type} {f : α → Int} {xs : List α}
theorem ne_nil_i : dCmp .NotEq (.lst (xs.map fun x => .int (f x))) (.lst []) = some (!xs.isEmpty) := by
  rw [ne_nil (by simp; intros; rfl) (by simp; intros; show 0 ≤ 59; omega)]
  simp
theorem eq_nil_i : dCmp .Eq (.lst (xs.map fun x => .int (f x))) (.lst []) = some xs.isEmpty := by
  rw [eq_nil (by simp; intros; rfl) (by simp; intros; show 0 ≤ 59; omega)]
  simp
end
section
variable {T : CT} {k : Nat} {s : DS} {q n : Nat} [Pr q]
def lrE (q n : Nat) [Pr q] (b c o5 o6 : Option Sl) (v : Vec q) (ρ : Env) : Prop := ∃ o4, ρ = [some (.val (.int q)), b, c, some (.val (encV n v)), o4, o5, o6]
def lrB (C : Tab) : MS := (mAsg (mCallD (lenG 4 (C "_law_plus")) (mCons (mVar 0) (mCons (mVar 3) (mCons (mVar 4) (mCons (mNeg (mIxM (mPeek 3) (mCallD (lenG 1 (C "_law_first")) (mCons (mVar 4) mNil)))) mNil))))) (gN 3))
theorem lr_step (h1 : I__law_plus T) (h2 : I__law_first T) (hn : Lm n) {P : Sys q} (e : Ech n P) {p : Nat × Vec q} (hp : p ∈ P) {v : Vec q} {b c o5 o6 : Option Sl} {ρ : Env} (hρ : lrE q n b c o5 o6 v ρ) :
    Wr (R.bind (ofO (gN 4 (encV n p.2) ρ) s) fun ρ1 s => lrB (callD T (k + 1)) ρ1 s) s (lrE q n b c o5 o6 fun i => v i + -v p.1 * p.2 i) := by
  obtain ⟨o4, rfl⟩ := hρ
  simp [lrB, lrE, ev_lfirst h2 hn (first_head e hp), ix_encV (e.lt p hp), ev_lplus h1 hn]
theorem lr_ev (h1 : I__law_plus T) (h2 : I__law_first T) (hn : Lm n) {P : Sys q} (e : Ech n P) {v : Vec q} {b c o4 o5 o6 : Option Sl} : Wr (mLoop (gN 4) (lrB (callD T (k + 1))) (P.map fun p => encV n p.2) [some (.val (.int q)), b, c, some (.val (encV n v)), o4, o5, o6] s) s (lrE q n b c o5 o6 (red P v)) := by
  unfold red
  exact loop_foldW (lrE q n b c o5 o6) _ (fun p hp v ρ hρ => lr_step h1 h2 hn e hp hρ) ⟨_, rfl⟩
def lpE (q n : Nat) [Pr q] (d : D) (P : Sys q) (ρ : Env) : Prop := Ech n P ∧ ∃ o3 o4 o5 o6, ρ = [some (.val (.int q)), some (.val d), some (.val (.lst (P.map fun p => encV n p.2))), o3, o4, o5, o6]
def lpB (C : Tab) : MS := (mSeq (mFor (mSeqI (mVar 2)) (gN 4) (lrB C))
    (mIf (mCmpB .NotEq (fun ρ => (mLc (mSeqI (mVar 3)) (gN 6) (mCmpB .NotEq (mPeek 6) (mC (.int (0)))) (mVar 6) [6]) ρ >>= fun ds => pure (.lst ds)) (fun ρ => (mLst mNil) ρ >>= fun ds => pure (.lst ds))) (mSeq (mAsg (mCallD (lenG 1 (C "_law_first")) (mCons (mVar 3) mNil)) (gN 5))
    (mSeq (mAsg (mCallD (lenG 3 (C "_law_times")) (mCons (mVar 0) (mCons (mVar 3) (mCons (mCallD (lenG 2 (C "_law_inverse")) (mCons (mVar 0) (mCons (mIxM (mPeek 3) (mPeek 5)) mNil))) mNil)))) (gN 3))
    (mAsg (mBin .Add (fun ρ => (mLc (mSeqI (mVar 2)) (gN 4) mYes (mCallD (lenG 4 (C "_law_plus")) (mCons (mVar 0) (mCons (mVar 4) (mCons (mVar 3) (mCons (mNeg (mIxM (mPeek 4) (mPeek 5))) mNil))))) [4]) ρ >>= fun ds => pure (.lst ds)) (fun ρ => (mLst (mCons (mVar 3) mNil)) ρ >>= fun ds => pure (.lst ds))) (gN 2)))) mNext))
theorem nz_first {v : Vec q} : ((List.range n).filter fun i => !decide (v i = 0)).isEmpty = (first n v).isNone := by
  have e : (List.range n).filter (fun i => !decide (v i = 0)) = (List.range n).filter (fun i => decide (v i ≠ 0)) := by
    congr 1
    funext i
    simp
  rw [e]
  cases h : first n v with
  | none =>
    have := first_none h
    rw [List.filter_eq_nil_iff.mpr fun i hi => by simpa using this i (List.mem_range.mp hi)]; rfl
  | some j =>
    obtain ⟨r, hr⟩ := head_find (show (List.range n).find? (fun i => decide (v i ≠ 0)) = some j from h)
    rw [hr]; rfl
theorem cat_l {xs ys : Ds} (h : xs.length + ys.length ≤ lim) : dBin .Add (.lst xs) (.lst ys) = some (.lst (xs ++ ys)) := if_pos h
theorem cat_t {xs ys : Ds} (h : xs.length + ys.length ≤ lim) : dBin .Add (.tup xs) (.tup ys) = some (.tup (xs ++ ys)) := if_pos h
theorem lp_step (h1 : I__law_first T) (h2 : I__law_inverse T) (h3 : I__law_plus T) (h4 : I__law_times_k00 T) (hn : n < 64) (hlm : Lm n) {d : D} {v : Vec q} (hs : Sup n v) {P : Sys q} {ρ : Env} (hρ : lpE q n d P ρ) :
    Wr (R.bind (ofO (gN 3 (encV n v) ρ) s) fun ρ1 s => lpB (callD T (k + 1)) ρ1 s) s (lpE q n d (addRow n P v)) := by
  obtain ⟨e, o3, o4, o5, o6, rfl⟩ := hρ
  have e' := addRow_ech e hs
  obtain ⟨ρ1, r1, o4', rfl⟩ := lr_ev (k := k) (s := s) h3 h1 hlm (P := P) e (v := v) (b := some (.val d)) (c := some (.val (.lst (P.map fun p => encV n p.2)))) (o4 := o4) (o5 := o5) (o6 := o6)
  have sqv : dSeq (encV n (red P v)) = some ((List.range n).map fun i => .int (((red P v i).val : Nat) : Int)) := rfl
  have nz := nz_first (n := n) (v := red P v)
  unfold lpB
  simp only [gN_eq, setS_0, setS_s, Option.map_some, ofO_some, bindk, ev_seq, ev_for, ev_seqI, ev_var, look_0, look_s, rdV_val, seq_lst, r1, seqO_nx]
  simp [hlm, sqv, ne_nil_i]
  cases hf : first n (red P v) with
  | none =>
    have h0 := first_none hf
    rw [if_neg (fun ⟨x, a, b⟩ => b (h0 x a)), addRow_none hf]
    simp [lpE, e]
  | some j =>
    obtain ⟨j1, j2, j3⟩ := first_some hf
    rw [if_pos ⟨j, j1, j2⟩]
    have hlP : Lm P.length := hlm.le e.len
    have hca : dBin .Add (.lst (P.map fun p => encV n fun i => p.2 i + -p.2 j * (inv (red P v j) * red P v i))) (.lst [encV n fun i => inv (red P v j) * red P v i]) = some (.lst ((P.map fun p => encV n fun i => p.2 i + -p.2 j * (inv (red P v j) * red P v i)) ++ [encV n fun i => inv (red P v j) * red P v i])) := cat_l (by
      have := e.len
      have hl : lim = 16777216 := rfl
      simp
      omega)
    rw [addRow_some hf] at e' ⊢
    simp [ev_lfirst h1 hlm hf, ix_encV j1, ev_linverse h2 j2, ev_ltimes h4 hlm, hlP, ev_lplus h3 hlm, hca]
    exact ⟨e', by simp⟩
theorem ev_lplain0 (h : I__law_plain_k00 T) (hn : n < 64) {d : D} {L : List (Vec q)} (hd : dSeq d = some (L.map (encV n))) (hL : Sups n L) :
    callD T (k + 2) "_law_plain" [.int q, d] s = .ok (encT n (pl n L)) s := by
  obtain ⟨h1, h2, h3, h4, h5⟩ := h
  have hlm : Lm n := Lm.of (by omega)
  rw [callD_has h1 rfl]
  unfold F__law_plain_k00
  obtain ⟨ρ', e1, E⟩ := loop_foldW (s := s) (g := gN 3) (b := lpB (callD T (k + 1))) (lpE q n d) (addRow n) (xs := L) (enc := encV n) (a := []) (ρ := [some (.val (.int q)), some (.val d), some (.val (.lst [])), none, none, none, none])
    (fun v hv P ρ hρ => lp_step h2 h3 h4 h5 hn hlm (hL v hv) hρ) ⟨Ech.nil, _, _, _, _, rfl⟩
  rw [show L.foldl (addRow n) [] = plainP n L from rfl] at E
  obtain ⟨e, o3, o4, o5, o6, rfl⟩ := E
  have so := sorted_rev0 e
  have er : (rows (plainP n L)).map (encV n) = (plainP n L).map fun p => encV n p.2 := by
    unfold rows
    rw [List.map_map]; rfl
  rw [er] at so
  unfold lpB lrB at e1
  simp [hd, e1, so]
  unfold encT pl plS
  rfl
theorem ev_lplain (h : I__law_plain_k00 T) (hn : n < 64) (h0 : 0 < n) {d : D} {L : List (Vec q)} (hd : dSeq d = some (L.map (encV n))) (hL : Sups n L) :
    callD T (k + 2) "_law_plain" [.int q, d] s = .ok (encT n (pl n L)) s := ev_lplain0 h hn hd hL
theorem ev_lplain_L (h : I__law_plain_k00 T) (hn : n < 64) (h0 : 0 < n) {L : List (Vec q)} (hL : Sups n L) : callD T (k + 2) "_law_plain" [.int q, .lst (L.map (encV n))] s = .ok (encT n (pl n L)) s := ev_lplain h hn h0 rfl hL
theorem ev_lplain_T (h : I__law_plain_k00 T) (hn : n < 64) (h0 : 0 < n) {L : List (Vec q)} (hL : Sups n L) : callD T (k + 2) "_law_plain" [.int q, encT n L] s = .ok (encT n (pl n L)) s := ev_lplain h hn h0 rfl hL
/-! sums -/
def stepS (q : Nat) [Pr q] (found : List (Vec q)) (r : Vec q) : List (Vec q) := (List.range q).flatMap fun t : Nat => found.map fun u i => u i + toF (t : Int) * r i
def sumsL (q : Nat) [Pr q] (L : List (Vec q)) : List (Vec q) := L.foldl (stepS q) [fun _ => 0]
/-- sorted -/
def ltV (n : Nat) (u v : Vec q) : Bool := HT.lexLt (rowI n u) (rowI n v)
def srtV (n : Nat) (L : List (Vec q)) : List (Vec q) := sortBy (ltV n) L
theorem srtV_perm {L : List (Vec q)} : (srtV n L).Perm L := sortBy_perm L
theorem ev_sorted0 (L : List (Vec q)) (h0 : 0 < n ∨ L.length ≤ 1) : dSorted false [.lst (L.map (encV n))] = some ((srtV n L).map (encV n)) := by
  cases L with
  | nil => rfl
  | cons p P =>
    have hne : p :: P ≠ [] := by simp
    generalize hP : p :: P = Q at *
    have h1 := intsOf_rows (n := n) hne
    have h2 := rowsO_enc (n := n) (L := Q) h0
    have key : sortBy HT.lexLt (Q.map (rowI n)) = (srtV n Q).map (rowI n) := by
      have hs : ((srtV n Q).map (rowI n)).Pairwise (fun a b => HT.lexLt b a = false) := by
        rw [List.pairwise_map]
        exact sortBy_sorted (lt := ltV n) (NtL.swo_lexL (rowI n)) Q
      exact sort_uniq (sortBy_sorted (NtL.swo_lexL id) _) hs ((sortBy_perm _).trans (srtV_perm.map _).symm)
    show (match intsOf (Q.map (encV n)) with
      | some ns => if false = true then (if ns.isEmpty then some [] else none) else some ((sortBy ltI ns).map D.int)
      | none => (rowsO (Q.map (encV n))).map fun rs => (if false = true then (sortBy HT.lexLt rs).reverse else sortBy HT.lexLt rs).map rowD) = _
    rw [h1]
    simp only [h2, Option.map_some, Bool.false_eq_true, if_false, key]
    rw [List.map_map]
    congr 1
    refine List.map_congr_left fun v _ => ?_
    exact encV_ints.symm
theorem ev_sorted (h0 : 0 < n) (L : List (Vec q)) : dSorted false [.lst (L.map (encV n))] = some ((srtV n L).map (encV n)) := ev_sorted0 L (.inl h0)
theorem sum_const {α : Type} {c : Nat} : ∀ {l : List α}, (l.map fun _ => c).sum = l.length * c
  | [] => by simp
  | _ :: l => by
    rw [List.map_cons, List.sum_cons, sum_const (l := l), List.length_cons, Nat.succ_mul]; omega
theorem stepS_len {found : List (Vec q)} {r : Vec q} : (stepS q found r).length = q * found.length := by
  unfold stepS
  rw [List.length_flatMap]
  simp [sum_const]
theorem sums_len : ∀ {L : List (Vec q)} {a : List (Vec q)}, (L.foldl (stepS q) a).length = q ^ L.length * a.length
  | [], a => by simp
  | r :: L, a => by
    rw [List.foldl_cons, sums_len, stepS_len, List.length_cons, Nat.pow_succ, Nat.mul_assoc]
theorem foldl_app {α β : Type} (g : α → List β) : ∀ (l : List α) (a : List β), l.foldl (fun acc t => acc ++ g t) a = a ++ l.flatMap g
  | [], a => by simp
  | x :: l, a => by rw [List.foldl_cons, foldl_app g l, List.flatMap_cons, List.append_assoc]
theorem sups_step {found : List (Vec q)} {r : Vec q} (h : Sups n found) (hr : Sup n r) : Sups n (stepS q found r) := fun v hv => by
  obtain ⟨t, _, hv⟩ := List.mem_flatMap.mp hv
  obtain ⟨u, hu, rfl⟩ := List.mem_map.mp hv
  intro i hi
  show u i + toF (t : Int) * r i = 0
  rw [h u hu i hi, hr i hi]; grind
theorem sups_fold : ∀ {L a : List (Vec q)}, Sups n a → Sups n L → Sups n (L.foldl (stepS q) a)
  | [], _, h, _ => h
  | r :: L, a, h, k => sups_fold (L := L) (a := stepS q a r) (sups_step h (Sups.cons.mp k).1) (Sups.cons.mp k).2
theorem sumsL_sups {L : List (Vec q)} (h : Sups n L) : Sups n (sumsL q L) := sups_fold (fun v hv => by
  rw [List.mem_singleton.mp hv]; exact fun _ _ => rfl) h
def lsI (C : Tab) : MS := mExt 5 (mLc (mSeqI (mVar 3)) (gN 7) mYes (mCallD (lenG 4 (C "_law_plus")) (mCons (mVar 0) (mCons (mVar 7) (mCons (mVar 4) (mCons (mVar 6) mNil))))) [7])
def lsJ (a : Nat → Option Sl) (found : List (Vec q)) (n : Nat) (r : Vec q) (acc : List (Vec q)) (ρ : Env) : Prop := ∃ o6 o7, ρ = [some (.val (.int q)), a 1, a 2, some (.val (.lst (found.map (encV n)))), some (.val (encV n r)), some (.own (.lst (acc.map (encV n)))), o6, o7]
theorem ls_inner (h : I__law_plus T) (hn : Lm n) {a : Nat → Option Sl} {found : List (Vec q)} {r : Vec q} (hb : q * found.length ≤ 1000000) {o6 o7 : Option Sl} :
    Wr (mLoop (gN 6) (lsI (callD T (k + 1))) ((List.range q).map fun t : Nat => .int (t : Int)) [some (.val (.int q)), a 1, a 2, some (.val (.lst (found.map (encV n)))), some (.val (encV n r)), some (.own (.lst [])), o6, o7] s) s (lsJ a found n r (stepS q found r)) := by
  have e : stepS q found r = (List.range q).foldl (fun acc (t : Nat) => acc ++ found.map fun u i => u i + toF (t : Int) * r i) [] := by
    rw [foldl_app, List.nil_append]; rfl
  rw [e]
  refine loop_foldP (lsJ a found n r) _ (fun pre t post hx ρ hρ => ?_) ⟨_, _, rfl⟩
  obtain ⟨o6, o7, rfl⟩ := hρ
  have hpre : (pre.foldl (fun acc (t : Nat) => acc ++ found.map fun u i => u i + toF (t : Int) * r i) ([] : List (Vec q))).length + found.length ≤ 1000000 := by
    rw [foldl_app, List.nil_append, List.length_flatMap]
    simp only [List.length_map]
    have h1 := congrArg List.length hx
    simp at h1
    have h2 : (pre.map fun _ => found.length).sum = pre.length * found.length := sum_const
    rw [h2]
    have h3 : (pre.length + 1) * found.length ≤ q * found.length := Nat.mul_le_mul_right _ (by omega)
    rw [Nat.succ_mul] at h3
    omega
  have hf : Lm found.length := Lm.of (by omega)
  generalize hacc : pre.foldl (fun acc (t : Nat) => acc ++ found.map fun u i => u i + toF (t : Int) * r i) ([] : List (Vec q)) = acc at *
  have hac : Lm (acc.length + found.length) := Lm.of (by omega)
  simp [lsI, lsJ, hf, ev_lplus h hn, hac]
def lsB (C : Tab) : MS := (mSeq (mSetO (mLst mNil) 5)
    (mSeq (mFor (mRngI1 (mPeek 0)) (gN 6) (lsI C))
    (mSeq (mFrz 5) (mAsg (mVar 5) (gN 3)))))
def lsE (q n : Nat) [Pr q] (d : D) (found : List (Vec q)) (ρ : Env) : Prop := ∃ o4 o5 o6 o7, ρ = [some (.val (.int q)), some (.val (.int n)), some (.val d), some (.val (.lst (found.map (encV n)))), o4, o5, o6, o7]
theorem ls_step (h : I__law_plus T) (hn : Lm n) {d : D} {found : List (Vec q)} {r : Vec q} (hb : q * found.length ≤ 1000000) {ρ : Env} (hρ : lsE q n d found ρ) :
    Wr (R.bind (ofO (gN 4 (encV n r) ρ) s) fun ρ1 s => lsB (callD T (k + 1)) ρ1 s) s (lsE q n d (stepS q found r)) := by
  obtain ⟨o4, o5, o6, o7, rfl⟩ := hρ
  have hq : Lm q := Lm.of (by have := Pr.five (q := q); omega)
  obtain ⟨ρ1, r1, o6', o7', rfl⟩ := ls_inner (k := k) (s := s) h hn (a := fun i => if i = 1 then some (.val (.int n)) else some (.val d)) (r := r) hb (o6 := o6) (o7 := o7)
  simp at r1
  simp [lsB, hq, r1, lsE]
theorem ev_lsums0 (h : I__law_sums_k01 T) {d : D} {L : List (Vec q)} (h0 : 0 < n ∨ L = []) (hn : n ≤ 1000) (hd : dSeq d = some (L.map (encV n))) (hb : q ^ L.length ≤ 1000000) : callD T (k + 2) "_law_sums" [.int q, .int n, d] s = .ok (.lst ((srtV n (sumsL q L)).map (encV n))) s := by
  obtain ⟨h1, h2⟩ := h
  have hlm : Lm n := Lm.of (by omega)
  rw [callD_has h1 rfl]
  unfold F__law_sums_k01
  have z : dBin .Mult (.tup [.int 0]) (.int n) = some (encV n (fun _ => (0 : Fin q))) := by
    rw [mul_tup ⟨by omega, by omega, by simp⟩]
    congr 1
    unfold encV
    congr 1
    refine List.ext_getElem (by simp) fun i h1 h2 => by simp
  obtain ⟨ρ', e1, o4, o5, o6, o7, rfl⟩ := loop_foldP (s := s) (g := gN 4) (b := lsB (callD T (k + 1))) (enc := encV n) (lsE q n d) (stepS q) (xs := L) (a := [fun _ => 0]) (ρ := [some (.val (.int q)), some (.val (.int n)), some (.val d), some (.val (.lst [encV n (fun _ => (0 : Fin q))])), none, none, none, none])
    (fun pre r post hx ρ hρ => ls_step h2 hlm (by
      rw [sums_len]
      have h1 := congrArg List.length hx
      simp at h1
      have h3 : q ^ (pre.length + 1) ≤ q ^ L.length := Nat.pow_le_pow_right q_posN (by omega)
      rw [Nat.pow_succ] at h3
      simp
      rw [Nat.mul_comm]
      omega) hρ) ⟨_, _, _, _, rfl⟩
  unfold lsB lsI at e1
  have so := ev_sorted0 (n := n) (L.foldl (stepS q) [fun _ => 0]) (h0.imp id fun h => by rw [h]; exact Nat.le_refl 1)
  simp [z, hd, e1, so]
  rfl
theorem ev_lsums (h : I__law_sums_k01 T) (h0 : 0 < n) (hn : n ≤ 1000) {d : D} {L : List (Vec q)} (hd : dSeq d = some (L.map (encV n))) (hb : q ^ L.length ≤ 1000000) : callD T (k + 2) "_law_sums" [.int q, .int n, d] s = .ok (.lst ((srtV n (sumsL q L)).map (encV n))) s := ev_lsums0 h (.inl h0) hn hd hb
end
end RS

/-! what is drawn -/
namespace RS
open PySem PySem.Spec LA L2
/-! sums of multiples, gone through -/
section
variable {q n : Nat} [Pr q]
theorem mem_fold : ∀ {L a : List (Vec q)} {v : Vec q}, v ∈ L.foldl (stepS q) a ↔ ∃ u ∈ a, Span L fun i => v i - u i
  | [], a, v => by
    constructor
    · intro h; exact ⟨v, h, fun i => by show v i - v i = 0; grind⟩
    · rintro ⟨u, hu, h⟩
      rw [show v = u from funext fun i => by have := h i; grind]; exact hu
  | r :: L, a, v => by
    rw [List.foldl_cons, mem_fold]
    constructor
    · rintro ⟨w, hw, h⟩
      obtain ⟨t, _, hw⟩ := List.mem_flatMap.mp hw
      obtain ⟨u, hu, rfl⟩ := List.mem_map.mp hw
      exact ⟨u, hu, toF (t : Int), h.congr fun i => by grind⟩
    · rintro ⟨u, hu, c, h⟩
      refine ⟨fun i => u i + toF ((c.val : Nat) : Int) * r i, List.mem_flatMap.mpr ⟨c.val, List.mem_range.mpr c.isLt, List.mem_map.mpr ⟨u, hu, rfl⟩⟩, h.congr fun i => ?_⟩
      rw [toF_self]; grind
theorem mem_sumsL {L : List (Vec q)} {v : Vec q} : v ∈ sumsL q L ↔ Span L v := by
  unfold sumsL
  rw [mem_fold]
  constructor
  · rintro ⟨u, hu, h⟩
    rw [List.mem_singleton.mp hu] at h
    exact h.congr fun i => by grind
  · intro h
    exact ⟨_, List.mem_singleton.mpr rfl, h.congr fun i => by grind⟩
def units (q n : Nat) [Pr q] : List (Vec q) := (List.range n).map fun j => unit j
theorem units_sups : Sups n (units q n) := fun r hr => by
  obtain ⟨j, hj, rfl⟩ := List.mem_map.mp hr
  exact unit_sup (List.mem_range.mp hj)
theorem span_units {v : Vec q} : Span (units q n) v ↔ Sup n v := by
  constructor
  · exact Sup.span units_sups
  · intro h
    have hB : ∀ j ∈ List.range n, ∀ k ∈ List.range n, (unit j : Vec q) k = if k = j then 1 else 0 := fun j _ k _ => rfl
    obtain ⟨w, hw, e⟩ := sum_units (v := v) hB List.nodup_range
    refine hw.congr fun i => ?_
    by_cases c : i < n
    · exact (e i (List.mem_range.mpr c)).symm
    · rw [h i (by omega), Sup.span (units_sups (q := q) (n := n)) hw i (by omega)]
theorem against_same {L : List (Vec q)} (hL : Sups n L) : Same ((srtV n (sumsL q (units q n))).filter fun r => L.all fun o => decide (dot n r o = 0)) (van n L) := by
  have hm : ∀ r, r ∈ ((srtV n (sumsL q (units q n))).filter fun r => L.all fun o => decide (dot n r o = 0)) ↔ Perp n L r := fun r => by
    rw [List.mem_filter, srtV_perm.mem_iff, mem_sumsL, span_units, List.all_eq_true]
    constructor
    · rintro ⟨a, b⟩
      exact ⟨a, fun o ho => by rw [dot_comm]; exact of_decide_eq_true (b o ho)⟩
    · rintro ⟨a, b⟩
      exact ⟨a, fun o ho => decide_eq_true (by rw [dot_comm]; exact b o ho)⟩
  refine Same.of (fun r hr => (van_iff hL).mpr ((hm r).mp hr)) (fun r hr => Span.mem ((hm r).mpr ((van_iff hL).mp (Span.mem hr))))
theorem against_sups {L : List (Vec q)} : Sups n ((srtV n (sumsL q (units q n))).filter fun r => L.all fun o => decide (dot n r o = 0)) := fun r hr => by
  have := srtV_perm.mem_iff.mp (List.mem_filter.mp hr).1
  exact sumsL_sups units_sups r this
end
section
variable {T : CT} {k : Nat} {s : DS} {q n : Nat} [Pr q] {fd : Str}
theorem at_mem {xs : Ds} {r : Nat} (h : r < xs.length) : ∃ x, L2.atI xs (r : Int) = some x ∧ x ∈ xs := by
  refine ⟨xs[r], ?_, List.getElem_mem h⟩
  have := at_map (f := id) (xs := xs) (i := r) (x := xs[r]) (by simp)
  simpa using this
theorem ev_pick (h : I__law_pick T) (Dr : Drw T fd) (hs : Wf fd s) {xs : Ds} (h0 : xs ≠ []) (h1 : xs.length < 1073741824) : W (callD T (k + 2) "_law_pick" [.deck, .lst xs] s) fun d s' => d ∈ xs ∧ Wf fd s' := by
  rw [callD_has h rfl]
  unfold F__law_pick
  have hp : 0 < xs.length := List.length_pos_iff.mpr h0
  simp [W_bind]
  refine W_imp (Dr.go k s xs.length hs hp h1) ?_
  rintro d s' ⟨⟨r, hr, rfl⟩, hs'⟩
  obtain ⟨x, e1, e2⟩ := at_mem hr
  simp [e1, e2, hs']
theorem ev_pickT (h : I__law_pick T) (Dr : Drw T fd) (hs : Wf fd s) {xs : Ds} (h0 : xs ≠ []) (h1 : xs.length < 1073741824) : W (callD T (k + 2) "_law_pick" [.deck, .tup xs] s) fun d s' => d ∈ xs ∧ Wf fd s' := by
  rw [callD_has h rfl]
  unfold F__law_pick
  have hp : 0 < xs.length := List.length_pos_iff.mpr h0
  simp [W_bind]
  refine W_imp (Dr.go k s xs.length hs hp h1) ?_
  rintro d s' ⟨⟨r, hr, rfl⟩, hs'⟩
  obtain ⟨x, e1, e2⟩ := at_mem hr
  simp [e1, e2, hs']
/-- a row of drawn marks -/
theorem vec_of {l : List (Fin q)} (h : l.length = n) : ∃ v : Vec q, Sup n v ∧ D.tup (l.map fun m => .int ((m.val : Nat) : Int)) = encV n v := by
  refine ⟨fun i => if c : i < l.length then l[i] else 0, fun i hi => dif_neg (by omega), ?_⟩
  unfold encV
  congr 1
  refine List.ext_getElem (by simp [h]) fun i h1 h2 => ?_
  simp at h1 h2
  simp [h1]
theorem ev_drawn_row (h : I__law_drawn_row T) (Dr : Drw T fd) (hs : Wf fd s) (hn : Lm n) : W (callD T (k + 3) "_law_drawn_row" [.deck, .int q, .int n] s) fun d s' => (∃ v : Vec q, Sup n v ∧ d = encV n v) ∧ Wf fd s' := by
  obtain ⟨h1, h2⟩ := h
  rw [callD_has h1 rfl]
  unfold F__law_drawn_row
  simp [W_bind]
  refine W_imp (ev_pick (k := k) h2 Dr hs (by simp) (by simp)) ?_
  rintro d s1 ⟨hd, hs1⟩
  have hsh : ∃ m : Nat, 0 < m ∧ m < 1073741824 ∧ d = .int (m : Int) := by
    simp at hd
    rcases hd with rfl | rfl | rfl
    · exact ⟨1, by omega, by omega, rfl⟩
    · exact ⟨2, by omega, by omega, rfl⟩
    · exact ⟨3, by omega, by omega, rfl⟩
  obtain ⟨m, m0, m1, rfl⟩ := hsh
  simp [hn, W_bind]
  refine W_imp (lcF_W (J := Wf fd) (Q := fun (_ : Nat) y => ∃ m : Fin q, True ∧ y = .int ((m.val : Nat) : Int)) (fun i hi s hs => ?_) hs1) ?_
  · simp [W_bind]
    refine W_imp (Dr.go (k + 1) s m hs m0 m1) ?_
    rintro d s' ⟨⟨r, hr, rfl⟩, hs'⟩
    by_cases c : r = 0
    · subst c
      simp
      refine W_imp (Dr.go (k + 1) s' q hs' q_posN (by have := Pr.five (q := q); omega)) ?_
      rintro d s' ⟨⟨r, hr, rfl⟩, hs'⟩
      simp [hs']
      exact ⟨⟨r, hr⟩, rfl⟩
    · have : ¬ ((r : Int) = 0) := by omega
      simp [c, hs']
      exact ⟨0, rfl⟩
  · rintro ys s' ⟨hs', ha⟩
    obtain ⟨l, rfl, a2⟩ := ha.choose
    have hl : l.length = n := by rw [a2.len]; simp
    obtain ⟨v, hv, e⟩ := vec_of hl
    simp [hs', e]
    exact ⟨v, hv, rfl⟩
/-- q and n that are drawn -/
def QN (d : D) : Prop := ∃ q n : Nat, Pr q ∧ 2 ≤ n ∧ n ≤ 7 ∧ q ^ n ≤ 400 ∧ d = .tup [.int (q : Int), .int (n : Int)]
theorem QN.mk (q n : Nat) (h : Pr q := by exact ⟨by decide⟩) (h2 : 2 ≤ n := by decide) (h3 : n ≤ 7 := by decide) (h4 : q ^ n ≤ 400 := by decide) : QN (.tup [.int (q : Int), .int (n : Int)]) := ⟨q, n, h, h2, h3, h4, rfl⟩
theorem ev_sizes_k01 (h : I__law_sizes_k01 T) (Dr : Drw T fd) (hs : Wf fd s) : W (callD T (k + 3) "_law_sizes" [.deck] s) fun d s' => QN d ∧ Wf fd s' := by
  obtain ⟨h1, h2⟩ := h
  rw [callD_has h1 rfl]
  unfold F__law_sizes_k01
  have ad : ∀ xs ys : Ds, xs.length + ys.length ≤ 100 → dBin .Add (.lst xs) (.lst ys) = some (.lst (xs ++ ys)) := fun xs ys h => cat_l (by have hl : lim = 16777216 := rfl; omega)
  simp [W_bind, ad]
  refine W_imp (ev_pick (k := k) h2 Dr hs (by simp) (by simp)) ?_
  rintro d s1 ⟨hd, hs1⟩
  refine ⟨?_, hs1⟩
  simp at hd
  rcases hd with rfl | rfl | rfl | rfl | rfl | rfl | rfl | rfl | rfl | rfl | rfl | rfl | rfl | rfl <;> first | exact QN.mk 2 2 | exact QN.mk 2 3 | exact QN.mk 2 4 | exact QN.mk 2 5 | exact QN.mk 2 6 | exact QN.mk 2 7 | exact QN.mk 3 2 | exact QN.mk 3 3 | exact QN.mk 3 4 | exact QN.mk 3 5 | exact QN.mk 5 2 | exact QN.mk 5 3
theorem ev_drawn_book (h : I__law_drawn_book_k00 T) (Dr : Drw T fd) (hs : Wf fd s) (h0 : 0 < n) (hn : n < 64) : W (callD T (k + 4) "_law_drawn_book" [.deck, .int q, .int n] s) fun d s' => (∃ L : List (Vec q), Plain n L ∧ d = encB q n L) ∧ Wf fd s' := by
  obtain ⟨h1, h2, h3⟩ := h
  have hlm : Lm n := Lm.of (by omega)
  rw [callD_has h1 rfl]
  unfold F__law_drawn_book_k00
  simp [W_bind]
  refine W_imp (Dr.go (k + 2) s (n + 1) hs (by omega) (by omega)) ?_
  rintro d s1 ⟨⟨r, hr, rfl⟩, hs1⟩
  have hlr : Lm r := Lm.of (by omega)
  simp [W_bind, hlr]
  refine W_imp (lcF_W (J := Wf fd) (Q := fun (_ : Nat) y => ∃ v : Vec q, Sup n v ∧ y = encV n v) (fun i hi s hs => ?_) hs1) ?_
  · simp [W_bind]
    refine W_imp (ev_drawn_row (k := k) (q := q) h2 Dr hs hlm) ?_
    rintro d s' ⟨⟨v, hv, rfl⟩, hs'⟩
    simp [hs']
    exact ⟨v, hv, rfl⟩
  · rintro ys s' ⟨hs', ha⟩
    obtain ⟨L, rfl, a2⟩ := ha.choose
    have hL : Sups n L := All2.right (p := Sup n) (fun _ _ h => h) a2
    have e := ev_lplain_L (k := k + 1) (s := s') h3 hn h0 hL
    simp [e, hs', encB]
    exact ⟨_, pl_plain hL, rfl⟩
theorem ev_rows_against (h : I__law_rows_against T) (h0 : 0 < n) (hn : n < 64) (hb : q ^ n ≤ 1000000) {L : List (Vec q)} (hL : Plain n L) : callD T (k + 3) "_law_rows_against" [.int q, .int n, encT n L] s = .ok (encT n (van n L)) s := by
  obtain ⟨h1, h2, h3, h4, h5⟩ := h
  have hlm : Lm n := Lm.of (by omega)
  rw [callD_has h1 rfl]
  unfold F__law_rows_against
  have eu := ev_lunit (q := q) (k := k + 1) (s := s) h5 hlm
  have su : (List.range n).map (fun j => encV n (unit j : Vec q)) = (units q n).map (encV n) := by unfold units; rw [List.map_map]; rfl
  rw [su] at eu
  have es := ev_lsums (k := k) (s := s) h4 h0 (by omega) (d := .lst ((units q n).map (encV n))) (L := units q n) rfl (by unfold units; simpa using hb)
  have hls : Lm (sumsL q (units q n)).length := Lm.of (by
    unfold sumsL
    rw [sums_len]
    unfold units
    simp
    omega)
  have hls' : Lm (srtV n (sumsL q (units q n))).length := by rw [srtV_perm.length_eq]; exact hls
  have hlL : Lm L.length := hlm.le hL.len
  have em : ∀ u w : Vec q, ∀ s, callD T (k + 2) "_law_meet" [.int q, encV n u, encV n w] s = .ok (.int ((dot n u w).val : Nat)) s := fun u w s => ev_lmeet h2 hlm u w
  have ep := ev_lplain_L (k := k) (s := s) h3 hn h0 (against_sups (n := n) (L := L))
  rw [pl_eq against_sups (van_sups hL.sups) (against_same hL.sups), (van_plain hL.sups).pl] at ep
  have sq : dSeq (encT n L) = some (L.map (encV n)) := rfl
  have fl : ((srtV n (sumsL q (units q n))).filter fun r => L.all fun o => decide (dot n r o = 0)) = (srtV n (sumsL q (units q n))).filter fun r => decide (∀ x ∈ L, dot n r x = 0) := by
    congr 1
    funext r
    rw [Bool.eq_iff_iff]
    simp
  rw [fl] at ep
  simp [eu, es, hls', sq, hlL, em, eq_nil_i, ep]
end
end RS

namespace RS
open PySem PySem.Spec
def F__law_any : SM := fun C => (mSeq (mAsg (mCallD (lenG 2 (C "_law_draw")) (mCons (mVar 0) (mCons (mC (.int (9))) mNil))) (gN 2))
    (mSeq (mIf (mCmpB .Lt (mPeek 2) (mC (.int (2)))) (mRet (mCallD (lenG 2 (C "_law_pick")) (mCons (mVar 0) (mCons (fun ρ => (mLst (mCons (mC (.int (0))) (mCons (mC (.int (1))) (mCons (mNeg (mC (.int (1)))) (mCons (mC (.int (2))) (mCons (mC (.int (3))) (mCons (mC (.int (5))) (mCons (mC (.int (7))) (mCons (mBin .Pow (mC (.int (10))) (mC (.int (39)))) (mCons (mNeg (mBin .Pow (mC (.int (10))) (mC (.int (20))))) mNil)))))))))) ρ >>= fun ds => pure (.lst ds)) mNil)))) mNext)
    (mSeq (mIf (mCmpB .Eq (mPeek 2) (mC (.int (2)))) (mRet (mCallD (lenG 2 (C "_law_pick")) (mCons (mVar 0) (mCons (fun ρ => (mLst (mCons (mC (.str "")) (mCons (mC (.str "round")) (mCons (mC (.str "against")) (mCons (mC (.str "rows")) (mCons (mC (.str "least")) (mCons (mC (.str "0")) (mCons (mC (.str "~")) (mCons (mC (.str "Round")) mNil))))))))) ρ >>= fun ds => pure (.lst ds)) mNil)))) mNext)
    (mSeq (mIf (mCmpB .Eq (mPeek 2) (mC (.int (3)))) (mRet (mCallD (lenG 2 (C "_law_pick")) (mCons (mVar 0) (mCons (fun ρ => (mLst (mCons (mC (.bl true)) (mCons (mC (.bl false)) (mCons (mC .non) mNil)))) ρ >>= fun ds => pure (.lst ds)) mNil)))) mNext)
    (mSeq (mAsg (mIf (mCmpB .Gt (mPeek 1) (mC (.int (0)))) (fun ρ => (mLc (mRngI1 (mCallD (lenG 2 (C "_law_draw")) (mCons (mVar 0) (mCons (mC (.int (4))) mNil)))) (gN 4) mYes (mCallD (lenG 2 (C "_law_any")) (mCons (mVar 0) (mCons (mBin .Sub (mPeek 1) (mC (.int (1)))) mNil))) [4]) ρ >>= fun ds => pure (.lst ds)) (fun ρ => (mLst mNil) ρ >>= fun ds => pure (.lst ds))) (gN 3))
    (mSeq (mIf (mCmpB .Eq (mPeek 2) (mC (.int (4)))) (mRet (mVar 3)) mNext)
    (mRet (mIf (mCmpB .Eq (mPeek 2) (mC (.int (5)))) (mDisp [((mC (.str "round")), (mCall bLen (mCons (mPeek 3) mNil))), ((mC (.int (1))), (mC .non))]) (mCall bTuple (mCons (mPeek 3) mNil))))))))))
def I__law_any (T : CT) : Prop := Has T "_law_any" ["deck", "deep", "way", "some", "turn"] 2 F__law_any ∧ I__law_pick T
def F__law_mixed_tuple : SM := fun C => (mSeq (mPar3 2 3 4 (mCons (mCallD (lenG 2 (C "_law_draw")) (mCons (mVar 0) (mCons (mC (.int (8))) mNil))) (mCons (mCallD (lenG 2 (C "_law_draw")) (mCons (mVar 0) (mCons (mBin .Add (mCall bLen (mCons (mPeek 1) mNil)) (mC (.int (1)))) mNil))) (mCons (mCallD (lenG 2 (C "_law_draw")) (mCons (mVar 0) (mCons (mBin .Add (mCall bLen (mCons (mPeek 1) mNil)) (mC (.int (1)))) mNil))) mNil))))
    (mSeq (mPar2 5 6 (mCons (mCall bMin (mCons (mPeek 3) (mCons (mPeek 4) mNil))) (mCons (mCall bMax (mCons (mPeek 3) (mCons (mPeek 4) mNil))) mNil)))
    (mSeq (mIf (mCmpB .Eq (mPeek 2) (mC (.int (0)))) (mRet (fun ρ => (mCallF bList (mCons (mPeek 1) mNil)) ρ >>= fun ds => pure (.lst ds))) mNext)
    (mSeq (mIf (mCmpB .Eq (mPeek 2) (mC (.int (1)))) (mRet (mBin .Add (mSl (mPeek 1) mNoP (mP (mPeek 3))) (mSl (mPeek 1) (mP (mBin .Add (mPeek 3) (mC (.int (1))))) mNoP))) mNext)
    (mSeq (mIf (mCmpB .Eq (mPeek 2) (mC (.int (2)))) (mRet (mBin .Add (mBin .Add (mSl (mPeek 1) mNoP (mP (mPeek 3))) (mSl (mPeek 1) (mP (mPeek 3)) (mP (mBin .Add (mPeek 3) (mC (.int (1))))))) (mSl (mPeek 1) (mP (mPeek 3)) mNoP))) mNext)
    (mSeq (mIf (mCmpB .Eq (mPeek 2) (mC (.int (3)))) (mSeq (mAsg (mBin .Add (mBin .Add (mSl (mPeek 1) mNoP (mP (mPeek 5))) (mSl (mPeek 1) (mP (mPeek 6)) (mP (mBin .Add (mPeek 6) (mC (.int (1))))))) (mSl (mPeek 1) (mP (mBin .Add (mPeek 5) (mC (.int (1))))) (mP (mPeek 6)))) (gN 7))
    (mRet (mBin .Add (mBin .Add (mPeek 7) (mSl (mPeek 1) (mP (mPeek 5)) (mP (mBin .Add (mPeek 5) (mC (.int (1))))))) (mSl (mPeek 1) (mP (mBin .Add (mPeek 6) (mC (.int (1))))) mNoP)))) mNext)
    (mSeq (mIf (mCmpB .Eq (mPeek 2) (mC (.int (4)))) (mRet (mBin .Add (mBin .Add (mSl (mPeek 1) mNoP (mP (mPeek 3))) (mTup (mCons (mCallD (lenG 2 (C "_law_any")) (mCons (mVar 0) (mCons (mC (.int (0))) mNil))) mNil))) (mSl (mPeek 1) (mP (mPeek 3)) mNoP))) mNext)
    (mSeq (mIf (mCmpB .Eq (mPeek 2) (mC (.int (5)))) (mRet (mTup (mCons (mVar 1) mNil))) mNext)
    (mRet (mIf (mCmpB .Eq (mPeek 2) (mC (.int (6)))) (mBack (mPeek 1)) (mSl (mPeek 1) (mP (mPeek 5)) (mP (mPeek 6)))))))))))))
def I__law_mixed_tuple (T : CT) : Prop := Has T "_law_mixed_tuple" ["deck", "thing", "way", "at", "to", "low", "high", "some"] 2 F__law_mixed_tuple ∧ I__law_any T
def F__law_bent_k00 : SM := fun C => (mSeq (mIf (mAndB (mTru (mBl (mIsa "tuple" (mPeek 1)))) (mAndB (mCmpB .NotEq (mPeek 1) (mTup mNil)) (mCmpB .Gt (mCallD (lenG 2 (C "_law_draw")) (mCons (mVar 0) (mCons (mC (.int (5))) mNil))) (mC (.int (0)))))) (mSeq (mAsg (mCallD (lenG 2 (C "_law_draw")) (mCons (mVar 0) (mCons (mCall bLen (mCons (mPeek 1) mNil)) mNil))) (gN 2))
    (mRet (mBin .Add (mBin .Add (mSl (mPeek 1) mNoP (mP (mPeek 2))) (mTup (mCons (mCallD (lenG 2 (C "_law_bent")) (mCons (mVar 0) (mCons (mIxM (mPeek 1) (mPeek 2)) mNil))) mNil))) (mSl (mPeek 1) (mP (mBin .Add (mPeek 2) (mC (.int (1))))) mNoP)))) mNext)
    (mSeq (mAsg (mCallD (lenG 2 (C "_law_draw")) (mCons (mVar 0) (mCons (mC (.int (5))) mNil))) (gN 3))
    (mSeq (mIf (mAndB (mTru (mBl (mIsa "int" (mPeek 1)))) (mCmpB .Gt (mPeek 3) (mC (.int (0))))) (mSeq (mAsg (fun ρ => (mLst (mCons (mBin .Add (mPeek 1) (mC (.int (1)))) (mCons (mBin .Sub (mPeek 1) (mC (.int (1)))) (mCons (mBl (mCmpB .Eq (mPeek 1) (mC (.int (1))))) (mCons (mBin .Sub (mC (.int (1))) (mPeek 1)) mNil))))) ρ >>= fun ds => pure (.lst ds)) (gN 4))
    (mRet (mCallD (lenG 2 (C "_law_pick")) (mCons (mVar 0) (mCons (mBin .Add (mPeek 4) (fun ρ => (mLst (mCons (mCall bStr (mCons (mPeek 1) mNil)) (mCons (mTup (mCons (mVar 1) mNil)) (mCons (mC (.int (0))) (mCons (mC (.int (1))) (mCons (mC (.int (2))) mNil)))))) ρ >>= fun ds => pure (.lst ds))) mNil))))) mNext)
    (mSeq (mIf (mAndB (mTru (mBl (mIsa "str" (mPeek 1)))) (mCmpB .Gt (mPeek 3) (mC (.int (0))))) (mRet (mCallD (lenG 2 (C "_law_pick")) (mCons (mVar 0) (mCons (fun ρ => (mLst (mCons (mC (.str "round")) (mCons (mC (.str "against")) (mCons (mUp (mPeek 1)) (mCons (mBin .Add (mPeek 1) (mC (.str "s"))) (mCons (mSl (mPeek 1) mNoP (mP (mNeg (mC (.int (1)))))) (mCons (mTup (mCons (mVar 1) mNil)) mNil))))))) ρ >>= fun ds => pure (.lst ds)) mNil)))) mNext)
    (mSeq (mIf (mAndB (mTru (mBl (mIsa "tuple" (mPeek 1)))) (mCmpB .Gt (mPeek 3) (mC (.int (0))))) (mRet (mCallD (lenG 2 (C "_law_mixed_tuple")) (mCons (mVar 0) (mCons (mVar 1) mNil)))) mNext)
    (mRet (mCallD (lenG 2 (C "_law_any")) (mCons (mVar 0) (mCons (mC (.int (1))) mNil)))))))))
def I__law_bent_k00 (T : CT) : Prop := Has T "_law_bent" ["deck", "thing", "at", "way", "some"] 2 F__law_bent_k00 ∧ I__law_any T ∧ I__law_mixed_tuple T ∧ I__law_pick T
def F__law_often_bent : SM := fun C => (mSeq (mIf (mCmpB .Eq (mCallD (lenG 2 (C "_law_draw")) (mCons (mVar 0) (mCons (mC (.int (12))) mNil))) (mC (.int (0)))) (mRet (mCallD (lenG 2 (C "_law_any")) (mCons (mVar 0) (mCons (mC (.int (2))) mNil)))) mNext)
    (mSeq (mFor (mRngI1 (mCallD (lenG 2 (C "_law_pick")) (mCons (mVar 0) (mCons (fun ρ => (mLst (mCons (mC (.int (0))) (mCons (mC (.int (1))) (mCons (mC (.int (1))) (mCons (mC (.int (1))) (mCons (mC (.int (2))) mNil)))))) ρ >>= fun ds => pure (.lst ds)) mNil)))) (gN 2) (mAsg (mCallD (lenG 2 (C "_law_bent")) (mCons (mVar 0) (mCons (mVar 1) mNil))) (gN 1)))
    (mRet (mVar 1))))
def I__law_often_bent (T : CT) : Prop := Has T "_law_often_bent" ["deck", "thing", "turn"] 2 F__law_often_bent ∧ I__law_any T ∧ I__law_bent_k00 T ∧ I__law_pick T
def F__law_truths : SM := fun C => (mSeq (mIf (mTru (mBl (mIsa "tuple" (mPeek 0)))) (mRet (mCall bTuple (mCons (fun ρ => (mLc (mSeqI (mVar 0)) (gN 1) mYes (mCallD (lenG 1 (C "_law_truths")) (mCons (mVar 1) mNil)) [1]) ρ >>= fun ds => pure (.lst ds)) mNil))) mNext)
    (mRet (mIf (mAndB (mTru (mBl (mIsa "int" (mPeek 0)))) (mCmpB .In (mPeek 0) (mTup (mCons (mC (.int (0))) (mCons (mC (.int (1))) mNil))))) (mBl (mCmpB .Eq (mPeek 0) (mC (.int (1))))) (mVar 0))))
def I__law_truths (T : CT) : Prop := Has T "_law_truths" ["thing", "it"] 1 F__law_truths
def F__law_is_integer_k00 : SM := fun C => (mRet (mIf (mAsB (mBl (mIsa "int" (mPeek 0)))) (mIf (mAsB (mBl (mNotB (mAsB (mBl (mIsa "bool" (mPeek 0))))))) (mBl (mChain .LtE .LtE (mPeek 1) (mPeek 0) (mPeek 2))) fun _ => pure (.bl false)) fun _ => pure (.bl false)))
def I__law_is_integer_k00 (T : CT) : Prop := Has T "_law_is_integer" ["thing", "low", "high"] 3 F__law_is_integer_k00
def F__law_is_row_k00 : SM := fun C => (mRet (mIf (mAsB (mBl (mIsa "tuple" (mPeek 2)))) (mIf (mAsB (mBl (mCmpB .Eq (mCall bLen (mCons (mPeek 2) mNil)) (mPeek 1)))) (mBl (mCmpB .Eq (fun ρ => (mLc (mSeqI (mVar 2)) (gN 3) (mNotB (mTru (mCallD (lenG 3 (C "_law_is_integer")) (mCons (mVar 3) (mCons (mC (.int (0))) (mCons (mBin .Sub (mPeek 0) (mC (.int (1)))) mNil)))))) (mVar 3) [3]) ρ >>= fun ds => pure (.lst ds)) (fun ρ => (mLst mNil) ρ >>= fun ds => pure (.lst ds)))) fun _ => pure (.bl false)) fun _ => pure (.bl false)))
def I__law_is_row_k00 (T : CT) : Prop := Has T "_law_is_row" ["q", "n", "thing", "x"] 3 F__law_is_row_k00 ∧ I__law_is_integer_k00 T
def F__law_is_plain_k00 : SM := fun C => (mSeq (mIf (mOrB (mNotB (mTru (mBl (mIsa "tuple" (mPeek 2))))) (mCmpB .NotEq (fun ρ => (mLc (mSeqI (mVar 2)) (gN 3) (mNotB (mTru (mCallD (lenG 3 (C "_law_is_row")) (mCons (mVar 0) (mCons (mVar 1) (mCons (mVar 3) mNil)))))) (mVar 3) [3]) ρ >>= fun ds => pure (.lst ds)) (fun ρ => (mLst mNil) ρ >>= fun ds => pure (.lst ds)))) (mRet (mC (.bl false))) mNext)
    (mRet (mBl (mCmpB .Eq (mPeek 2) (mCallD (lenG 2 (C "_law_plain")) (mCons (mVar 0) (mCons (mVar 2) mNil)))))))
def I__law_is_plain_k00 (T : CT) : Prop := Has T "_law_is_plain" ["q", "n", "thing", "row"] 3 F__law_is_plain_k00 ∧ I__law_is_row_k00 T ∧ I__law_plain_k00 T
def F__law_is_book_k00 : SM := fun C => (mSeq (mIf (mOrB (mNotB (mTru (mBl (mIsa "tuple" (mPeek 0))))) (mOrB (mCmpB .NotEq (mCall bLen (mCons (mPeek 0) mNil)) (mC (.int (3)))) (mOrB (mNotB (mTru (mCallD (lenG 3 (C "_law_is_integer")) (mCons (mIxM (mPeek 0) (mC (.int (0)))) (mCons (mC (.int (2))) (mCons (mC (.int (5))) mNil)))))) (mCmpB .Eq (mIxM (mPeek 0) (mC (.int (0)))) (mC (.int (4))))))) (mRet (mC (.bl false))) mNext)
    (mRet (mIf (mAsB (mCallD (lenG 3 (C "_law_is_integer")) (mCons (mIxM (mPeek 0) (mC (.int (1)))) (mCons (mC (.int (2))) (mCons (mC (.int (12))) mNil))))) (mCallD (lenG 3 (C "_law_is_plain")) (mCons (mIxM (mPeek 0) (mC (.int (0)))) (mCons (mIxM (mPeek 0) (mC (.int (1)))) (mCons (mIxM (mPeek 0) (mC (.int (2)))) mNil)))) fun _ => pure (.bl false))))
def I__law_is_book_k00 (T : CT) : Prop := Has T "_law_is_book" ["thing"] 1 F__law_is_book_k00 ∧ I__law_is_integer_k00 T ∧ I__law_is_plain_k00 T
end RS

/-! values of all kinds, and what is made of them -/
namespace RS
open PySem PySem.Spec LA L2
/-! ### plain values of any kind: ints not too great, texts of plain signs -/
mutual
def avD (m : Nat) : D → Bool
  | .non | .bl _ => true
  | .int i => decide (i.natAbs ≤ 2 ^ 140 + m)
  | .str s => s.cps.toList.all fun c => decide (c < 128)
  | .tup xs | .lst xs => avs m xs
  | .dic kvs => avkv m kvs
  | _ => false
def avs (m : Nat) : Ds → Bool
  | [] => true
  | d :: ds => avD m d && avs m ds
def avkv (m : Nat) : Dp2 → Bool
  | [] => true
  | (k, d) :: ds => avD m k && avD m d && avkv m ds
end
theorem all_imp {l : List Nat} {p q : Nat → Bool} (h : l.all p = true) (k : ∀ x, p x = true → q x = true) : l.all q = true := by
  rw [List.all_eq_true] at *
  exact fun x hx => k x (h x hx)
mutual
theorem av_ok {m : Nat} (hm : m ≤ 1000) : ∀ d : D, avD m d = true → okD d = true
  | .non, _ => rfl
  | .bl _, _ => rfl
  | .int i, h => by
    have h1 : i.natAbs ≤ 2 ^ 140 + m := of_decide_eq_true h
    refine decide_eq_true (Nat.lt_of_le_of_lt h1 ?_)
    have : (2 : Nat) ^ 140 + 1000 < 2 ^ 200 := by decide
    omega
  | .str s, h => all_imp (p := fun c => decide (c < 128)) h fun x hx => decide_eq_true (by have := of_decide_eq_true hx; omega)
  | .tup xs, h => avs_ok hm xs h
  | .lst xs, h => avs_ok hm xs h
  | .dic kvs, h => avkv_ok hm kvs h
  | .scr _, h => by cases h
  | .deck, h => by cases h
  | .err _ _, h => by cases h
  | .lam _ _, h => by cases h
theorem avs_ok {m : Nat} (hm : m ≤ 1000) : ∀ ds : Ds, avs m ds = true → oks ds = true
  | [], _ => rfl
  | d :: ds, h => by
    have h' := Bool.and_eq_true_iff.mp (show (avD m d && avs m ds) = true from h)
    exact Bool.and_eq_true_iff.mpr ⟨av_ok hm d h'.1, avs_ok hm ds h'.2⟩
theorem avkv_ok {m : Nat} (hm : m ≤ 1000) : ∀ ds : Dp2, avkv m ds = true → okkv ds = true
  | [], _ => rfl
  | (k, d) :: ds, h => by
    have h' := Bool.and_eq_true_iff.mp (show (avD m k && avD m d && avkv m ds) = true from h)
    have h2 := Bool.and_eq_true_iff.mp h'.1
    exact Bool.and_eq_true_iff.mpr ⟨Bool.and_eq_true_iff.mpr ⟨av_ok hm k h2.1, av_ok hm d h2.2⟩, avkv_ok hm ds h'.2⟩
end
mutual
theorem av_le {m m' : Nat} (hm : m ≤ m') : ∀ d : D, avD m d = true → avD m' d = true
  | .non, _ => rfl
  | .bl _, _ => rfl
  | .int i, h => decide_eq_true (by have := of_decide_eq_true (show decide (i.natAbs ≤ 2 ^ 140 + m) = true from h); omega)
  | .str s, h => h
  | .tup xs, h => avs_le hm xs h
  | .lst xs, h => avs_le hm xs h
  | .dic kvs, h => avkv_le hm kvs h
  | .scr _, h => by cases h
  | .deck, h => by cases h
  | .err _ _, h => by cases h
  | .lam _ _, h => by cases h
theorem avs_le {m m' : Nat} (hm : m ≤ m') : ∀ ds : Ds, avs m ds = true → avs m' ds = true
  | [], _ => rfl
  | d :: ds, h => by
    have h' := Bool.and_eq_true_iff.mp (show (avD m d && avs m ds) = true from h)
    exact Bool.and_eq_true_iff.mpr ⟨av_le hm d h'.1, avs_le hm ds h'.2⟩
theorem avkv_le {m m' : Nat} (hm : m ≤ m') : ∀ ds : Dp2, avkv m ds = true → avkv m' ds = true
  | [], _ => rfl
  | (k, d) :: ds, h => by
    have h' := Bool.and_eq_true_iff.mp (show (avD m k && avD m d && avkv m ds) = true from h)
    have h2 := Bool.and_eq_true_iff.mp h'.1
    exact Bool.and_eq_true_iff.mpr ⟨Bool.and_eq_true_iff.mpr ⟨av_le hm k h2.1, av_le hm d h2.2⟩, avkv_le hm ds h'.2⟩
end
theorem avs_iff {m : Nat} : ∀ {ds : Ds}, avs m ds = true ↔ ∀ d ∈ ds, avD m d = true
  | [] => by simp [avs]
  | d :: ds => by
    show (avD m d && avs m ds) = true ↔ _
    rw [Bool.and_eq_true, avs_iff (ds := ds)]
    simp
/-- a value: its ints, its size, its depth -/
structure An (m n k : Nat) (d : D) : Prop where
  av : avD m d = true
  sz : szD d ≤ n
  dp : dpD d ≤ k
/-- some values together -/
structure As (m n k : Nat) (ds : Ds) : Prop where
  av : ∀ d ∈ ds, avD m d = true
  sz : szs ds ≤ n
  dp : ∀ d ∈ ds, dpD d ≤ k
theorem An.plain {m n k : Nat} {d : D} (h : An m n k d) (hm : m ≤ 1000 := by omega) : d.plain = true := ok_plain d (av_ok hm d h.av)
theorem An.mono {m n k m' n' k' : Nat} {d : D} (h : An m n k d) (h1 : m ≤ m' := by omega) (h2 : n ≤ n' := by omega) (h3 : k ≤ k' := by omega) : An m' n' k' d := ⟨av_le h1 d h.av, Nat.le_trans h.sz h2, Nat.le_trans h.dp h3⟩
theorem An.rp {m n k : Nat} {d : D} (h : An m n k d) (h1 : m ≤ 1000 := by omega) (h2 : n ≤ 8000000 := by omega) (h3 : k ≤ 60 := by omega) : Rp d := ⟨av_ok h1 d h.av, Nat.le_trans h.sz h2, Nat.le_trans h.dp h3⟩
def anB (m n k : Nat) (d : D) : Bool := avD m d && (decide (szD d ≤ n) && decide (dpD d ≤ k))
theorem An.of {m n k : Nat} {d : D} (h : anB m n k d = true) : An m n k d := by
  unfold anB at h
  simp only [Bool.and_eq_true, decide_eq_true_eq] at h
  exact ⟨h.1, h.2.1, h.2.2⟩
theorem an_all {m n k : Nat} {ds : Ds} (h : ds.all (anB m n k) = true) : ∀ d ∈ ds, An m n k d := fun d hd => An.of (List.all_eq_true.mp h d hd)
theorem szs_app : ∀ {xs ys : Ds}, szs (xs ++ ys) = szs xs + szs ys
  | [], ys => by simp [szs]
  | x :: xs, ys => by
    show szD x + 2 + szs (xs ++ ys) = szD x + 2 + szs xs + szs ys
    rw [szs_app]; omega
theorem szs_take : ∀ {xs : Ds} {n : Nat}, szs (xs.take n) + szs (xs.drop n) = szs xs := fun {xs n} => by rw [← szs_app, List.take_append_drop]
theorem szs_len : ∀ {xs : Ds}, 2 * xs.length ≤ szs xs
  | [] => Nat.zero_le _
  | x :: xs => by
    have := szs_len (xs := xs)
    show 2 * (xs.length + 1) ≤ szD x + 2 + szs xs
    omega
theorem szs_mem : ∀ {xs : Ds} {x : D}, x ∈ xs → szD x + 2 ≤ szs xs
  | y :: xs, x, h => by
    show szD x + 2 ≤ szD y + 2 + szs xs
    rcases List.mem_cons.mp h with rfl | h
    · omega
    · have := szs_mem h; omega
theorem dps_iff {k : Nat} : ∀ {ds : Ds}, dps ds ≤ k ↔ ∀ d ∈ ds, dpD d ≤ k
  | [] => by simp [dps]
  | d :: ds => by
    show max (dpD d) (dps ds) ≤ k ↔ _
    have := dps_iff (k := k) (ds := ds)
    simp only [List.mem_cons, forall_eq_or_imp]
    rw [← this]
    omega
section
variable {m n k n' : Nat} {xs ys : Ds}
theorem As.take (h : As m n k xs) (i : Nat) : As m n k (xs.take i) := ⟨fun d hd => h.av d (List.mem_of_mem_take hd), by have := h.sz; have := szs_take (xs := xs) (n := i); omega, fun d hd => h.dp d (List.mem_of_mem_take hd)⟩
theorem As.drop (h : As m n k xs) (i : Nat) : As m n k (xs.drop i) := ⟨fun d hd => h.av d (List.mem_of_mem_drop hd), by have := h.sz; have := szs_take (xs := xs) (n := i); omega, fun d hd => h.dp d (List.mem_of_mem_drop hd)⟩
theorem As.app (h : As m n k xs) (t : As m n' k ys) : As m (n + n') k (xs ++ ys) := ⟨fun d hd => (List.mem_append.mp hd).elim (h.av d) (t.av d), by rw [szs_app]; have := h.sz; have := t.sz; omega, fun d hd => (List.mem_append.mp hd).elim (h.dp d) (t.dp d)⟩
theorem As.nil : As m n k [] := ⟨fun _ h => (by cases h), Nat.zero_le _, fun _ h => (by cases h)⟩
theorem As.cons {x : D} (h : An m n k x) (t : As m n' k xs) : As m (n + 2 + n') k (x :: xs) := ⟨fun d hd => (by
  rcases List.mem_cons.mp hd with rfl | hd
  · exact h.av
  · exact t.av d hd), (by
  show szD x + 2 + szs xs ≤ _
  have := h.sz; have := t.sz; omega), fun d hd => (by
  rcases List.mem_cons.mp hd with rfl | hd
  · exact h.dp
  · exact t.dp d hd)⟩
theorem As.one {x : D} (h : An m n k x) : As m (n + 2) k [x] := As.cons h (As.nil (n := 0))
theorem As.mono {m' k' : Nat} (h : As m n k xs) (h1 : m ≤ m' := by omega) (h2 : n ≤ n' := by omega) (h3 : k ≤ k' := by omega) : As m' n' k' xs := ⟨fun d hd => av_le h1 d (h.av d hd), Nat.le_trans h.sz h2, fun d hd => Nat.le_trans (h.dp d hd) h3⟩
theorem As.get {x : D} (h : As m n k xs) (hx : x ∈ xs) : An m n k x := ⟨h.av x hx, by have := szs_mem hx; have := h.sz; omega, h.dp x hx⟩
theorem As.tup (h : As m n k xs) : An m (n + 3) (k + 1) (.tup xs) := ⟨avs_iff.mpr h.av, Nat.add_le_add_right h.sz 3, Nat.succ_le_succ (dps_iff.mpr h.dp)⟩
theorem As.lst (h : As m n k xs) : An m (n + 3) (k + 1) (.lst xs) := ⟨avs_iff.mpr h.av, Nat.add_le_add_right h.sz 3, Nat.succ_le_succ (dps_iff.mpr h.dp)⟩
theorem An.tupS (h : An m n (k + 1) (.tup xs)) : As m (n - 3) k xs := ⟨avs_iff.mp h.av, by have : szs xs + 3 ≤ n := h.sz; omega, dps_iff.mp (Nat.le_of_succ_le_succ (show dps xs + 1 ≤ k + 1 from h.dp))⟩
theorem An.lstS (h : An m n (k + 1) (.lst xs)) : As m (n - 3) k xs := ⟨avs_iff.mp h.av, by have : szs xs + 3 ≤ n := h.sz; omega, dps_iff.mp (Nat.le_of_succ_le_succ (show dps xs + 1 ≤ k + 1 from h.dp))⟩
theorem As.rev (h : As m n k xs) : As m n k xs.reverse := ⟨fun d hd => h.av d (List.mem_reverse.mp hd), by
  have e : szs xs.reverse = szs xs := by
    clear h
    induction xs with
    | nil => rfl
    | cons x xs ih =>
      rw [List.reverse_cons, szs_app, ih]
      show szs xs + (szD x + 2 + 0) = szD x + 2 + szs xs
      omega
  rw [e]; exact h.sz, fun d hd => h.dp d (List.mem_reverse.mp hd)⟩
theorem As.len (h : As m n k xs) : xs.length ≤ n := by have := szs_len (xs := xs); have := h.sz; omega
end
/-! ### any value -/
def aS : Nat → Nat
  | 0 => 500
  | d + 1 => 3 * (aS d + 2) + 500
theorem aS_0 : aS 0 = 500 := rfl
theorem aS_1 : aS 1 = 2006 := rfl
theorem aS_2 : aS 2 = 6524 := rfl
theorem aS_ge : ∀ d, 500 ≤ aS d
  | 0 => Nat.le_refl _
  | d + 1 => by unfold aS; omega
theorem pow39 : dBin .Pow (.int 10) (.int 39) = some (.int (10 ^ 39)) := by kernel_rfl
theorem pow20 : dBin .Pow (.int 10) (.int 20) = some (.int (10 ^ 20)) := by kernel_rfl
theorem merge_any {d : D} : mergeD [] [(.str "round", d), (.int 1, .non)] = some [(.str "round", d), (.int 1, .non)] := by kernel_rfl
section
variable {T : CT} {fd : Str}
theorem All2.all_right {α β : Type} {p : β → Prop} : ∀ {xs : List α} {ys : List β}, All2 (fun _ y => p y) xs ys → ∀ y ∈ ys, p y
  | _, _, .nil => fun _ h => by cases h
  | _, _, .cons q t => fun y hy => by
    rcases List.mem_cons.mp hy with rfl | hy
    · exact q
    · exact t.all_right y hy
theorem as_of {m n k : Nat} : ∀ {ys : Ds}, (∀ y ∈ ys, An m n k y) → As m (ys.length * (n + 2)) k ys
  | [], _ => As.nil
  | y :: ys, h => by
    have := As.cons (h y (.head _)) (as_of fun z hz => h z (.tail _ hz))
    exact this.mono (Nat.le_refl _) (by rw [List.length_cons, Nat.succ_mul]; omega) (Nat.le_refl _)
def anyG (C : Tab) : Env → M D := mIf (mCmpB .Gt (mPeek 1) (mC (.int (0)))) (fun ρ => (mLc (mRngI1 (mCallD (lenG 2 (C "_law_draw")) (mCons (mVar 0) (mCons (mC (.int (4))) mNil)))) (gN 4) mYes (mCallD (lenG 2 (C "_law_any")) (mCons (mVar 0) (mCons (mBin .Sub (mPeek 1) (mC (.int (1)))) mNil))) [4]) ρ >>= fun ds => pure (.lst ds)) (fun ρ => (mLst mNil) ρ >>= fun ds => pure (.lst ds))
def anyL : Nat → Nat
  | 0 => 0
  | d + 1 => 3 * (aS d + 2)
theorem any_end (h : I__law_any T) (Dr : Drw T fd) (deep : Nat) {k : Nat} (hk : deep + 3 ≤ k + 3) (some_ev : ∀ (s : DS) (a : Option Sl), Wf fd s → W (anyG (callD T (k + 3)) [some (.val .deck), some (.val (.int (deep : Int))), a, none, none] s) fun d s' => (∃ ys, d = .lst ys ∧ As 0 (anyL deep) deep ys ∧ ys.length < 4) ∧ Wf fd s') {s : DS} (hs : Wf fd s) :
    W (callD T (k + 4) "_law_any" [.deck, .int (deep : Int)] s) fun d s' => An 0 (aS deep) (deep + 1) d ∧ Wf fd s' := by
  obtain ⟨h1, h2⟩ := h
  rw [callD_has h1 rfl]
  unfold F__law_any
  have e0 := fun C : Tab => show (mIf (mCmpB .Gt (mPeek 1) (mC (.int (0)))) (fun ρ => (mLc (mRngI1 (mCallD (lenG 2 (C "_law_draw")) (mCons (mVar 0) (mCons (mC (.int (4))) mNil)))) (gN 4) mYes (mCallD (lenG 2 (C "_law_any")) (mCons (mVar 0) (mCons (mBin .Sub (mPeek 1) (mC (.int (1)))) mNil))) [4]) ρ >>= fun ds => pure (.lst ds)) (fun ρ => (mLst mNil) ρ >>= fun ds => pure (.lst ds)) : Env → M D) = anyG C from rfl
  simp only [e0]
  have g5 := aS_ge deep
  simp [W_bind]
  refine W_imp (Dr.go (k + 2) s 9 hs (by omega) (by omega)) ?_
  rintro d s' ⟨⟨r, hr, rfl⟩, hs'⟩
  have c : r < 2 ∨ r = 2 ∨ r = 3 ∨ (3 < r) := by omega
  rcases c with c | rfl | rfl | c
  · have e : ((r:Int) < 2) = True := eq_true (by omega)
    simp [e, pow39, pow20, W_bind]
    refine W_imp (ev_pick (k := k + 1) h2 Dr hs' (by simp) (by simp)) ?_
    rintro d s2 ⟨hd, hs2⟩
    simp [hs2]
    exact (an_all (m := 0) (n := 500) (k := 1) (by decide +kernel) d hd).mono
  · simp [W_bind]
    refine W_imp (ev_pick (k := k + 1) h2 Dr hs' (by simp) (by simp)) ?_
    rintro d s2 ⟨hd, hs2⟩
    simp [hs2]
    exact (an_all (m := 0) (n := 500) (k := 1) (by decide +kernel) d hd).mono
  · simp [W_bind]
    refine W_imp (ev_pick (k := k + 1) h2 Dr hs' (by simp) (by simp)) ?_
    rintro d s2 ⟨hd, hs2⟩
    simp [hs2]
    exact (an_all (m := 0) (n := 500) (k := 1) (by decide +kernel) d hd).mono
  · have e1 : ((r:Int) < 2) = False := eq_false (by omega)
    have e2 : ((r:Int) = 2) = False := eq_false (by omega)
    have e3 : ((r:Int) = 3) = False := eq_false (by omega)
    simp [e1, e2, e3, W_bind]
    refine W_imp (some_ev s' _ hs') ?_
    rintro d s2 ⟨⟨ys, rfl, ha, hl⟩, hs2⟩
    have hly : Lm ys.length := Lm.of (by omega)
    have c4 : r = 4 ∨ r = 5 ∨ 5 < r := by omega
    have hb : As 0 (aS deep - 3) deep ys := by
      refine ha.mono (Nat.le_refl _) ?_ (Nat.le_refl _)
      cases deep with
      | zero => show 0 ≤ _; omega
      | succ d => show 3 * (aS d + 2) ≤ 3 * (aS d + 2) + 500 - 3; omega
    rcases c4 with rfl | rfl | c4
    · simp [hs2]
      exact hb.lst.mono (Nat.le_refl _) (by omega) (Nat.le_refl _)
    · simp [hs2, merge_any]
      refine ⟨?_, ?_, ?_⟩
      · show (avkv 0 [(.str "round", .int (ys.length : Int)), (.int 1, .non)]) = true
        show ((avD 0 (.str "round") && avD 0 (.int (ys.length : Int))) && true) = true
        rw [show avD 0 (.str "round") = true by decide +kernel]
        show ((true && decide ((ys.length : Int).natAbs ≤ 2 ^ 140 + 0)) && true) = true
        rw [decide_eq_true (show ((ys.length : Int).natAbs ≤ 2 ^ 140 + 0) from by
          have : (4 : Nat) ≤ 2 ^ 140 := by decide
          omega)]
        rfl
      · show szkv [(.str "round", .int (ys.length : Int)), (.int 1, .non)] + 3 ≤ _
        show (10 * (Str.length "round") + 2 + 202 + 4 + (202 + 4 + 4 + 0)) + 3 ≤ _
        have : Str.length "round" = 5 := rfl
        omega
      · show (max (max (dpD (.str "round")) (dpD (.int (ys.length : Int)))) (max (max (dpD (.int 1)) (dpD .non)) 0)) + 1 ≤ _
        show (max (max 0 0) (max (max 0 0) 0)) + 1 ≤ _
        omega
    · have e4 : ((r:Int) = 4) = False := eq_false (by omega)
      have e5 : ((r:Int) = 5) = False := eq_false (by omega)
      simp [e4, e5, hs2]
      exact hb.tup.mono (Nat.le_refl _) (by omega) (Nat.le_refl _)
theorem ev_any (h : I__law_any T) (Dr : Drw T fd) : ∀ (deep : Nat) {m : Nat} {s : DS}, Wf fd s → deep + 4 ≤ m → W (callD T m "_law_any" [.deck, .int (deep : Int)] s) fun d s' => An 0 (aS deep) (deep + 1) d ∧ Wf fd s' := by
  intro deep
  induction deep with
  | zero =>
    intro m s hs hm
    obtain ⟨k, rfl⟩ : ∃ k, m = k + 4 := ⟨m - 4, by omega⟩
    refine any_end h Dr 0 (by omega) (fun s a hs => ?_) hs
    simp [anyG, hs]
    exact As.nil
  | succ deep ih =>
    intro m s hs hm
    obtain ⟨k, rfl⟩ : ∃ k, m = k + 4 := ⟨m - 4, by omega⟩
    refine any_end h Dr (deep + 1) (by omega) (fun s a hs => ?_) hs
    have e0 : ((0 : Int) < (deep : Int) + 1) = True := eq_true (by omega)
    simp [anyG, e0, W_bind]
    refine W_imp (Dr.go (k + 2) s 4 hs (by omega) (by omega)) ?_
    rintro d s' ⟨⟨r, hr, rfl⟩, hs'⟩
    have hl : Lm r := Lm.of (by omega)
    simp [hl, W_bind]
    refine W_imp (lcF_W (J := Wf fd) (Q := fun (_ : Nat) y => An 0 (aS deep) (deep + 1) y) (fun i hi s hs => ?_) hs') ?_
    · have e1 : (deep : Int) + 1 - 1 = (deep : Int) := by omega
      simp [e1, W_bind]
      refine W_imp (ih hs (by omega)) ?_
      rintro d s2 ⟨hd, hs2⟩
      simp [hs2]
      exact hd
    · rintro ys s2 ⟨hs2, ha⟩
      have hly : ys.length = r := by rw [ha.len]; simp
      simp [hs2]
      refine ⟨(as_of ha.all_right).mono (Nat.le_refl _) ?_ (Nat.le_refl _), by omega⟩
      rw [hly]
      exact Nat.mul_le_mul_right _ (by omega)
end
/-! ### cuts at drawn places -/
theorem sl_to_t' {xs : Ds} {b : Nat} : dSl (.tup xs) none (some (b : Int)) = some (.tup (xs.take b)) := sl_to_t
theorem sl_from1_t {xs : Ds} {a : Nat} : dSl (.tup xs) (some ((a : Int) + 1)) none = some (.tup (xs.drop (a + 1))) := sl_from_t (a := a + 1)
theorem sl_at_t {xs : Ds} {a : Nat} : dSl (.tup xs) (some (a : Int)) (some ((a : Int) + 1)) = some (.tup ((xs.drop a).take 1)) := by
  have := sl_mid_t (xs := xs) (a := a) (b := a + 1)
  rw [Nat.add_sub_cancel_left] at this
  exact this
theorem sl_mid1_t {xs : Ds} {a b : Nat} : dSl (.tup xs) (some ((a : Int) + 1)) (some (b : Int)) = some (.tup ((xs.drop (a + 1)).take (b - (a + 1)))) := sl_mid_t (a := a + 1)
@[simp] theorem back_t {xs : Ds} : dBack (.tup xs) = some (.tup xs.reverse) := (rfl)
@[simp] theorem back_l {xs : Ds} : dBack (.lst xs) = some (.lst xs.reverse) := (rfl)
theorem minN {a b : Nat} : bMin [.int (a : Int), .int (b : Int)] = some (.int ((min a b : Nat) : Int)) := by
  show some (D.int (if (b : Int) < (a : Int) then (b : Int) else (a : Int))) = _
  congr 2
  omega
theorem maxN {a b : Nat} : bMax [.int (a : Int), .int (b : Int)] = some (.int ((max a b : Nat) : Int)) := by
  show some (D.int (if (b : Int) > (a : Int) then (b : Int) else (a : Int))) = _
  congr 2
  omega
section
variable {T : CT} {fd : Str}
theorem As.of_mem {m n k n' : Nat} {xs ys : Ds} (h : As m n k xs) (hm : ∀ d ∈ ys, d ∈ xs) (hs : szs ys ≤ n') : As m n' k ys := ⟨fun d hd => h.av d (hm d hd), hs, fun d hd => h.dp d (hm d hd)⟩
theorem ev_mixed (h : I__law_mixed_tuple T) (Dr : Drw T fd) {j n k : Nat} (hn : n ≤ 1000000) {xs : Ds} (ha : As j n k xs) {m : Nat} {s : DS} (hs : Wf fd s) (hm : 6 ≤ m) :
    W (callD T m "_law_mixed_tuple" [.deck, .tup xs] s) fun d s' => An j (2 * n + 510) (k + 2) d ∧ Wf fd s' := by
  obtain ⟨c, rfl⟩ : ∃ c, m = c + 6 := ⟨m - 6, by omega⟩
  obtain ⟨h1, h2⟩ := h
  rw [callD_has h1 rfl]
  have hl := ha.len
  have hl2 := szs_len (xs := xs)
  have hsz := ha.sz
  unfold F__law_mixed_tuple
  simp [W_bind]
  refine W_imp (Dr.go (c + 4) s 8 hs (by omega) (by omega)) ?_
  rintro d s1 ⟨⟨w, hw, rfl⟩, hs1⟩
  simp [W_bind]
  refine W_imp (Dr.go (c + 4) s1 (xs.length + 1) hs1 (by omega) (by omega)) ?_
  rintro d s2 ⟨⟨a, ha', rfl⟩, hs2⟩
  refine W_imp (Dr.go (c + 4) s2 (xs.length + 1) hs2 (by omega) (by omega)) ?_
  rintro d s3 ⟨⟨b, hb', rfl⟩, hs3⟩
  have hlo : min a b ≤ max a b := by omega
  have hhi : max a b ≤ xs.length := by omega
  generalize hgl : min a b = lo at *
  generalize hgh : max a b = hi at *
  simp [minN, maxN, hgl, hgh]
  have c0 : w = 0 ∨ w = 1 ∨ w = 2 ∨ w = 3 ∨ w = 4 ∨ w = 5 ∨ w = 6 ∨ w = 7 := by omega
  rcases c0 with rfl | rfl | rfl | rfl | rfl | rfl | rfl | rfl
  · simp [hs3]
    exact ha.lst.mono
  · have e := cat_t (xs := xs.take a) (ys := xs.drop (a + 1)) (by simp; have : lim = 16777216 := rfl; omega)
    simp [hs3, sl_to_t', sl_from1_t, e]
    exact ((ha.take a).app (ha.drop (a + 1))).tup.mono
  · have e1 := cat_t (xs := xs.take a) (ys := (xs.drop a).take 1) (by simp; have : lim = 16777216 := rfl; omega)
    have e2 := cat_t (xs := xs.take a ++ (xs.drop a).take 1) (ys := xs.drop a) (by simp; have : lim = 16777216 := rfl; omega)
    simp [hs3, sl_to_t', sl_at_t, sl_from_t, e1, e2]
    have h5 : As j (2 * n) k (xs.take a ++ (xs.drop a).take 1 ++ xs.drop a) := ha.of_mem (fun d hd => by
      simp only [List.mem_append] at hd
      rcases hd with (hd | hd) | hd
      · exact List.mem_of_mem_take hd
      · exact List.mem_of_mem_drop (List.mem_of_mem_take hd)
      · exact List.mem_of_mem_drop hd) (by
      rw [szs_app, szs_app]
      have z1 := szs_take (xs := xs) (n := a)
      have z2 := szs_take (xs := xs.drop a) (n := 1)
      omega)
    have := h5.tup.mono (m' := j) (n' := 2 * n + 510) (k' := k + 2)
    simpa using this
  · have l1 : lim = 16777216 := rfl
    have e1 := cat_t (xs := xs.take lo) (ys := (xs.drop hi).take 1) (by simp; omega)
    have e2 := cat_t (xs := xs.take lo ++ (xs.drop hi).take 1) (ys := (xs.drop (lo + 1)).take (hi - (lo + 1))) (by simp; omega)
    have e3 := cat_t (xs := xs.take lo ++ (xs.drop hi).take 1 ++ (xs.drop (lo + 1)).take (hi - (lo + 1))) (ys := (xs.drop lo).take 1) (by simp; omega)
    have e4 := cat_t (xs := xs.take lo ++ (xs.drop hi).take 1 ++ (xs.drop (lo + 1)).take (hi - (lo + 1)) ++ (xs.drop lo).take 1) (ys := xs.drop (hi + 1)) (by simp; omega)
    simp only [List.append_assoc] at e1 e2 e3 e4
    simp [hs3, sl_to_t', sl_at_t, sl_from1_t, sl_mid1_t, e1, e2, e3, e4]
    have h5 : As j (2 * n) k (xs.take lo ++ (xs.drop hi).take 1 ++ (xs.drop (lo + 1)).take (hi - (lo + 1)) ++ (xs.drop lo).take 1 ++ xs.drop (hi + 1)) := ha.of_mem (fun d hd => by
      simp only [List.mem_append] at hd
      rcases hd with (((hd | hd) | hd) | hd) | hd
      · exact List.mem_of_mem_take hd
      · exact List.mem_of_mem_drop (List.mem_of_mem_take hd)
      · exact List.mem_of_mem_drop (List.mem_of_mem_take hd)
      · exact List.mem_of_mem_drop (List.mem_of_mem_take hd)
      · exact List.mem_of_mem_drop hd) (by
      rw [szs_app, szs_app, szs_app, szs_app]
      have z1 := szs_take (xs := xs) (n := lo)
      have z2 := szs_take (xs := xs.drop lo) (n := 1)
      have z3 := szs_take (xs := xs.drop (lo + 1)) (n := hi - (lo + 1))
      have z4 := szs_take (xs := xs.drop hi) (n := 1)
      rw [List.drop_drop] at z2 z3 z4
      by_cases c : lo < hi
      · rw [show lo + 1 + (hi - (lo + 1)) = hi by omega] at z3
        omega
      · have e : lo = hi := by omega
        subst e
        rw [show lo - (lo + 1) = 0 by omega] at z3 ⊢
        have z5 : szs ([] : Ds) = 0 := rfl
        rw [List.take_zero] at z3 ⊢
        omega)
    have := h5.tup.mono (m' := j) (n' := 2 * n + 510) (k' := k + 2)
    simpa using this
  · simp [W_bind, sl_to_t']
    refine W_imp (ev_any h2 Dr 0 (m := c + 5) hs3 (by omega)) ?_
    rintro d s4 ⟨hd, hs4⟩
    have e1 := cat_t (xs := xs.take a) (ys := [d]) (by simp; have : lim = 16777216 := rfl; omega)
    have e2 := cat_t (xs := xs.take a ++ [d]) (ys := xs.drop a) (by simp; have : lim = 16777216 := rfl; omega)
    simp only [List.append_assoc] at e1 e2
    simp [hs4, sl_to_t', sl_from_t, e1, e2]
    have h5 : As j (2 * n + 502) (k + 1) (xs.take a ++ [d] ++ xs.drop a) := ⟨fun x hx => (by
      simp only [List.mem_append, List.mem_singleton] at hx
      rcases hx with (hx | rfl) | hx
      · exact ha.av x (List.mem_of_mem_take hx)
      · exact av_le (Nat.zero_le _) _ hd.av
      · exact ha.av x (List.mem_of_mem_drop hx)), (by
      rw [szs_app, szs_app]
      have z1 := szs_take (xs := xs) (n := a)
      have z2 : szD d ≤ 500 := hd.sz
      have z3 : szs [d] = szD d + 2 + 0 := rfl
      omega), fun x hx => (by
      simp only [List.mem_append, List.mem_singleton] at hx
      rcases hx with (hx | rfl) | hx
      · have := ha.dp x (List.mem_of_mem_take hx); omega
      · have : dpD x ≤ 1 := hd.dp
        omega
      · have := ha.dp x (List.mem_of_mem_drop hx); omega)⟩
    have := h5.tup.mono (m' := j) (n' := 2 * n + 510) (k' := k + 2)
    simpa using this
  · simp [hs3]
    have : An j (n + 3 + 2 + 3) (k + 1 + 1) (.tup [.tup xs]) := As.tup (As.one (As.tup ha))
    exact this.mono
  · simp [hs3]
    have : An j (n + 3) (k + 1) (.tup xs.reverse) := As.tup (As.rev ha)
    exact this.mono
  · simp [hs3, sl_mid_t]
    have : An j (n + 3) (k + 1) (.tup ((xs.drop lo).take (hi - lo))) := As.tup (As.take (As.drop ha lo) _)
    exact this.mono
end
/-! ### texts of plain signs -/
def asc (x : Str) : Bool := x.cps.toList.all fun c => decide (c < 128)
theorem upper_tab : ∀ c : Fin 128, ∃ d : Fin 128, Unicode.upperOf c.val = [d.val] := by decide +kernel
theorem mapIdx_const {α β : Type} (g : α → β) : ∀ (l : List α), l.mapIdx (fun _ c => g c) = l.map g
  | [] => rfl
  | x :: l => by rw [List.mapIdx_cons, mapIdx_const g l]; rfl
theorem upper_list (x : Str) : (Txt.upper x).cps.toList = (x.cps.toList.map Unicode.upperOf).flatten := by
  show (placed x fun _ c => Unicode.upperOf c).toList = _
  unfold placed
  rw [Array.toList_flatten, Array.toList_mapIdx, mapIdx_const, List.map_map]
  congr 1
theorem upper_flat : ∀ l : List Nat, (l.all fun c => decide (c < 128)) = true → ((l.map Unicode.upperOf).flatten.all fun c => decide (c < 128)) = true ∧ ((l.map Unicode.upperOf).flatten).length = l.length
  | [], _ => ⟨rfl, rfl⟩
  | c :: l, h => by
    rw [List.all_cons, Bool.and_eq_true, decide_eq_true_eq] at h
    obtain ⟨h1, h2⟩ := h
    obtain ⟨i1, i2⟩ := upper_flat l h2
    obtain ⟨d, hd⟩ := upper_tab ⟨c, h1⟩
    have hd : Unicode.upperOf c = [d.val] := hd
    rw [List.map_cons, List.flatten_cons, hd]
    refine ⟨?_, by simp [i2]⟩
    rw [List.singleton_append, List.all_cons, i1, decide_eq_true d.isLt]; rfl
theorem upper_asc {x : Str} (h : asc x = true) : asc (Txt.upper x) = true ∧ (Txt.upper x).length = x.length := by
  obtain ⟨a, b⟩ := upper_flat _ h
  unfold asc
  rw [upper_list]
  refine ⟨a, ?_⟩
  show (Txt.upper x).cps.size = x.cps.size
  rw [← Array.length_toList, upper_list, b, Array.length_toList]
theorem int_asc (i : Int) : asc (toString i) = true := by
  unfold asc
  rw [List.all_eq_true]
  intro c hc
  refine decide_eq_true ?_
  rcases Nat.lt_or_ge c 128 with h | h
  · exact h
  · exact absurd hc (PyProof.Rows.int_text_free' c ⟨by omega, .inr (by omega)⟩ i)
theorem app_asc {x y : Str} (h : asc x = true) (k : asc y = true) : asc (x ++ y) = true := by
  unfold asc at *
  have e : (x ++ y).cps.toList = x.cps.toList ++ y.cps.toList := by
    show (x.cps ++ y.cps).toList = _
    rw [Array.toList_append]
  rw [e, List.all_append, h, k]; rfl
theorem cut_asc {x : Str} (lo hi : Option Int) (h : asc x = true) : asc (cutS x lo hi) = true ∧ (cutS x lo hi).length ≤ x.length := by
  unfold asc at *
  constructor
  · show (((x.cps.toList.drop _).take _).toArray.toList.all _) = true
    rw [List.all_eq_true] at *
    intro c hc
    exact h c (List.mem_of_mem_drop (List.mem_of_mem_take hc))
  · show ((x.cps.toList.drop _).take _).toArray.size ≤ x.cps.size
    simp
    omega
theorem An.str {m n k : Nat} {x : Str} (h : asc x = true) (hl : 10 * x.length + 2 ≤ n) : An m n k (.str x) := ⟨h, hl, Nat.zero_le _⟩
theorem An.strS {m n k : Nat} {x : Str} (h : An m n k (.str x)) : asc x = true ∧ 10 * x.length + 2 ≤ n := ⟨h.av, h.sz⟩
theorem An.int {m n k : Nat} {i : Int} (h : i.natAbs ≤ 2 ^ 140 + m) (hl : 202 ≤ n) : An m n k (.int i) := ⟨decide_eq_true h, hl, Nat.zero_le _⟩
theorem An.intS {m n k : Nat} {i : Int} (h : An m n k (.int i)) : i.natAbs ≤ 2 ^ 140 + m := of_decide_eq_true h.av
theorem An.bl {m n k : Nat} {b : Bool} (hl : 5 ≤ n) : An m n k (.bl b) := ⟨rfl, hl, Nat.zero_le _⟩
theorem str_bool (b : Bool) : ∃ t, bStr [.bl b] = some (.str t) ∧ An 0 2100 0 (.str t) := by
  cases b
  · exact ⟨"False", rfl, An.of (by decide +kernel)⟩
  · exact ⟨"True", rfl, An.of (by decide +kernel)⟩
theorem str_int {i : Int} {m : Nat} (hm : m ≤ 1000) (h : i.natAbs ≤ 2 ^ 140 + m) : ∃ t, bStr [.int i] = some (.str t) ∧ An m 2100 0 (.str t) := by
  have h1 : i.natAbs < 2 ^ 200 := by
    have : (2 : Nat) ^ 140 + 1000 < 2 ^ 200 := by decide
    omega
  have h2 := log_ok h1
  refine ⟨toString i, if_pos (by omega), An.str (int_asc i) ?_⟩
  have := shown_le (.int i) (decide_eq_true h1)
  have e : (D.int i).py.shown = ((toString i : String) : Str) := PyData.shown_int i
  rw [e] at this
  have : szD (.int i) = 202 := rfl
  omega
/-! ### kinds -/
section
variable {b : Bool} {i : Int} {x : Str} {xs : Ds} {kvs : Dp2}
@[simp] theorem isa_tn : dIsa "tuple" .non = some false := (rfl)
@[simp] theorem isa_tb : dIsa "tuple" (.bl b) = some false := (rfl)
@[simp] theorem isa_ti : dIsa "tuple" (.int i) = some false := (rfl)
@[simp] theorem isa_ts : dIsa "tuple" (.str x) = some false := (rfl)
@[simp] theorem isa_tl : dIsa "tuple" (.lst xs) = some false := (rfl)
@[simp] theorem isa_td : dIsa "tuple" (.dic kvs) = some false := (rfl)
@[simp] theorem isa_in : dIsa "int" .non = some false := (rfl)
@[simp] theorem isa_ib : dIsa "int" (.bl b) = some true := (rfl)
@[simp] theorem isa_is : dIsa "int" (.str x) = some false := (rfl)
@[simp] theorem isa_it : dIsa "int" (.tup xs) = some false := (rfl)
@[simp] theorem isa_il : dIsa "int" (.lst xs) = some false := (rfl)
@[simp] theorem isa_id : dIsa "int" (.dic kvs) = some false := (rfl)
@[simp] theorem isa_bn : dIsa "bool" .non = some false := (rfl)
@[simp] theorem isa_bb : dIsa "bool" (.bl b) = some true := (rfl)
@[simp] theorem isa_bs : dIsa "bool" (.str x) = some false := (rfl)
@[simp] theorem isa_sn : dIsa "str" .non = some false := (rfl)
@[simp] theorem isa_sb : dIsa "str" (.bl b) = some false := (rfl)
@[simp] theorem isa_si : dIsa "str" (.int i) = some false := (rfl)
@[simp] theorem isa_ss : dIsa "str" (.str x) = some true := (rfl)
@[simp] theorem isa_st : dIsa "str" (.tup xs) = some false := (rfl)
@[simp] theorem isa_sl : dIsa "str" (.lst xs) = some false := (rfl)
@[simp] theorem isa_sd : dIsa "str" (.dic kvs) = some false := (rfl)
@[simp] theorem ne_nilT : dCmp .NotEq (.tup xs) (.tup []) = some (!xs.isEmpty) := (rfl)
@[simp] theorem eq_nilT : dCmp .Eq (.tup xs) (.tup []) = some xs.isEmpty := (rfl)
@[simp] theorem ne_nilL : dCmp .NotEq (.lst xs) (.lst []) = some (!xs.isEmpty) := (rfl)
@[simp] theorem eq_nilL : dCmp .Eq (.lst xs) (.lst []) = some xs.isEmpty := (rfl)
@[simp] theorem add_bi {j : Int} : dBin .Add (.bl b) (.int j) = some (.int (PyProof.Rows.b2i b + j)) := (rfl)
@[simp] theorem sub_bi {j : Int} : dBin .Sub (.bl b) (.int j) = some (.int (PyProof.Rows.b2i b - j)) := (rfl)
@[simp] theorem sub_ib {j : Int} : dBin .Sub (.int j) (.bl b) = some (.int (j - PyProof.Rows.b2i b)) := (rfl)
theorem str_bl : bStr [.bl b] = some (.str (if b then "True" else "False")) := (rfl)
theorem eq_b1 : dCmp .Eq (.bl b) (.int 1) = some b := by cases b <;> kernel_rfl
end
def bentT (C : Tab) : MS := (mSeq (mAsg (mCallD (lenG 2 (C "_law_draw")) (mCons (mVar 0) (mCons (mC (.int (5))) mNil))) (gN 3))
    (mSeq (mIf (mAndB (mTru (mBl (mIsa "int" (mPeek 1)))) (mCmpB .Gt (mPeek 3) (mC (.int (0))))) (mSeq (mAsg (fun ρ => (mLst (mCons (mBin .Add (mPeek 1) (mC (.int (1)))) (mCons (mBin .Sub (mPeek 1) (mC (.int (1)))) (mCons (mBl (mCmpB .Eq (mPeek 1) (mC (.int (1))))) (mCons (mBin .Sub (mC (.int (1))) (mPeek 1)) mNil))))) ρ >>= fun ds => pure (.lst ds)) (gN 4))
    (mRet (mCallD (lenG 2 (C "_law_pick")) (mCons (mVar 0) (mCons (mBin .Add (mPeek 4) (fun ρ => (mLst (mCons (mCall bStr (mCons (mPeek 1) mNil)) (mCons (mTup (mCons (mVar 1) mNil)) (mCons (mC (.int (0))) (mCons (mC (.int (1))) (mCons (mC (.int (2))) mNil)))))) ρ >>= fun ds => pure (.lst ds))) mNil))))) mNext)
    (mSeq (mIf (mAndB (mTru (mBl (mIsa "str" (mPeek 1)))) (mCmpB .Gt (mPeek 3) (mC (.int (0))))) (mRet (mCallD (lenG 2 (C "_law_pick")) (mCons (mVar 0) (mCons (fun ρ => (mLst (mCons (mC (.str "round")) (mCons (mC (.str "against")) (mCons (mUp (mPeek 1)) (mCons (mBin .Add (mPeek 1) (mC (.str "s"))) (mCons (mSl (mPeek 1) mNoP (mP (mNeg (mC (.int (1)))))) (mCons (mTup (mCons (mVar 1) mNil)) mNil))))))) ρ >>= fun ds => pure (.lst ds)) mNil)))) mNext)
    (mSeq (mIf (mAndB (mTru (mBl (mIsa "tuple" (mPeek 1)))) (mCmpB .Gt (mPeek 3) (mC (.int (0))))) (mRet (mCallD (lenG 2 (C "_law_mixed_tuple")) (mCons (mVar 0) (mCons (mVar 1) mNil)))) mNext)
    (mRet (mCallD (lenG 2 (C "_law_any")) (mCons (mVar 0) (mCons (mC (.int (1))) mNil))))))))
section
variable {T : CT} {fd : Str}
@[simp] theorem upper_s {x : Str} (h : x.length ≤ 5592405) : dUpper (.str x) = some (.str (Txt.upper x)) := if_pos h
theorem cat_s {x y : Str} (h : x.length + y.length ≤ lim) : dBin .Add (.str x) (.str y) = some (.str (x ++ y)) := if_pos h
theorem sl_s {x : Str} {lo hi : Option Int} (h : x.length ≤ lim) : dSl (.str x) lo hi = some (.str (cutS x lo hi)) := if_pos h
theorem b2i_abs {b : Bool} : (PyProof.Rows.b2i b) = 0 ∨ (PyProof.Rows.b2i b) = 1 := by cases b <;> simp [PyProof.Rows.b2i]
theorem bent_tail (h2 : I__law_any T) (h3 : I__law_mixed_tuple T) (h4 : I__law_pick T) (Dr : Drw T fd) {j n k : Nat} (hj : j ≤ 900) (hn : n ≤ 1000000) {d : D} (ha : An j n k d) {m : Nat} {a b : Option Sl} {s : DS} (hs : Wf fd s) (hm : 6 ≤ m) :
    W (bentT (callD T m) [some (.val .deck), some (.val d), a, b, none] s) fun o s' => ∃ d', o = O.rt d' ∧ An (j + 1) (2 * n + 2200) (k + 3) d' ∧ Wf fd s' := by
  obtain ⟨c, rfl⟩ : ∃ c, m = c + 6 := ⟨m - 6, by omega⟩
  have l0 : lim = 16777216 := rfl
  unfold bentT
  simp [W_bind]
  refine W_imp (Dr.go (c + 5) s 5 hs (by omega) (by omega)) ?_
  rintro x s1 ⟨⟨w, hw, rfl⟩, hs1⟩
  have any1 : ∀ s, Wf fd s → W (callD T (c + 6) "_law_any" [.deck, .int 1] s) fun d' s' => An (j + 1) (2 * n + 2200) (k + 3) d' ∧ Wf fd s' := fun s hs => W_imp (ev_any h2 Dr 1 (m := c + 6) hs (by omega)) fun d' s' ⟨x, y⟩ => ⟨x.mono (Nat.zero_le _) (by rw [aS_1]; omega) (by omega), y⟩
  have last : ∀ s, Wf fd s → W (R.bind (callD T (c + 6) "_law_any" [.deck, .int 1] s) fun d s => R.ok (O.rt d) s) fun o s' => ∃ d', o = O.rt d' ∧ An (j + 1) (2 * n + 2200) (k + 3) d' ∧ Wf fd s' := fun s hs => by
    rw [W_bind]
    refine W_imp (any1 s hs) ?_
    rintro d' s' ⟨x, y⟩
    simp [x, y]
  have one : ∀ {m' : Nat}, m' ≤ j + 1 → An (j + 1) (2 * n + 2200) (k + 3) (.tup [d]) := fun _ => by
    have : An j (n + 2 + 3) (k + 1) (.tup [d]) := As.tup (As.one ha)
    exact this.mono
  have o0 : An (j + 1) (2 * n + 2200) (k + 3) (.int 0) := An.int (Nat.zero_le _) (by omega)
  have o1 : An (j + 1) (2 * n + 2200) (k + 3) (.int 1) := An.int (by show 1 ≤ _; omega) (by omega)
  have o2 : An (j + 1) (2 * n + 2200) (k + 3) (.int 2) := An.int (by show 2 ≤ 2 ^ 140 + (j + 1); have : 2 ≤ 2 ^ 140 := by decide
                                                                     omega) (by omega)
  by_cases cw : 0 < w
  · have e0 := cw
    cases d with
    | int i =>
      obtain ⟨tx, e1, e2⟩ := str_int (m := j) (by omega) ha.intS
      have hi := ha.intS
      have e3 : dBin .Add (.lst [.int (i + 1), .int (i - 1), .bl (decide (i = 1)), .int (1 - i)]) (.lst [.str tx, .tup [.int i], .int 0, .int 1, .int 2]) = some (.lst [.int (i + 1), .int (i - 1), .bl (decide (i = 1)), .int (1 - i), .str tx, .tup [.int i], .int 0, .int 1, .int 2]) := cat_l (by simp [l0])
      simp [e0, e1, e3, W_bind]
      refine W_imp (ev_pick (k := c + 4) h4 Dr hs1 (by simp) (by simp)) ?_
      rintro d' s2 ⟨hd, hs2⟩
      simp [hs2]
      simp only [List.mem_cons, List.not_mem_nil, or_false] at hd
      rcases hd with rfl | rfl | rfl | rfl | rfl | rfl | rfl | rfl | rfl
      · exact An.int (by omega) (by omega)
      · exact An.int (by omega) (by omega)
      · exact An.bl (by omega)
      · exact An.int (by omega) (by omega)
      · exact e2.mono
      · exact one (Nat.le_refl _)
      · exact o0
      · exact o1
      · exact o2
    | bl i =>
      have hb := b2i_abs (b := i)
      obtain ⟨tx, e1, e2⟩ := str_bool i
      have e3 : dBin .Add (.lst [.int (PyProof.Rows.b2i i + 1), .int (PyProof.Rows.b2i i - 1), .bl i, .int (1 - PyProof.Rows.b2i i)]) (.lst [.str tx, .tup [.bl i], .int 0, .int 1, .int 2]) = some (.lst [.int (PyProof.Rows.b2i i + 1), .int (PyProof.Rows.b2i i - 1), .bl i, .int (1 - PyProof.Rows.b2i i), .str tx, .tup [.bl i], .int 0, .int 1, .int 2]) := cat_l (by simp [l0])
      simp [e0, eq_b1, e1, e3, W_bind]
      refine W_imp (ev_pick (k := c + 4) h4 Dr hs1 (by simp) (by simp)) ?_
      rintro d' s2 ⟨hd, hs2⟩
      simp [hs2]
      have h2' : 2 ≤ 2 ^ 140 := by decide
      simp only [List.mem_cons, List.not_mem_nil, or_false] at hd
      rcases hd with rfl | rfl | rfl | rfl | rfl | rfl | rfl | rfl | rfl
      · exact An.int (by omega) (by omega)
      · exact An.int (by omega) (by omega)
      · exact An.bl (by omega)
      · exact An.int (by omega) (by omega)
      · exact e2.mono
      · exact one (Nat.le_refl _)
      · exact o0
      · exact o1
      · exact o2
    | str x =>
      obtain ⟨u1, u2⟩ := ha.strS
      obtain ⟨u3, u4⟩ := upper_asc u1
      obtain ⟨u5, u6⟩ := cut_asc none (some (-1)) u1
      have e1 := upper_s (x := x) (by omega)
      have e2 := cat_s (x := x) (y := "s") (by show x.length + 1 ≤ _; omega)
      have e3 := sl_s (x := x) (lo := none) (hi := some (-1)) (by omega)
      simp [e0, e1, e2, e3, W_bind]
      refine W_imp (ev_pick (k := c + 4) h4 Dr hs1 (by simp) (by simp)) ?_
      rintro d' s2 ⟨hd, hs2⟩
      simp [hs2]
      simp only [List.mem_cons, List.not_mem_nil, or_false] at hd
      rcases hd with rfl | rfl | rfl | rfl | rfl | rfl
      · exact An.str (by decide) (by show 10 * 5 + 2 ≤ _; omega)
      · exact An.str (by decide) (by show 10 * 7 + 2 ≤ _; omega)
      · exact An.str u3 (by omega)
      · exact An.str (app_asc u1 (by decide)) (by rw [strLen_append]; show 10 * (x.length + 1) + 2 ≤ _; omega)
      · exact An.str u5 (by omega)
      · exact one (Nat.le_refl _)
    | tup xs =>
      have hk : ∃ k', k = k' + 1 := by
        have : dps xs + 1 ≤ k := ha.dp
        exact ⟨k - 1, by omega⟩
      obtain ⟨k', rfl⟩ := hk
      simp [e0, W_bind]
      refine W_imp (ev_mixed h3 Dr (by omega) ha.tupS hs1 (m := c + 6) (by omega)) ?_
      rintro d' s2 ⟨hd, hs2⟩
      simp [hs2]
      exact hd.mono
    | non => simp [e0]; exact last s1 hs1
    | lst xs => simp [e0]; exact last s1 hs1
    | dic xs => simp [e0]; exact last s1 hs1
    | _ => exact absurd ha.av (by simp [avD])
  · have e0 : w = 0 := by omega
    subst e0
    cases d with
    | int i => simp; exact last s1 hs1
    | bl i => simp; exact last s1 hs1
    | str i => simp; exact last s1 hs1
    | tup i => simp; exact last s1 hs1
    | non => simp; exact last s1 hs1
    | lst xs => simp; exact last s1 hs1
    | dic xs => simp; exact last s1 hs1
    | _ => exact absurd ha.av (by simp [avD])
end
section
variable {T : CT} {fd : Str}
theorem bent_eq : F__law_bent_k00 = fun C => mSeq (mIf (mAndB (mTru (mBl (mIsa "tuple" (mPeek 1)))) (mAndB (mCmpB .NotEq (mPeek 1) (mTup mNil)) (mCmpB .Gt (mCallD (lenG 2 (C "_law_draw")) (mCons (mVar 0) (mCons (mC (.int (5))) mNil))) (mC (.int (0)))))) (mSeq (mAsg (mCallD (lenG 2 (C "_law_draw")) (mCons (mVar 0) (mCons (mCall bLen (mCons (mPeek 1) mNil)) mNil))) (gN 2))
    (mRet (mBin .Add (mBin .Add (mSl (mPeek 1) mNoP (mP (mPeek 2))) (mTup (mCons (mCallD (lenG 2 (C "_law_bent")) (mCons (mVar 0) (mCons (mIxM (mPeek 1) (mPeek 2)) mNil))) mNil))) (mSl (mPeek 1) (mP (mBin .Add (mPeek 2) (mC (.int (1))))) mNoP)))) mNext) (bentT C) := rfl
theorem fin_rt {P : D → DS → Prop} {r : R O} (h : W r fun o s' => ∃ d', o = O.rt d' ∧ P d' s') : W (R.bind r fun o s => finO o s) P := by
  rw [W_bind]
  refine W_imp h ?_
  rintro o s' ⟨d', rfl, p⟩
  simpa using p
theorem at_mem' {xs : Ds} {r : Nat} (h : r < xs.length) : ∃ x, L2.atI xs (r : Int) = some x ∧ xs[r]? = some x := by
  refine ⟨xs[r], ?_, by simp [h]⟩
  have := at_map (f := id) (xs := xs) (i := r) (x := xs[r]) (by simp [h])
  simpa using this
theorem take_at {xs : Ds} {r : Nat} {x : D} (h : xs[r]? = some x) : xs = xs.take r ++ x :: xs.drop (r + 1) := by
  have hr : r < xs.length := by
    by_cases c : r < xs.length
    · exact c
    · rw [List.getElem?_eq_none (by omega)] at h; cases h
  have e : xs[r] = x := by simpa [hr] using h
  rw [← e, List.getElem_cons_drop, List.take_append_drop]
theorem ev_bent (h : I__law_bent_k00 T) (Dr : Drw T fd) : ∀ (k : Nat) {j n : Nat} {d : D} {m : Nat} {s : DS}, j ≤ 900 → n ≤ 1000000 → An j n k d → Wf fd s → k + 8 ≤ m → W (callD T m "_law_bent" [.deck, d] s) fun d' s' => An (j + 1) (2 * n + 2200) (k + 3) d' ∧ Wf fd s' := by
  intro k
  induction k with
  | zero =>
    intro j n d m s hj hn ha hs hm
    obtain ⟨c, rfl⟩ : ∃ c, m = c + 1 := ⟨m - 1, by omega⟩
    obtain ⟨h1, h2, h3, h4⟩ := h
    rw [callD_has h1 rfl, bent_eq]
    have tl := fun a b s hs => fin_rt (bent_tail h2 h3 h4 Dr hj hn ha (m := c) (a := a) (b := b) (s := s) hs (by omega))
    cases d with
    | tup xs => exact absurd ha.dp (by show ¬ (dps xs + 1 ≤ 0); omega)
    | int i => simp; exact tl _ _ _ hs
    | bl i => simp; exact tl _ _ _ hs
    | str i => simp; exact tl _ _ _ hs
    | non => simp; exact tl _ _ _ hs
    | lst xs => simp; exact tl _ _ _ hs
    | dic xs => simp; exact tl _ _ _ hs
    | _ => exact absurd ha.av (by simp [avD])
  | succ k ih =>
    intro j n d m s hj hn ha hs hm
    obtain ⟨c, rfl⟩ : ∃ c, m = c + 2 := ⟨m - 2, by omega⟩
    have h0 := h
    obtain ⟨h1, h2, h3, h4⟩ := h
    rw [callD_has h1 rfl, bent_eq]
    have tl := fun a b s hs => fin_rt (bent_tail h2 h3 h4 Dr hj hn ha (m := c + 1) (a := a) (b := b) (s := s) hs (by omega))
    cases d with
    | tup xs =>
      have hx := ha.tupS
      have hl := hx.len
      cases hxe : xs.isEmpty with
      | true => simp [hxe]; exact tl _ _ _ hs
      | false =>
        have hp : 0 < xs.length := by cases xs with
          | nil => cases hxe
          | cons _ _ => simp
        simp [hxe, W_bind]
        refine W_imp (Dr.go c s 5 hs (by omega) (by omega)) ?_
        rintro d s1 ⟨⟨w, hw, rfl⟩, hs1⟩
        by_cases cw : 0 < w
        · simp [cw, W_bind]
          refine W_imp (Dr.go c s1 xs.length hs1 hp (by omega)) ?_
          rintro d s2 ⟨⟨r, hr, rfl⟩, hs2⟩
          obtain ⟨x, e1, e2⟩ := at_mem' hr
          have hm := List.mem_of_getElem? e2
          have hx1 : An j (szD x) k x := ⟨hx.av x hm, Nat.le_refl _, hx.dp x hm⟩
          have hz := szs_mem hm
          have hz2 := hx.sz
          simp [W_bind, sl_to_t', e1]
          refine W_imp (ih hj (by omega) hx1 hs2 (m := c + 1) (by omega)) ?_
          rintro d' s3 ⟨hd, hs3⟩
          have l0 : lim = 16777216 := rfl
          have c1 := cat_t (xs := xs.take r) (ys := [d']) (by simp; omega)
          have c2 := cat_t (xs := xs.take r ++ [d']) (ys := xs.drop (r + 1)) (by simp; omega)
          simp only [List.append_assoc, List.singleton_append] at c1 c2
          simp [hs3, sl_from1_t, c1, c2]
          have es : szs xs = szs (xs.take r) + (szD x + 2) + szs (xs.drop (r + 1)) := by
            have := congrArg szs (take_at e2)
            rw [szs_app] at this
            have e3 : szs (x :: xs.drop (r + 1)) = szD x + 2 + szs (xs.drop (r + 1)) := rfl
            omega
          have hd2 := hd.sz
          have : As (j + 1) (2 * n + 2197) (k + 3) (xs.take r ++ d' :: xs.drop (r + 1)) := ⟨fun y hy => (by
            simp only [List.mem_append, List.mem_cons] at hy
            rcases hy with hy | rfl | hy
            · exact av_le (by omega) _ (hx.av y (List.mem_of_mem_take hy))
            · exact hd.av
            · exact av_le (by omega) _ (hx.av y (List.mem_of_mem_drop hy))), (by
            rw [szs_app]
            have e3 : szs (d' :: xs.drop (r + 1)) = szD d' + 2 + szs (xs.drop (r + 1)) := rfl
            omega), fun y hy => (by
            simp only [List.mem_append, List.mem_cons] at hy
            rcases hy with hy | rfl | hy
            · have := hx.dp y (List.mem_of_mem_take hy); omega
            · exact hd.dp
            · have := hx.dp y (List.mem_of_mem_drop hy); omega)⟩
          exact this.tup
        · simp [cw]
          have := tl none none s1 hs1
          rw [W_bind] at this
          exact this
    | int i => simp; exact tl _ _ _ hs
    | bl i => simp; exact tl _ _ _ hs
    | str i => simp; exact tl _ _ _ hs
    | non => simp; exact tl _ _ _ hs
    | lst xs => simp; exact tl _ _ _ hs
    | dic xs => simp; exact tl _ _ _ hs
    | _ => exact absurd ha.av (by simp [avD])
end
section
variable {T : CT} {fd : Str}
theorem loop_nil {g : Tg} {b : MS} {ρ : Env} {s : DS} : mLoop g b [] ρ s = .ok (.nx ρ) s := rfl
theorem ev_often (h : I__law_often_bent T) (Dr : Drw T fd) {k n : Nat} {d : D} {m : Nat} {s : DS} (hn : n ≤ 400000) (ha : An 0 n k d) (hs : Wf fd s) (hm : k + 13 ≤ m) : W (callD T m "_law_often_bent" [.deck, d] s) fun d' s' => An 2 (4 * n + 6600) (k + 6) d' ∧ Wf fd s' := by
  obtain ⟨c, rfl⟩ : ∃ c, m = c + 8 := ⟨m - 8, by omega⟩
  obtain ⟨h1, h2, h3, h4⟩ := h
  rw [callD_has h1 rfl]
  unfold F__law_often_bent
  simp [W_bind]
  refine W_imp (Dr.go (c + 6) s 12 hs (by omega) (by omega)) ?_
  rintro x s1 ⟨⟨w, hw, rfl⟩, hs1⟩
  by_cases cw : w = 0
  · subst cw
    simp [W_bind]
    refine W_imp (ev_any h2 Dr 2 (m := c + 7) hs1 (by omega)) ?_
    rintro d' s2 ⟨hd, hs2⟩
    simp [hs2]
    exact hd.mono (by omega) (by rw [aS_2]; omega) (by omega)
  · simp [cw, W_bind]
    refine W_imp (ev_pick (k := c + 5) h4 Dr hs1 (by simp) (by simp)) ?_
    rintro d' s2 ⟨hd, hs2⟩
    have hd : d' = .int 0 ∨ d' = .int 1 ∨ d' = .int 2 := by
      simp only [List.mem_cons, List.not_mem_nil, or_false] at hd
      rcases hd with h | h | h | h | h <;> simp [h]
    have b1 := fun s hs => ev_bent h3 Dr k (j := 0) (n := n) (d := d) (m := c + 7) (s := s) (by omega) (by omega) ha hs (by omega)
    have r0 : dRng1 (.int 0) = some [] := rfl
    have r1 : dRng1 (.int 1) = some [.int 0] := rfl
    have r2 : dRng1 (.int 2) = some [.int 0, .int 1] := rfl
    rcases hd with rfl | rfl | rfl
    · simp [r0, loop_nil, hs2]
      exact ha.mono
    · simp [r1, loop_nil, loop_cons, W_bind]
      refine W_imp (b1 s2 hs2) ?_
      rintro d1 s3 ⟨hd, hs3⟩
      simp [lpO, loop_nil, hs3]
      exact hd.mono
    · simp [r2, loop_nil, loop_cons, W_bind]
      refine W_imp (b1 s2 hs2) ?_
      rintro d1 s3 ⟨hd, hs3⟩
      simp [lpO, loop_nil, loop_cons, W_bind]
      refine W_imp (ev_bent h3 Dr (k + 3) (j := 0 + 1) (n := 2 * n + 2200) (d := d1) (m := c + 7) (by omega) (by omega) hd hs3 (by omega)) ?_
      rintro d2 s4 ⟨hd2, hs4⟩
      simp [loop_nil, hs4]
      exact hd2.mono
mutual
/-- True in the place of 1, False in the place of 0 -/
def truD : D → D
  | .tup xs => .tup (truS xs)
  | .int i => if i = 0 ∨ i = 1 then .bl (decide (i = 1)) else .int i
  | d => d
def truS : Ds → Ds
  | [] => []
  | d :: ds => truD d :: truS ds
end
theorem truS_map : ∀ {ds : Ds}, truS ds = ds.map truD
  | [] => rfl
  | d :: ds => by rw [List.map_cons, ← truS_map]; rfl
mutual
theorem tru_av {j : Nat} : ∀ d : D, avD j d = true → avD j (truD d) = true ∧ szD (truD d) ≤ szD d ∧ dpD (truD d) ≤ dpD d
  | .non, h => ⟨h, Nat.le_refl _, Nat.le_refl _⟩
  | .bl _, h => ⟨h, Nat.le_refl _, Nat.le_refl _⟩
  | .int i, h => by
    unfold truD
    split
    · exact ⟨rfl, by show 5 ≤ 202; omega, Nat.le_refl _⟩
    · exact ⟨h, Nat.le_refl _, Nat.le_refl _⟩
  | .str _, h => ⟨h, Nat.le_refl _, Nat.le_refl _⟩
  | .tup xs, h => by
    obtain ⟨a, b, c⟩ := truS_av xs h
    exact ⟨a, Nat.add_le_add_right b 3, Nat.succ_le_succ c⟩
  | .lst _, h => ⟨h, Nat.le_refl _, Nat.le_refl _⟩
  | .dic _, h => ⟨h, Nat.le_refl _, Nat.le_refl _⟩
  | .scr _, h => by cases h
  | .deck, h => by cases h
  | .err _ _, h => by cases h
  | .lam _ _, h => by cases h
theorem truS_av {j : Nat} : ∀ ds : Ds, avs j ds = true → avs j (truS ds) = true ∧ szs (truS ds) ≤ szs ds ∧ dps (truS ds) ≤ dps ds
  | [], h => ⟨h, Nat.le_refl _, Nat.le_refl _⟩
  | d :: ds, h => by
    have h' := Bool.and_eq_true_iff.mp (show (avD j d && avs j ds) = true from h)
    obtain ⟨a1, b1, c1⟩ := tru_av d h'.1
    obtain ⟨a2, b2, c2⟩ := truS_av ds h'.2
    refine ⟨Bool.and_eq_true_iff.mpr ⟨a1, a2⟩, ?_, ?_⟩
    · show szD (truD d) + 2 + szs (truS ds) ≤ szD d + 2 + szs ds
      omega
    · show max (dpD (truD d)) (dps (truS ds)) ≤ max (dpD d) (dps ds)
      omega
end
theorem An.tru {j n k : Nat} {d : D} (h : An j n k d) : An j n k (truD d) := by
  obtain ⟨a, b, c⟩ := tru_av d h.av
  exact ⟨a, Nat.le_trans b h.sz, Nat.le_trans c h.dp⟩
theorem in01_b {b : Bool} : dCmp .In (.bl b) (.tup [.int 0, .int 1]) = some true := by cases b <;> kernel_rfl
theorem in01_i {i : Int} : dCmp .In (.int i) (.tup [.int 0, .int 1]) = some (decide (i = 0 ∨ i = 1)) := by
  have := in_ints_t (i := i) (l := [0, 1])
  simp at this
  rw [this]
  congr 1
  rw [Bool.eq_iff_iff]; simp
theorem ev_truths (h : I__law_truths T) : ∀ (k : Nat) {j n : Nat} {d : D} {m : Nat} {s : DS}, n ≤ 1000000 → An j n k d → k + 1 ≤ m → callD T m "_law_truths" [d] s = .ok (truD d) s := by
  intro k
  induction k with
  | zero =>
    intro j n d m s hn ha hm
    obtain ⟨c, rfl⟩ : ∃ c, m = c + 1 := ⟨m - 1, by omega⟩
    rw [callD_has h rfl]
    unfold F__law_truths
    cases d with
    | tup xs => exact absurd ha.dp (by show ¬ (dps xs + 1 ≤ 0); omega)
    | int i =>
      simp [in01_i]
      unfold truD
      by_cases c : i = 0 ∨ i = 1
      · simp [c]
      · simp [c]
    | bl i => simp [in01_b, eq_b1, truD]
    | str i => simp [truD]
    | non => simp [truD]
    | lst xs => simp [truD]
    | dic xs => simp [truD]
    | _ => exact absurd ha.av (by simp [avD])
  | succ k ih =>
    intro j n d m s hn ha hm
    obtain ⟨c, rfl⟩ : ∃ c, m = c + 1 := ⟨m - 1, by omega⟩
    rw [callD_has h rfl]
    unfold F__law_truths
    cases d with
    | tup xs =>
      have hx := ha.tupS
      have hl : Lm xs.length := Lm.of (by have := hx.len; omega)
      have key : mLcGo (gN 1) mYes (mCallD (lenG 1 (callD T c "_law_truths")) (mCons (mVar 1) mNil)) [some (.val (.tup xs)), none] xs s = .ok (xs.map truD) s := by
        have z := lcGo_F (g := gN 1) (t := mYes) (e := mCallD (lenG 1 (callD T c "_law_truths")) (mCons (mVar 1) mNil)) (ρ := [some (.val (.tup xs)), none]) id (xs := xs) (s := s)
        rw [List.map_id] at z
        rw [z]
        refine Eq.trans (lcF_congr rfl rfl (h' := fun x s => .ok (some (truD x)) s) fun x hx' s => ?_) lcF_map
        have e := ih (j := j) (n := szD x) (d := x) (m := c) (s := s) (by have := (hx.get hx').sz; omega) ⟨hx.av x hx', Nat.le_refl _, hx.dp x hx'⟩ (by omega)
        simp [e]
      simp [hl, key, truD, truS_map]
    | int i =>
      simp [in01_i]
      unfold truD
      by_cases c : i = 0 ∨ i = 1
      · simp [c]
      · simp [c]
    | bl i => simp [in01_b, eq_b1, truD]
    | str i => simp [truD]
    | non => simp [truD]
    | lst xs => simp [truD]
    | dic xs => simp [truD]
    | _ => exact absurd ha.av (by simp [avD])
end
end RS

/-! questions about any value: rows, plain tuples, books -/
namespace RS
open PySem PySem.Spec LA L2
/-- a plain tuple of rows -/
def PlD (q n : Nat) [Pr q] (d : D) : Prop := ∃ L : List (Vec q), Plain n L ∧ d = encT n L
/-- a book -/
def BookD (d : D) : Prop := ∃ (q n : Nat) (_ : Pr q) (L : List (Vec q)), 2 ≤ n ∧ n ≤ 12 ∧ Plain n L ∧ d = encB q n L
noncomputable instance {q n : Nat} [Pr q] {d : D} : Decidable (PlD q n d) := Classical.propDecidable _
noncomputable instance {d : D} : Decidable (BookD d) := Classical.propDecidable _
noncomputable def isPl (q n : Nat) [Pr q] (d : D) : Bool := decide (PlD q n d)
noncomputable def isBook (d : D) : Bool := decide (BookD d)
theorem pr_of {i : Int} (h : isFld (.int i) = true) : ∃ q : Nat, i = q ∧ Pr q := by
  simp only [isFld, Bool.or_eq_true, decide_eq_true_eq] at h
  rcases h with h | h | h
  · exact ⟨2, h, ⟨.inl rfl⟩⟩
  · exact ⟨3, h, ⟨.inr (.inl rfl)⟩⟩
  · exact ⟨5, h, ⟨.inr (.inr rfl)⟩⟩
section
variable {q n : Nat} [Pr q]
theorem rows_of : ∀ {xs : Ds}, xs.all (isRow q n) = true → ∃ L : List (Vec q), Sups n L ∧ xs = L.map (encV n)
  | [], _ => ⟨[], fun _ h => (by cases h), rfl⟩
  | x :: xs, h => by
    rw [List.all_cons, Bool.and_eq_true] at h
    obtain ⟨v, hv, rfl⟩ := row_of h.1
    obtain ⟨L, hL, rfl⟩ := rows_of h.2
    exact ⟨v :: L, Sups.cons.mpr ⟨hv, hL⟩, rfl⟩
theorem encT_rows {L : List (Vec q)} : (L.map (encV n)).all (isRow q n) = true := by
  rw [List.all_map, List.all_eq_true]
  intro v _
  exact row_enc
theorem pl_no {xs : Ds} (h : xs.all (isRow q n) = false) : isPl q n (.tup xs) = false := by
  unfold isPl
  refine decide_eq_false ?_
  rintro ⟨L, hL, e⟩
  unfold encT at e
  injection e with e
  rw [e, encT_rows] at h
  cases h
theorem pl_yes {L : List (Vec q)} (hL : Sups n L) : isPl q n (encT n L) = decide (encT n L = encT n (pl n L)) := by
  unfold isPl
  rw [Bool.eq_iff_iff, decide_eq_true_eq, decide_eq_true_eq, encT_inj hL (pl_sups hL)]
  constructor
  · rintro ⟨M, hM, e⟩
    rw [encT_inj hL hM.sups] at e
    rw [e, hM.pl]
  · intro e
    exact ⟨L, by rw [e]; exact pl_plain hL, rfl⟩
theorem pl_yes' {L : List (Vec q)} (hL : Sups n L) : decide (encT n (pl n L) = encT n L) = isPl q n (encT n L) := by
  rw [pl_yes hL, Bool.eq_iff_iff, decide_eq_true_eq, decide_eq_true_eq]
  exact eq_comm
end
section
variable {T : CT} {s : DS}
theorem ev_lis_integer (h : I__law_is_integer_k00 T) {d : D} (hp : d.plain = true) {lo hi : Int} {m : Nat} (hm : 1 ≤ m) : callD T m "_law_is_integer" [d, .int lo, .int hi] s = .ok (.bl (isBt lo hi d)) s := by
  obtain ⟨c, rfl⟩ : ∃ c, m = c + 1 := ⟨m - 1, by omega⟩
  rw [callD_has h rfl]
  unfold F__law_is_integer_k00
  cases d with
  | int i =>
    simp [isBt]
  | _ => first | (simp [isBt]; done) | cases hp
@[simp] theorem lcF_none {α : Type} {xs : List α} {s : DS} : lcF (fun _ s => .ok none s) xs s = .ok [] s := by
  induction xs with
  | nil => rfl
  | cons x xs ih => unfold lcF; rw [bindk, ih]; rfl
theorem not_all {α : Type} {p : α → Bool} : ∀ {l : List α}, (l.filter fun x => !p x).isEmpty = l.all p
  | [] => rfl
  | x :: l => by
    rw [List.filter_cons, List.all_cons]
    cases h : p x
    · simp
    · simpa using not_all (l := l)
theorem ev_lis_row (h : I__law_is_row_k00 T) {d : D} (hp : d.plain = true) {q : Int} {n : Nat} (hn : Lm n) {m : Nat} (hm : 2 ≤ m) : callD T m "_law_is_row" [.int q, .int n, d] s = .ok (.bl (isRow q n d)) s := by
  obtain ⟨c, rfl⟩ : ∃ c, m = c + 1 := ⟨m - 1, by omega⟩
  obtain ⟨h1, h2⟩ := h
  rw [callD_has h1 rfl]
  unfold F__law_is_row_k00
  cases d with
  | tup xs =>
    have hp : D.plains xs = true := hp
    by_cases cl : xs.length = n
    · have key : mLcGo (gN 3) (mNotB (mTru (mCallD (lenG 3 (callD T c "_law_is_integer")) (mCons (mVar 3) (mCons (mC (.int (0))) (mCons (mBin .Sub (mPeek 0) (mC (.int (1)))) mNil)))))) (mVar 3) [some (.val (.int q)), some (.val (.int n)), some (.val (.tup xs)), none] xs s = .ok (xs.filter fun x => !isBt 0 (q - 1) x) s := by
        have z := lcGo_F (g := gN 3) (t := (mNotB (mTru (mCallD (lenG 3 (callD T c "_law_is_integer")) (mCons (mVar 3) (mCons (mC (.int (0))) (mCons (mBin .Sub (mPeek 0) (mC (.int (1)))) mNil)))))) ) (e := mVar 3) (ρ := [some (.val (.int q)), some (.val (.int n)), some (.val (.tup xs)), none]) id (xs := xs) (s := s)
        rw [List.map_id] at z
        rw [z]
        refine Eq.trans (lcF_congr rfl rfl (h' := fun x s => if (!isBt 0 (q - 1) x) = true then .ok (some (id x)) s else .ok none s) fun x hx s => ?_) ?_
        · have e := ev_lis_integer (s := s) h2 (d := x) (lo := 0) (hi := q - 1) (plains_mem hp x hx) (m := c) (by omega)
          cases hb : isBt 0 (q - 1) x <;> simp [e, hb]
        · rw [lcF_filter, List.map_id]
          congr 2
          funext x
          simp
      simp [cl, hn, key, isRow, not_all]
    · have c' : ((xs.length : Int) = (n : Int)) = False := eq_false (by omega)
      simp [c', isRow]
  | non => simp [isRow]
  | bl b => simp [isRow]
  | int i => simp [isRow]
  | str x => simp [isRow]
  | lst xs => simp [isRow]
  | dic xs => simp [isRow]
  | _ => cases hp
theorem plains_len {n : Nat} {xs : Ds} (h : szs xs ≤ n) (hn : n ≤ 8000000) : Lm xs.length := Lm.of (by have := szs_len (xs := xs); omega)
theorem ev_lis_plain (h : I__law_is_plain_k00 T) {q n : Nat} [Pr q] (hn : n ≤ 60) {j n' k : Nat} {d : D} (hd : An j n' k d) (hj : j ≤ 1000) (hn' : n' ≤ 8000000) {m : Nat} (hm : 4 ≤ m) : callD T m "_law_is_plain" [.int q, .int n, d] s = .ok (.bl (isPl q n d)) s := by
  obtain ⟨c, rfl⟩ : ∃ c, m = c + 3 := ⟨m - 3, by omega⟩
  obtain ⟨h1, h2, h3⟩ := h
  have hlm : Lm n := Lm.of (by omega)
  rw [callD_has h1 rfl]
  unfold F__law_is_plain_k00
  have no : ∀ d, (∀ xs, d ≠ .tup xs) → isPl q n d = false := fun d hx => decide_eq_false fun ⟨L, _, e⟩ => hx _ e
  have hp := hd.plain
  cases d with
  | tup xs =>
    have hp : D.plains xs = true := hp
    have hlx : Lm xs.length := plains_len (n := n') (by have : szs xs + 3 ≤ n' := hd.sz; omega) hn'
    have key : mLcGo (gN 3) (mNotB (mTru (mCallD (lenG 3 (callD T (c + 2) "_law_is_row")) (mCons (mVar 0) (mCons (mVar 1) (mCons (mVar 3) mNil)))))) (mVar 3) [some (.val (.int q)), some (.val (.int n)), some (.val (.tup xs)), none] xs s = .ok (xs.filter fun x => !isRow q n x) s := by
      have z := lcGo_F (g := gN 3) (t := (mNotB (mTru (mCallD (lenG 3 (callD T (c + 2) "_law_is_row")) (mCons (mVar 0) (mCons (mVar 1) (mCons (mVar 3) mNil))))))) (e := mVar 3) (ρ := [some (.val (.int q)), some (.val (.int n)), some (.val (.tup xs)), none]) id (xs := xs) (s := s)
      rw [List.map_id] at z
      rw [z]
      refine Eq.trans (lcF_congr rfl rfl (h' := fun x s => if (!isRow q n x) = true then .ok (some (id x)) s else .ok none s) fun x hx s => ?_) ?_
      · have e := ev_lis_row (s := s) h2 (d := x) (q := q) (n := n) (plains_mem hp x hx) hlm (m := c + 2) (by omega)
        cases hb : isRow q n x <;> simp [e, hb]
      · rw [lcF_filter, List.map_id]
        congr 2
        funext x
        simp
    cases ha : xs.all (isRow q n) with
    | false => simp [hlx, key, not_all, ha, pl_no ha]
    | true =>
      obtain ⟨L, hL, rfl⟩ := rows_of ha
      have ep := ev_lplain0 (k := c) (s := s) h3 (n := n) (by omega) (d := encT n L) (L := L) rfl hL
      have ee := eq_num (d := encT n L) (e := encT n (pl n L)) num_encT num_encT (Nat.le_trans dp_encT (by omega)) (Nat.le_trans dp_encT (by omega))
      have ex : (D.tup (L.map (encV n))) = encT n L := rfl
      rw [List.length_map] at hlx
      rw [ex]
      have hs : dSeq (encT n L) = some (L.map (encV n)) := rfl
      have hi : dIsa "tuple" (encT n L) = some true := rfl
      have er := fun (v : Vec q) s => ev_lis_row (s := s) h2 (d := encV n v) (q := q) (n := n) plain_encV hlm (m := c + 2) (by omega)
      simp [hlx, hs, hi, er, ep, ee, pl_yes hL]
  | non => simp [no]
  | bl b => simp [no]
  | int i => simp [no]
  | str x => simp [no]
  | lst xs => simp [no]
  | dic xs => simp [no]
  | _ => cases hp
theorem ev_is_plain_any (h : I_is_plain_value T) {q n : Nat} [Pr q] (hn : n ≤ 60) {j n' k : Nat} {d : D} (hd : An j n' k d) (hj : j ≤ 1000) (hn' : n' ≤ 8000000) {m : Nat} (hm : 4 ≤ m) : callD T m "is_plain_value" [.int q, .int n, d] s = .ok (.bl (isPl q n d)) s := by
  obtain ⟨c, rfl⟩ : ∃ c, m = c + 4 := ⟨m - 4, by omega⟩
  obtain ⟨h1, h2, h3⟩ := h
  have hlm : Lm n := Lm.of (by omega)
  rw [callD_has h1 rfl]
  unfold F_is_plain_value
  have no : ∀ d, (∀ xs, d ≠ .tup xs) → isPl q n d = false := fun d hx => decide_eq_false fun ⟨L, _, e⟩ => hx _ e
  have hp := hd.plain
  cases d with
  | tup xs =>
    have hp : D.plains xs = true := hp
    have hlx : Lm xs.length := plains_len (n := n') (by have : szs xs + 3 ≤ n' := hd.sz; omega) hn'
    have key : mLcGo (gN 3) mYes (mCallD (lenG 3 (callD T (c + 3) "is_row_value")) (mCons (mVar 0) (mCons (mVar 1) (mCons (mVar 3) mNil)))) [some (.val (.int q)), some (.val (.int n)), some (.val (.tup xs)), none] xs s = .ok (xs.map fun x => .bl (isRow q n x)) s := by
      have z := lcGo_F (g := gN 3) (t := mYes) (e := (mCallD (lenG 3 (callD T (c + 3) "is_row_value")) (mCons (mVar 0) (mCons (mVar 1) (mCons (mVar 3) mNil))))) (ρ := [some (.val (.int q)), some (.val (.int n)), some (.val (.tup xs)), none]) id (xs := xs) (s := s)
      rw [List.map_id] at z
      rw [z]
      refine Eq.trans (lcF_congr rfl rfl (h' := fun x s => .ok (some (.bl (isRow q n x))) s) fun x hx s => ?_) lcF_map
      have e := ev_is_row_value (k := c) (s := s) h2 (d := x) (q := q) (n := n) (plains_mem hp x hx) hlm
      simp [e]
    cases ha : xs.all (isRow q n) with
    | false => simp [hlx, key, ha, pl_no ha]
    | true =>
      obtain ⟨L, hL, rfl⟩ := rows_of ha
      have ep := ev_plain_T (k := c + 1) (s := s) h3 (n := n) (by omega) (L := L) hL
      have ee := eq_num (d := encT n (pl n L)) (e := encT n L) num_encT num_encT (Nat.le_trans dp_encT (by omega)) (Nat.le_trans dp_encT (by omega))
      have ex : (D.tup (L.map (encV n))) = encT n L := rfl
      rw [List.length_map] at hlx
      rw [ex] at key ⊢
      have hs : dSeq (encT n L) = some (L.map (encV n)) := rfl
      have hi : dIsa "tuple" (encT n L) = some true := rfl
      simp only [List.map_map] at key
      have ha' := ha
      rw [List.all_map] at ha'
      have ha'' : (L.all fun x => isRow q n (encV n x)) = true := ha'
      have kk : (isRow (q : Int) (n : Int) ∘ fun x => encV n x) = fun x : Vec q => isRow q n (encV n x) := rfl
      have key2 : mLcGo (gN 3) mYes (mCallD (lenG 3 (callD T (c + 3) "is_row_value")) (mCons (mVar 0) (mCons (mVar 1) (mCons (mVar 3) mNil)))) [some (.val (.int q)), some (.val (.int n)), some (.val (encT n L)), none] (L.map (encV n)) s = .ok (L.map fun x => .bl (isRow q n (encV n x))) s := key
      have ball : bAll [.lst (L.map fun x => .bl (isRow q n (encV n x)))] = some (.bl true) := by rw [bAll_f, ha'']
      simp only [ev_seq, ev_if, ev_orB, ev_notB, ev_tru, ev_bl, ev_isa, ev_peek, ev_var, ev_call, ev_cons, ev_nil, ev_lc, ev_seqI, start_cons, start_nil, List.length_cons, List.length_nil, List.replicate, look_0, look_s, rdP_val, rdV_val, bindk, hi, hs, ofO_some, tru_bl, Bool.not_true, Bool.false_eq_true, if_false, List.length_map, hlx, if_true, wipe_cons, wipe_nil, List.set_cons_succ, List.set_cons_zero, key2, bnd_eq, pure_eq, ball, ev_next, seqO_nx, ev_ret, ev_cmpB, ev_callD, ev_lenG, ep, ee, finO_rt, pl_yes' hL]
  | non => simp [no]
  | bl b => simp [no]
  | int i => simp [no]
  | str x => simp [no]
  | lst xs => simp [no]
  | dic xs => simp [no]
  | _ => cases hp
theorem fld_i {d : D} (h : isFld d = true) : ∃ q : Nat, d = .int q ∧ Pr q := by
  cases d with
  | int i =>
    obtain ⟨q, rfl, hq⟩ := pr_of h
    exact ⟨q, rfl, hq⟩
  | _ => cases h
theorem bt_i {d : D} {lo hi : Nat} (h : isBt lo hi d = true) : ∃ n : Nat, d = .int n ∧ lo ≤ n ∧ n ≤ hi := by
  cases d with
  | int i =>
    simp only [isBt, Bool.and_eq_true, decide_eq_true_eq] at h
    exact ⟨i.toNat, by congr 1; omega, by omega, by omega⟩
  | _ => cases h
theorem isFld_q {q : Nat} [hq : Pr q] : isFld (.int (q : Int)) = true := by
  rcases hq.h with e | e | e <;> subst e <;> rfl
theorem book_no {d : D} (h : ∀ xs, d = .tup xs → xs.length ≠ 3) : isBook d = false := decide_eq_false fun ⟨q, n, hq, L, _, _, _, e⟩ => h _ e rfl
theorem book_no1 {a b c : D} (h : isFld a = false) : isBook (.tup [a, b, c]) = false := decide_eq_false fun ⟨q, n, hq, L, _, _, _, e⟩ => by
  unfold encB at e
  injection e with e
  injection e with e1 e
  rw [e1, isFld_q] at h
  cases h
theorem book_no2 {a b c : D} (h : isBt 2 12 b = false) : isBook (.tup [a, b, c]) = false := decide_eq_false fun ⟨q, n, hq, L, h2, h3, _, e⟩ => by
  unfold encB at e
  injection e with e
  injection e with e1 e
  injection e with e2 e
  rw [e2] at h
  simp [isBt] at h
  omega
theorem book_yes {q n : Nat} [hq : Pr q] {c : D} (h2 : 2 ≤ n) (h3 : n ≤ 12) : isBook (.tup [.int q, .int n, c]) = isPl q n c := by
  unfold isBook isPl
  rw [Bool.eq_iff_iff, decide_eq_true_eq, decide_eq_true_eq]
  constructor
  · rintro ⟨q', n', hq', L, _, _, hL, e⟩
    unfold encB at e
    injection e with e
    injection e with e1 e
    injection e with e2 e
    injection e with e3 e
    injection e1 with e1
    injection e2 with e2
    have e1 : q = q' := by omega
    have e2 : n = n' := by omega
    subst e1; subst e2
    exact ⟨L, hL, e3⟩
  · rintro ⟨L, hL, rfl⟩
    exact ⟨q, n, hq, L, h2, h3, hL, rfl⟩
theorem eq_len3 {xs : Ds} (h : xs.length = 3) : ∃ a b c, xs = [a, b, c] := by
  match xs, h with
  | [a, b, c], _ => exact ⟨a, b, c, rfl⟩
theorem ev_is_book_any (h : I_is_book_value T) {j n' k : Nat} {d : D} (hd : An j n' k d) (hj : j ≤ 1000) (hn' : n' ≤ 8000000) {m : Nat} (hm : 5 ≤ m) : callD T m "is_book_value" [d] s = .ok (.bl (isBook d)) s := by
  obtain ⟨c, rfl⟩ : ∃ c, m = c + 5 := ⟨m - 5, by omega⟩
  obtain ⟨h1, h2, h3, h4⟩ := h
  rw [callD_has h1 rfl]
  unfold F_is_book_value
  have no : ∀ d, (∀ xs, d ≠ .tup xs) → isBook d = false := fun d hx => book_no fun xs e => absurd e (hx xs)
  have hp := hd.plain
  cases d with
  | tup xs =>
    have hp : D.plains xs = true := hp
    by_cases cl : xs.length = 3
    · obtain ⟨a, b, e, rfl⟩ := eq_len3 cl
      have ha : a.plain = true := plains_mem hp _ (by simp)
      have hb : b.plain = true := plains_mem hp _ (by simp)
      have ef := ev_is_field_value (k := c + 2) (s := s) h3 (d := a) ha
      have eb := ev_is_between (k := c + 2) (s := s) h2 (d := b) (lo := 2) (hi := 12) hb
      cases hf : isFld a with
      | false => simp [ef, hf, book_no1 hf]
      | true =>
        cases hbt : isBt 2 12 b with
        | false => simp [ef, hf, eb, hbt, book_no2 hbt]
        | true =>
          obtain ⟨q, rfl, hq⟩ := fld_i hf
          obtain ⟨n, rfl, n2, n12⟩ := bt_i (lo := 2) (hi := 12) hbt
          have hk : ∃ k', k = k' + 1 := ⟨k - 1, by have : dps _ + 1 ≤ k := hd.dp; omega⟩
          obtain ⟨k', rfl⟩ := hk
          have he : An j _ k' e := hd.tupS.get (by simp)
          have ep := ev_is_plain_any (s := s) h4 (q := q) (n := n) (by omega) he hj (by omega) (m := c + 4) (by omega)
          simp [ef, hf, eb, hbt, ep, book_yes n2 n12]
    · have c3 : ((xs.length : Int) = 3) = False := eq_false (by omega)
      have bn : isBook (.tup xs) = false := book_no fun ys e => by injection e with e; rw [← e]; exact cl
      simp [c3, bn]
  | non => simp [no]
  | bl b => simp [no]
  | int i => simp [no]
  | str x => simp [no]
  | lst xs => simp [no]
  | dic xs => simp [no]
  | _ => cases hp
theorem ev_lis_book (h : I__law_is_book_k00 T) {j n' k : Nat} {d : D} (hd : An j n' k d) (hj : j ≤ 1000) (hn' : n' ≤ 8000000) {m : Nat} (hm : 5 ≤ m) : callD T m "_law_is_book" [d] s = .ok (.bl (isBook d)) s := by
  obtain ⟨c, rfl⟩ : ∃ c, m = c + 5 := ⟨m - 5, by omega⟩
  obtain ⟨h1, h2, h3⟩ := h
  rw [callD_has h1 rfl]
  unfold F__law_is_book_k00
  have no : ∀ d, (∀ xs, d ≠ .tup xs) → isBook d = false := fun d hx => book_no fun xs e => absurd e (hx xs)
  have hp := hd.plain
  cases d with
  | tup xs =>
    have hp : D.plains xs = true := hp
    by_cases cl : xs.length = 3
    · obtain ⟨a, b, e, rfl⟩ := eq_len3 cl
      have ha : a.plain = true := plains_mem hp _ (by simp)
      have hb : b.plain = true := plains_mem hp _ (by simp)
      have ef := ev_lis_integer (s := s) h2 (d := a) ha (lo := 2) (hi := 5) (m := c + 4) (by omega)
      have eb := ev_lis_integer (s := s) h2 (d := b) hb (lo := 2) (hi := 12) (m := c + 4) (by omega)
      cases hf : isBt 2 5 a with
      | false =>
        have : isFld a = false := by
          cases hc : isFld a with
          | false => rfl
          | true =>
            obtain ⟨q, rfl, hq⟩ := fld_i hc
            have := Pr.two (q := q); have := Pr.five (q := q)
            simp [isBt] at hf
            omega
        simp [ef, hf, book_no1 this]
      | true =>
        obtain ⟨q, rfl, q2, q5⟩ := bt_i (lo := 2) (hi := 5) hf
        by_cases q4 : q = 4
        · subst q4
          have ef' : ∀ s, callD T (c + 4) "_law_is_integer" [.int 4, .int 2, .int 5] s = .ok (.bl true) s := fun s => ev_lis_integer (s := s) h2 (d := .int 4) rfl (by omega)
          simp [ef', book_no1 (a := .int 4) rfl]
        · have hq : Pr q := ⟨by omega⟩
          have q4' : ((q : Int) = 4) = False := eq_false (by omega)
          cases hbt : isBt 2 12 b with
          | false => simp [ef, hf, q4', eb, hbt, book_no2 hbt]
          | true =>
            obtain ⟨n, rfl, n2, n12⟩ := bt_i (lo := 2) (hi := 12) hbt
            have hk : ∃ k', k = k' + 1 := ⟨k - 1, by have : dps _ + 1 ≤ k := hd.dp; omega⟩
            obtain ⟨k', rfl⟩ := hk
            have he : An j _ k' e := hd.tupS.get (by simp)
            have ep := ev_lis_plain (s := s) h3 (q := q) (n := n) (by omega) he hj (by omega) (m := c + 4) (by omega)
            simp [ef, hf, q4', eb, hbt, ep, book_yes n2 n12]
    · have c3 : ((xs.length : Int) = 3) = False := eq_false (by omega)
      have bn : isBook (.tup xs) = false := book_no fun ys e => by injection e with e; rw [← e]; exact cl
      simp [c3, bn]
  | non => simp [no]
  | bl b => simp [no]
  | int i => simp [no]
  | str x => simp [no]
  | lst xs => simp [no]
  | dic xs => simp [no]
  | _ => cases hp
end
end RS

namespace LawK
open PySem PySem.Spec RS
abbrev P : Program := PySem.Challenge.pw_roundstairs_k00_books_of_any_values
def fis : List FI := [
  ⟨"is_integer", ["thing"], ["thing"], []⟩,
  ⟨"is_between", ["thing", "least", "most"], ["thing", "least", "most"], []⟩,
  ⟨"is_row_value", ["q", "n", "thing"], ["q", "n", "thing", "mark"], []⟩,
  ⟨"is_field_value", ["thing"], ["thing"], []⟩,
  ⟨"need_field", ["q"], ["q"], []⟩,
  ⟨"need_length", ["n"], ["n"], []⟩,
  ⟨"need_row", ["q", "n", "row"], ["q", "n", "row"], []⟩,
  ⟨"row_sum", ["q", "row", "other", "many"], ["q", "row", "other", "many", "a", "b"], []⟩,
  ⟨"row_times", ["q", "row", "many"], ["q", "row", "many", "mark"], []⟩,
  ⟨"undone_mark", ["q", "mark"], ["q", "mark", "other"], []⟩,
  ⟨"first_place", ["row"], ["row", "place", "mark"], []⟩,
  ⟨"plain", ["q", "rows"], ["q", "rows", "found", "row", "head", "place", "other"], ["found"]⟩,
  ⟨"is_plain_value", ["q", "n", "thing"], ["q", "n", "thing", "row"], []⟩,
  ⟨"is_book_value", ["thing"], ["thing"], []⟩,
  ⟨"need_book", ["book"], ["book"], []⟩,
  ⟨"is_book", ["thing"], ["thing"], []⟩,
  ⟨"book_of", ["q", "n", "rows"], ["q", "n", "rows", "row"], []⟩,
  ⟨"dimension", ["book"], ["book"], []⟩,
  ⟨"_law_deck", ["script"], ["script", "stirred", "cell"], []⟩,
  ⟨"_law_draw", ["deck", "many"], ["deck", "many", "number", "cell"], []⟩,
  ⟨"_law_pick", ["deck", "some"], ["deck", "some"], []⟩,
  ⟨"_law_is_integer", ["thing", "low", "high"], ["thing", "low", "high"], []⟩,
  ⟨"_law_is_row", ["q", "n", "thing"], ["q", "n", "thing", "x"], []⟩,
  ⟨"_law_inverse", ["q", "x"], ["q", "x", "y"], []⟩,
  ⟨"_law_plus", ["q", "one", "other", "times"], ["q", "one", "other", "times", "x", "y"], []⟩,
  ⟨"_law_times", ["q", "row", "times"], ["q", "row", "times", "x"], []⟩,
  ⟨"_law_first", ["row"], ["row", "at", "x"], []⟩,
  ⟨"_law_plain", ["q", "rows"], ["q", "rows", "found", "row", "other", "at", "x"], []⟩,
  ⟨"_law_is_plain", ["q", "n", "thing"], ["q", "n", "thing", "row"], []⟩,
  ⟨"_law_is_book", ["thing"], ["thing"], []⟩,
  ⟨"_law_drawn_row", ["deck", "q", "n"], ["deck", "q", "n", "share", "i"], []⟩,
  ⟨"_law_sizes", ["deck"], ["deck", "some"], []⟩,
  ⟨"_law_drawn_book", ["deck", "q", "n"], ["deck", "q", "n", "rows", "go"], []⟩,
  ⟨"_law_any", ["deck", "deep"], ["deck", "deep", "way", "some", "turn"], []⟩,
  ⟨"_law_mixed_tuple", ["deck", "thing"], ["deck", "thing", "way", "at", "to", "low", "high", "some"], []⟩,
  ⟨"_law_bent", ["deck", "thing"], ["deck", "thing", "at", "way", "some"], []⟩,
  ⟨"_law_often_bent", ["deck", "thing"], ["deck", "thing", "turn"], []⟩,
  ⟨"_law_truths", ["thing"], ["thing", "it"], []⟩,
  ⟨"_law_is_beyond", ["thing"], ["thing"], []⟩,
  ⟨"_law_thing", ["deck", "book"], ["deck", "book", "q", "n", "basis", "way", "at", "some"], []⟩,
  ⟨"_law_is_made_right", ["deck", "q", "n", "way"], ["deck", "q", "n", "way", "rows", "go", "due", "text", "told", "some", "left", "i", "j"], ["some", "left"]⟩,
  ⟨"law", ["script"], ["script", "deck", "turn", "thing", "told", "way", "due", "text", "q", "n"], []⟩]
def gls : List (Str × D) := [("FIELDS", .tup [.int (2), .int (3), .int (5)]), ("LEAST_LENGTH", .int (2)), ("MOST_LENGTH", .int (12))]
abbrev fLaw : FI := (fis.getLastD ⟨"law", [], [], []⟩)
abbrev ct : CT := ctOf P.main.body fis fis gls
theorem ndAll : (fis.map (·.x)).Nodup := by decide +kernel
theorem c_is_integer : cDef P.main.body fis gls ⟨"is_integer", ["thing"], ["thing"], []⟩ = some RS.F_is_integer := by kernel_rfl
theorem l_is_integer : Has ct "is_integer" ["thing"] 1 RS.F_is_integer := ct_look (f := ⟨"is_integer", ["thing"], ["thing"], []⟩) ndAll (List.mem_of_getElem? (i := 0) rfl) c_is_integer
theorem c_is_between : cDef P.main.body fis gls ⟨"is_between", ["thing", "least", "most"], ["thing", "least", "most"], []⟩ = some RS.F_is_between := by kernel_rfl
theorem l_is_between : Has ct "is_between" ["thing", "least", "most"] 3 RS.F_is_between := ct_look (f := ⟨"is_between", ["thing", "least", "most"], ["thing", "least", "most"], []⟩) ndAll (List.mem_of_getElem? (i := 1) rfl) c_is_between
theorem c_is_row_value : cDef P.main.body fis gls ⟨"is_row_value", ["q", "n", "thing"], ["q", "n", "thing", "mark"], []⟩ = some RS.F_is_row_value := by kernel_rfl
theorem l_is_row_value : Has ct "is_row_value" ["q", "n", "thing", "mark"] 3 RS.F_is_row_value := ct_look (f := ⟨"is_row_value", ["q", "n", "thing"], ["q", "n", "thing", "mark"], []⟩) ndAll (List.mem_of_getElem? (i := 2) rfl) c_is_row_value
theorem c_is_field_value : cDef P.main.body fis gls ⟨"is_field_value", ["thing"], ["thing"], []⟩ = some RS.F_is_field_value := by kernel_rfl
theorem l_is_field_value : Has ct "is_field_value" ["thing"] 1 RS.F_is_field_value := ct_look (f := ⟨"is_field_value", ["thing"], ["thing"], []⟩) ndAll (List.mem_of_getElem? (i := 3) rfl) c_is_field_value
theorem c_need_field : cDef P.main.body fis gls ⟨"need_field", ["q"], ["q"], []⟩ = some RS.F_need_field := by kernel_rfl
theorem l_need_field : Has ct "need_field" ["q"] 1 RS.F_need_field := ct_look (f := ⟨"need_field", ["q"], ["q"], []⟩) ndAll (List.mem_of_getElem? (i := 4) rfl) c_need_field
theorem c_need_length : cDef P.main.body fis gls ⟨"need_length", ["n"], ["n"], []⟩ = some RS.F_need_length := by kernel_rfl
theorem l_need_length : Has ct "need_length" ["n"] 1 RS.F_need_length := ct_look (f := ⟨"need_length", ["n"], ["n"], []⟩) ndAll (List.mem_of_getElem? (i := 5) rfl) c_need_length
theorem c_need_row : cDef P.main.body fis gls ⟨"need_row", ["q", "n", "row"], ["q", "n", "row"], []⟩ = some RS.F_need_row := by kernel_rfl
theorem l_need_row : Has ct "need_row" ["q", "n", "row"] 3 RS.F_need_row := ct_look (f := ⟨"need_row", ["q", "n", "row"], ["q", "n", "row"], []⟩) ndAll (List.mem_of_getElem? (i := 6) rfl) c_need_row
theorem c_row_sum : cDef P.main.body fis gls ⟨"row_sum", ["q", "row", "other", "many"], ["q", "row", "other", "many", "a", "b"], []⟩ = some RS.F_row_sum := by kernel_rfl
theorem l_row_sum : Has ct "row_sum" ["q", "row", "other", "many", "a", "b"] 4 RS.F_row_sum := ct_look (f := ⟨"row_sum", ["q", "row", "other", "many"], ["q", "row", "other", "many", "a", "b"], []⟩) ndAll (List.mem_of_getElem? (i := 7) rfl) c_row_sum
theorem c_row_times : cDef P.main.body fis gls ⟨"row_times", ["q", "row", "many"], ["q", "row", "many", "mark"], []⟩ = some RS.F_row_times := by kernel_rfl
theorem l_row_times : Has ct "row_times" ["q", "row", "many", "mark"] 3 RS.F_row_times := ct_look (f := ⟨"row_times", ["q", "row", "many"], ["q", "row", "many", "mark"], []⟩) ndAll (List.mem_of_getElem? (i := 8) rfl) c_row_times
theorem c_undone_mark : cDef P.main.body fis gls ⟨"undone_mark", ["q", "mark"], ["q", "mark", "other"], []⟩ = some RS.F_undone_mark := by kernel_rfl
theorem l_undone_mark : Has ct "undone_mark" ["q", "mark", "other"] 2 RS.F_undone_mark := ct_look (f := ⟨"undone_mark", ["q", "mark"], ["q", "mark", "other"], []⟩) ndAll (List.mem_of_getElem? (i := 9) rfl) c_undone_mark
theorem c_first_place : cDef P.main.body fis gls ⟨"first_place", ["row"], ["row", "place", "mark"], []⟩ = some RS.F_first_place := by kernel_rfl
theorem l_first_place : Has ct "first_place" ["row", "place", "mark"] 1 RS.F_first_place := ct_look (f := ⟨"first_place", ["row"], ["row", "place", "mark"], []⟩) ndAll (List.mem_of_getElem? (i := 10) rfl) c_first_place
theorem c_plain : cDef P.main.body fis gls ⟨"plain", ["q", "rows"], ["q", "rows", "found", "row", "head", "place", "other"], ["found"]⟩ = some RS.F_plain := by kernel_rfl
theorem l_plain : Has ct "plain" ["q", "rows", "found", "row", "head", "place", "other"] 2 RS.F_plain := ct_look (f := ⟨"plain", ["q", "rows"], ["q", "rows", "found", "row", "head", "place", "other"], ["found"]⟩) ndAll (List.mem_of_getElem? (i := 11) rfl) c_plain
theorem c_is_plain_value : cDef P.main.body fis gls ⟨"is_plain_value", ["q", "n", "thing"], ["q", "n", "thing", "row"], []⟩ = some RS.F_is_plain_value := by kernel_rfl
theorem l_is_plain_value : Has ct "is_plain_value" ["q", "n", "thing", "row"] 3 RS.F_is_plain_value := ct_look (f := ⟨"is_plain_value", ["q", "n", "thing"], ["q", "n", "thing", "row"], []⟩) ndAll (List.mem_of_getElem? (i := 12) rfl) c_is_plain_value
theorem c_is_book_value : cDef P.main.body fis gls ⟨"is_book_value", ["thing"], ["thing"], []⟩ = some RS.F_is_book_value := by kernel_rfl
theorem l_is_book_value : Has ct "is_book_value" ["thing"] 1 RS.F_is_book_value := ct_look (f := ⟨"is_book_value", ["thing"], ["thing"], []⟩) ndAll (List.mem_of_getElem? (i := 13) rfl) c_is_book_value
theorem c_need_book : cDef P.main.body fis gls ⟨"need_book", ["book"], ["book"], []⟩ = some RS.F_need_book := by kernel_rfl
theorem l_need_book : Has ct "need_book" ["book"] 1 RS.F_need_book := ct_look (f := ⟨"need_book", ["book"], ["book"], []⟩) ndAll (List.mem_of_getElem? (i := 14) rfl) c_need_book
def F_is_book : SM := fun C => (mRet (mCallD (lenG 1 (C "is_book_value")) (mCons (mVar 0) mNil)))
theorem c_is_book : cDef P.main.body fis gls ⟨"is_book", ["thing"], ["thing"], []⟩ = some F_is_book := by kernel_rfl
theorem l_is_book : Has ct "is_book" ["thing"] 1 F_is_book := ct_look (f := ⟨"is_book", ["thing"], ["thing"], []⟩) ndAll (List.mem_of_getElem? (i := 15) rfl) c_is_book
theorem c_book_of : cDef P.main.body fis gls ⟨"book_of", ["q", "n", "rows"], ["q", "n", "rows", "row"], []⟩ = some RS.F_book_of := by kernel_rfl
theorem l_book_of : Has ct "book_of" ["q", "n", "rows", "row"] 3 RS.F_book_of := ct_look (f := ⟨"book_of", ["q", "n", "rows"], ["q", "n", "rows", "row"], []⟩) ndAll (List.mem_of_getElem? (i := 16) rfl) c_book_of
theorem c_dimension : cDef P.main.body fis gls ⟨"dimension", ["book"], ["book"], []⟩ = some RS.F_dimension := by kernel_rfl
theorem l_dimension : Has ct "dimension" ["book"] 1 RS.F_dimension := ct_look (f := ⟨"dimension", ["book"], ["book"], []⟩) ndAll (List.mem_of_getElem? (i := 17) rfl) c_dimension
theorem c__law_deck : cDef P.main.body fis gls ⟨"_law_deck", ["script"], ["script", "stirred", "cell"], []⟩ = some (deckF1 "draws" 13737100 39373 2147483587 41 2147483579) := by kernel_rfl
theorem l__law_deck : Has ct "_law_deck" ["script", "stirred", "cell"] 1 (deckF1 "draws" 13737100 39373 2147483587 41 2147483579) := ct_look (f := ⟨"_law_deck", ["script"], ["script", "stirred", "cell"], []⟩) ndAll (List.mem_of_getElem? (i := 18) rfl) c__law_deck
theorem c__law_draw : cDef P.main.body fis gls ⟨"_law_draw", ["deck", "many"], ["deck", "many", "number", "cell"], []⟩ = some (drawF "draws" 54181 2147483587 48271 37 2147483647 47303 59 2147483629 40014 2147483563) := by kernel_rfl
theorem l__law_draw : Has ct "_law_draw" ["deck", "many", "number", "cell"] 2 (drawF "draws" 54181 2147483587 48271 37 2147483647 47303 59 2147483629 40014 2147483563) := ct_look (f := ⟨"_law_draw", ["deck", "many"], ["deck", "many", "number", "cell"], []⟩) ndAll (List.mem_of_getElem? (i := 19) rfl) c__law_draw
theorem c__law_pick : cDef P.main.body fis gls ⟨"_law_pick", ["deck", "some"], ["deck", "some"], []⟩ = some RS.F__law_pick := by kernel_rfl
theorem l__law_pick : Has ct "_law_pick" ["deck", "some"] 2 RS.F__law_pick := ct_look (f := ⟨"_law_pick", ["deck", "some"], ["deck", "some"], []⟩) ndAll (List.mem_of_getElem? (i := 20) rfl) c__law_pick
theorem c__law_is_integer : cDef P.main.body fis gls ⟨"_law_is_integer", ["thing", "low", "high"], ["thing", "low", "high"], []⟩ = some RS.F__law_is_integer_k00 := by kernel_rfl
theorem l__law_is_integer : Has ct "_law_is_integer" ["thing", "low", "high"] 3 RS.F__law_is_integer_k00 := ct_look (f := ⟨"_law_is_integer", ["thing", "low", "high"], ["thing", "low", "high"], []⟩) ndAll (List.mem_of_getElem? (i := 21) rfl) c__law_is_integer
theorem c__law_is_row : cDef P.main.body fis gls ⟨"_law_is_row", ["q", "n", "thing"], ["q", "n", "thing", "x"], []⟩ = some RS.F__law_is_row_k00 := by kernel_rfl
theorem l__law_is_row : Has ct "_law_is_row" ["q", "n", "thing", "x"] 3 RS.F__law_is_row_k00 := ct_look (f := ⟨"_law_is_row", ["q", "n", "thing"], ["q", "n", "thing", "x"], []⟩) ndAll (List.mem_of_getElem? (i := 22) rfl) c__law_is_row
theorem c__law_inverse : cDef P.main.body fis gls ⟨"_law_inverse", ["q", "x"], ["q", "x", "y"], []⟩ = some RS.F__law_inverse := by kernel_rfl
theorem l__law_inverse : Has ct "_law_inverse" ["q", "x", "y"] 2 RS.F__law_inverse := ct_look (f := ⟨"_law_inverse", ["q", "x"], ["q", "x", "y"], []⟩) ndAll (List.mem_of_getElem? (i := 23) rfl) c__law_inverse
theorem c__law_plus : cDef P.main.body fis gls ⟨"_law_plus", ["q", "one", "other", "times"], ["q", "one", "other", "times", "x", "y"], []⟩ = some RS.F__law_plus := by kernel_rfl
theorem l__law_plus : Has ct "_law_plus" ["q", "one", "other", "times", "x", "y"] 4 RS.F__law_plus := ct_look (f := ⟨"_law_plus", ["q", "one", "other", "times"], ["q", "one", "other", "times", "x", "y"], []⟩) ndAll (List.mem_of_getElem? (i := 24) rfl) c__law_plus
theorem c__law_times : cDef P.main.body fis gls ⟨"_law_times", ["q", "row", "times"], ["q", "row", "times", "x"], []⟩ = some RS.F__law_times_k00 := by kernel_rfl
theorem l__law_times : Has ct "_law_times" ["q", "row", "times", "x"] 3 RS.F__law_times_k00 := ct_look (f := ⟨"_law_times", ["q", "row", "times"], ["q", "row", "times", "x"], []⟩) ndAll (List.mem_of_getElem? (i := 25) rfl) c__law_times
theorem c__law_first : cDef P.main.body fis gls ⟨"_law_first", ["row"], ["row", "at", "x"], []⟩ = some RS.F__law_first := by kernel_rfl
theorem l__law_first : Has ct "_law_first" ["row", "at", "x"] 1 RS.F__law_first := ct_look (f := ⟨"_law_first", ["row"], ["row", "at", "x"], []⟩) ndAll (List.mem_of_getElem? (i := 26) rfl) c__law_first
theorem c__law_plain : cDef P.main.body fis gls ⟨"_law_plain", ["q", "rows"], ["q", "rows", "found", "row", "other", "at", "x"], []⟩ = some RS.F__law_plain_k00 := by kernel_rfl
theorem l__law_plain : Has ct "_law_plain" ["q", "rows", "found", "row", "other", "at", "x"] 2 RS.F__law_plain_k00 := ct_look (f := ⟨"_law_plain", ["q", "rows"], ["q", "rows", "found", "row", "other", "at", "x"], []⟩) ndAll (List.mem_of_getElem? (i := 27) rfl) c__law_plain
theorem c__law_is_plain : cDef P.main.body fis gls ⟨"_law_is_plain", ["q", "n", "thing"], ["q", "n", "thing", "row"], []⟩ = some RS.F__law_is_plain_k00 := by kernel_rfl
theorem l__law_is_plain : Has ct "_law_is_plain" ["q", "n", "thing", "row"] 3 RS.F__law_is_plain_k00 := ct_look (f := ⟨"_law_is_plain", ["q", "n", "thing"], ["q", "n", "thing", "row"], []⟩) ndAll (List.mem_of_getElem? (i := 28) rfl) c__law_is_plain
theorem c__law_is_book : cDef P.main.body fis gls ⟨"_law_is_book", ["thing"], ["thing"], []⟩ = some RS.F__law_is_book_k00 := by kernel_rfl
theorem l__law_is_book : Has ct "_law_is_book" ["thing"] 1 RS.F__law_is_book_k00 := ct_look (f := ⟨"_law_is_book", ["thing"], ["thing"], []⟩) ndAll (List.mem_of_getElem? (i := 29) rfl) c__law_is_book
theorem c__law_drawn_row : cDef P.main.body fis gls ⟨"_law_drawn_row", ["deck", "q", "n"], ["deck", "q", "n", "share", "i"], []⟩ = some RS.F__law_drawn_row := by kernel_rfl
theorem l__law_drawn_row : Has ct "_law_drawn_row" ["deck", "q", "n", "share", "i"] 3 RS.F__law_drawn_row := ct_look (f := ⟨"_law_drawn_row", ["deck", "q", "n"], ["deck", "q", "n", "share", "i"], []⟩) ndAll (List.mem_of_getElem? (i := 30) rfl) c__law_drawn_row
def F__law_sizes_k00 : SM := fun C => (mSeq (mAsg (fun ρ => (mLst (mCons (mTup (mCons (mC (.int (2))) (mCons (mC (.int (4))) mNil))) (mCons (mTup (mCons (mC (.int (2))) (mCons (mC (.int (5))) mNil))) (mCons (mTup (mCons (mC (.int (2))) (mCons (mC (.int (3))) mNil))) (mCons (mTup (mCons (mC (.int (3))) (mCons (mC (.int (3))) mNil))) (mCons (mTup (mCons (mC (.int (2))) (mCons (mC (.int (6))) mNil))) (mCons (mTup (mCons (mC (.int (3))) (mCons (mC (.int (4))) mNil))) (mCons (mTup (mCons (mC (.int (2))) (mCons (mC (.int (4))) mNil))) (mCons (mTup (mCons (mC (.int (5))) (mCons (mC (.int (2))) mNil))) (mCons (mTup (mCons (mC (.int (2))) (mCons (mC (.int (5))) mNil))) (mCons (mTup (mCons (mC (.int (5))) (mCons (mC (.int (3))) mNil))) (mCons (mTup (mCons (mC (.int (3))) (mCons (mC (.int (2))) mNil))) mNil)))))))))))) ρ >>= fun ds => pure (.lst ds)) (gN 1))
    (mRet (mCallD (lenG 2 (C "_law_pick")) (mCons (mVar 0) (mCons (mBin .Add (mPeek 1) (fun ρ => (mLst (mCons (mTup (mCons (mC (.int (2))) (mCons (mC (.int (2))) mNil))) (mCons (mTup (mCons (mC (.int (2))) (mCons (mC (.int (7))) mNil))) (mCons (mTup (mCons (mC (.int (3))) (mCons (mC (.int (5))) mNil))) (mCons (mTup (mCons (mC (.int (2))) (mCons (mC (.int (8))) mNil))) (mCons (mTup (mCons (mC (.int (2))) (mCons (mC (.int (12))) mNil))) (mCons (mTup (mCons (mC (.int (3))) (mCons (mC (.int (7))) mNil))) (mCons (mTup (mCons (mC (.int (5))) (mCons (mC (.int (5))) mNil))) (mCons (mTup (mCons (mC (.int (2))) (mCons (mC (.int (10))) mNil))) mNil))))))))) ρ >>= fun ds => pure (.lst ds))) mNil)))))
theorem c__law_sizes : cDef P.main.body fis gls ⟨"_law_sizes", ["deck"], ["deck", "some"], []⟩ = some F__law_sizes_k00 := by kernel_rfl
theorem l__law_sizes : Has ct "_law_sizes" ["deck", "some"] 1 F__law_sizes_k00 := ct_look (f := ⟨"_law_sizes", ["deck"], ["deck", "some"], []⟩) ndAll (List.mem_of_getElem? (i := 31) rfl) c__law_sizes
theorem c__law_drawn_book : cDef P.main.body fis gls ⟨"_law_drawn_book", ["deck", "q", "n"], ["deck", "q", "n", "rows", "go"], []⟩ = some RS.F__law_drawn_book_k00 := by kernel_rfl
theorem l__law_drawn_book : Has ct "_law_drawn_book" ["deck", "q", "n", "rows", "go"] 3 RS.F__law_drawn_book_k00 := ct_look (f := ⟨"_law_drawn_book", ["deck", "q", "n"], ["deck", "q", "n", "rows", "go"], []⟩) ndAll (List.mem_of_getElem? (i := 32) rfl) c__law_drawn_book
theorem c__law_any : cDef P.main.body fis gls ⟨"_law_any", ["deck", "deep"], ["deck", "deep", "way", "some", "turn"], []⟩ = some RS.F__law_any := by kernel_rfl
theorem l__law_any : Has ct "_law_any" ["deck", "deep", "way", "some", "turn"] 2 RS.F__law_any := ct_look (f := ⟨"_law_any", ["deck", "deep"], ["deck", "deep", "way", "some", "turn"], []⟩) ndAll (List.mem_of_getElem? (i := 33) rfl) c__law_any
theorem c__law_mixed_tuple : cDef P.main.body fis gls ⟨"_law_mixed_tuple", ["deck", "thing"], ["deck", "thing", "way", "at", "to", "low", "high", "some"], []⟩ = some RS.F__law_mixed_tuple := by kernel_rfl
theorem l__law_mixed_tuple : Has ct "_law_mixed_tuple" ["deck", "thing", "way", "at", "to", "low", "high", "some"] 2 RS.F__law_mixed_tuple := ct_look (f := ⟨"_law_mixed_tuple", ["deck", "thing"], ["deck", "thing", "way", "at", "to", "low", "high", "some"], []⟩) ndAll (List.mem_of_getElem? (i := 34) rfl) c__law_mixed_tuple
theorem c__law_bent : cDef P.main.body fis gls ⟨"_law_bent", ["deck", "thing"], ["deck", "thing", "at", "way", "some"], []⟩ = some RS.F__law_bent_k00 := by kernel_rfl
theorem l__law_bent : Has ct "_law_bent" ["deck", "thing", "at", "way", "some"] 2 RS.F__law_bent_k00 := ct_look (f := ⟨"_law_bent", ["deck", "thing"], ["deck", "thing", "at", "way", "some"], []⟩) ndAll (List.mem_of_getElem? (i := 35) rfl) c__law_bent
theorem c__law_often_bent : cDef P.main.body fis gls ⟨"_law_often_bent", ["deck", "thing"], ["deck", "thing", "turn"], []⟩ = some RS.F__law_often_bent := by kernel_rfl
theorem l__law_often_bent : Has ct "_law_often_bent" ["deck", "thing", "turn"] 2 RS.F__law_often_bent := ct_look (f := ⟨"_law_often_bent", ["deck", "thing"], ["deck", "thing", "turn"], []⟩) ndAll (List.mem_of_getElem? (i := 36) rfl) c__law_often_bent
theorem c__law_truths : cDef P.main.body fis gls ⟨"_law_truths", ["thing"], ["thing", "it"], []⟩ = some RS.F__law_truths := by kernel_rfl
theorem l__law_truths : Has ct "_law_truths" ["thing", "it"] 1 RS.F__law_truths := ct_look (f := ⟨"_law_truths", ["thing"], ["thing", "it"], []⟩) ndAll (List.mem_of_getElem? (i := 37) rfl) c__law_truths
def F__law_is_beyond_k00 : SM := fun C => (mSeq (mIf (mOrB (mNotB (mTru (mBl (mIsa "tuple" (mPeek 0))))) (mOrB (mCmpB .NotEq (mCall bLen (mCons (mPeek 0) mNil)) (mC (.int (3)))) (mNotB (mTru (mCallD (lenG 3 (C "_law_is_integer")) (mCons (mIxM (mPeek 0) (mC (.int (0)))) (mCons (mC (.int (2))) (mCons (mC (.int (5))) mNil)))))))) (mRet (mC (.bl false))) mNext)
    (mRet (mCallD (lenG 3 (C "_law_is_integer")) (mCons (mIxM (mPeek 0) (mC (.int (1)))) (mCons (mGet (mDisp [((mC (.int (2))), (mC (.int (13)))), ((mC (.int (3))), (mC (.int (8)))), ((mC (.int (5))), (mC (.int (6))))]) (mIxM (mPeek 0) (mC (.int (0)))) (mC (.int (13)))) (mCons (mC (.int (12))) mNil))))))
theorem c__law_is_beyond : cDef P.main.body fis gls ⟨"_law_is_beyond", ["thing"], ["thing"], []⟩ = some F__law_is_beyond_k00 := by kernel_rfl
theorem l__law_is_beyond : Has ct "_law_is_beyond" ["thing"] 1 F__law_is_beyond_k00 := ct_look (f := ⟨"_law_is_beyond", ["thing"], ["thing"], []⟩) ndAll (List.mem_of_getElem? (i := 38) rfl) c__law_is_beyond
def F__law_thing_k00 : SM := fun C => (mSeq (mAsg (mVar 1) (gTp (gCn (gN 2) (gCn (gN 3) (gCn (gN 4) gNl))) 3))
    (mSeq (mPar2 5 6 (mCons (mCallD (lenG 2 (C "_law_draw")) (mCons (mVar 0) (mCons (mC (.int (9))) mNil))) (mCons (mCallD (lenG 2 (C "_law_draw")) (mCons (mVar 0) (mCons (mCall bMax (mCons (mC (.int (1))) (mCons (mCall bLen (mCons (mPeek 4) mNil)) mNil))) mNil))) mNil)))
    (mSeq (mIf (mOrB (mCmpB .Lt (mPeek 5) (mC (.int (2)))) (mCmpB .Eq (mPeek 4) (mTup mNil))) (mRet (mIf (mCmpB .Eq (mPeek 5) (mC (.int (0)))) (mVar 1) (mTup (mCons (mVar 2) (mCons (mVar 3) (mCons (mTup mNil) mNil)))))) mNext)
    (mSeq (mIf (mCmpB .Eq (mPeek 5) (mC (.int (2)))) (mRet (mTup (mCons (mVar 2) (mCons (mVar 3) (mCons (mBack (mPeek 4)) mNil))))) mNext)
    (mSeq (mIf (mCmpB .Eq (mPeek 5) (mC (.int (3)))) (mRet (mTup (mCons (mVar 2) (mCons (mVar 3) (mCons (mBin .Add (mBin .Add (mSl (mPeek 4) mNoP (mP (mPeek 6))) (mTup (mCons (mCallD (lenG 3 (C "_law_times")) (mCons (mVar 2) (mCons (mIxM (mPeek 4) (mPeek 6)) (mCons (mCallD (lenG 2 (C "_law_draw")) (mCons (mVar 0) (mCons (mVar 2) mNil))) mNil)))) mNil))) (mSl (mPeek 4) (mP (mBin .Add (mPeek 6) (mC (.int (1))))) mNoP)) mNil))))) mNext)
    (mSeq (mIf (mCmpB .Eq (mPeek 5) (mC (.int (4)))) (mRet (mTup (mCons (mVar 2) (mCons (mVar 3) (mCons (mBin .Add (mBin .Add (mSl (mPeek 4) mNoP (mP (mPeek 6))) (mTup (mCons (mCallD (lenG 4 (C "_law_plus")) (mCons (mVar 2) (mCons (mIxM (mPeek 4) (mPeek 6)) (mCons (mIxM (mPeek 4) (mNeg (mC (.int (1))))) (mCons (mBin .Add (mC (.int (1))) (mCallD (lenG 2 (C "_law_draw")) (mCons (mVar 0) (mCons (mBin .Sub (mPeek 2) (mC (.int (1)))) mNil)))) mNil))))) mNil))) (mSl (mPeek 4) (mP (mBin .Add (mPeek 6) (mC (.int (1))))) mNoP)) mNil))))) mNext)
    (mSeq (mIf (mCmpB .Eq (mPeek 5) (mC (.int (5)))) (mSeq (mAsg (fun ρ => (mLst (mCons (mTup (mCons (mVar 2) (mCons (mBin .Add (mPeek 3) (mC (.int (1)))) (mCons (mVar 4) mNil)))) (mCons (mTup (mCons (mVar 2) (mCons (mBin .Sub (mPeek 3) (mC (.int (1)))) (mCons (mVar 4) mNil)))) (mCons (mTup (mCons (mVar 3) (mCons (mVar 2) (mCons (mVar 4) mNil)))) (mCons (mTup (mCons (mC (.int (4))) (mCons (mVar 3) (mCons (mVar 4) mNil)))) mNil))))) ρ >>= fun ds => pure (.lst ds)) (gN 7))
    (mRet (mCallD (lenG 2 (C "_law_pick")) (mCons (mVar 0) (mCons (mBin .Add (mPeek 7) (fun ρ => (mLst (mCons (mTup (mCons (mVar 2) (mCons (mC (.int (1))) (mCons (mTup mNil) mNil)))) (mCons (mTup (mCons (mVar 2) (mCons (mC (.int (13))) (mCons (mTup mNil) mNil)))) (mCons (mTup (mCons (mVar 2) (mCons (mVar 3) mNil))) mNil)))) ρ >>= fun ds => pure (.lst ds))) mNil))))) mNext)
    (mSeq (mIf (mCmpB .Eq (mPeek 5) (mC (.int (6)))) (mRet (mTup (mCons (mCallD (lenG 2 (C "_law_pick")) (mCons (mVar 0) (mCons (fun ρ => (mLst (mCons (mC (.int (2))) (mCons (mC (.int (3))) (mCons (mC (.int (5))) mNil)))) ρ >>= fun ds => pure (.lst ds)) mNil))) (mCons (mVar 3) (mCons (mVar 4) mNil))))) mNext)
    (mRet (mIf (mCmpB .Eq (mPeek 5) (mC (.int (7)))) (mCallD (lenG 1 (C "_law_truths")) (mCons (mVar 1) mNil)) (mTup (mCons (mVar 2) (mCons (mVar 3) (mCons (mBin .Add (mPeek 4) (mTup (mCons (mBin .Mult (mTup (mCons (mC (.int (0))) mNil)) (mPeek 3)) mNil))) mNil))))))))))))))
theorem c__law_thing : cDef P.main.body fis gls ⟨"_law_thing", ["deck", "book"], ["deck", "book", "q", "n", "basis", "way", "at", "some"], []⟩ = some F__law_thing_k00 := by kernel_rfl
theorem l__law_thing : Has ct "_law_thing" ["deck", "book", "q", "n", "basis", "way", "at", "some"] 2 F__law_thing_k00 := ct_look (f := ⟨"_law_thing", ["deck", "book"], ["deck", "book", "q", "n", "basis", "way", "at", "some"], []⟩) ndAll (List.mem_of_getElem? (i := 39) rfl) c__law_thing
def F__law_is_made_right : SM := fun C => (mSeq (mAsg (mCall bTuple (mCons (fun ρ => (mLc (mRngI1 (mCallD (lenG 2 (C "_law_draw")) (mCons (mVar 0) (mCons (mBin .Add (mPeek 2) (mC (.int (2)))) mNil)))) (gN 5) mYes (mCallD (lenG 3 (C "_law_drawn_row")) (mCons (mVar 0) (mCons (mVar 1) (mCons (mVar 2) mNil)))) [5]) ρ >>= fun ds => pure (.lst ds)) mNil)) (gN 4))
    (mSeq (mAsg (mBin .Add (mPeek 4) (mSl (mPeek 4) mNoP (mP (mCallD (lenG 2 (C "_law_draw")) (mCons (mVar 0) (mCons (mC (.int (2))) mNil)))))) (gN 4))
    (mSeq (mPar2 6 7 (mCons (mTup (mCons (mVar 1) (mCons (mVar 2) (mCons (mCallD (lenG 2 (C "_law_plain")) (mCons (mVar 1) (mCons (mVar 4) mNil))) mNil)))) (mCons (mCall bRepr (mCons (mPeek 4) mNil)) mNil)))
    (mSeq (mAsg (mIf (mCmpB .Eq (mPeek 3) (mC (.int (0)))) (mCallD (lenG 3 (C "book_of")) (mCons (mVar 1) (mCons (mVar 2) (mCons (mVar 4) mNil)))) (mKw0 ["q", "n", "rows"] ["rows", "n", "q"] (C "book_of") (mCons (mVar 4) (mCons (mVar 2) (mCons (mVar 1) mNil))))) (gN 8))
    (mSeq (mIf (mOrB (mCmpB .NotEq (mCall bRepr (mCons (mTup (mCons (mVar 8) (mCons (mVar 4) mNil))) mNil)) (mBin .Add (mBin .Add (mBin .Add (mBin .Add (mC (.str "(")) (mCall bRepr (mCons (mPeek 6) mNil))) (mC (.str ", "))) (mPeek 7)) (mC (.str ")")))) (mCmpB .NotEq (mCall bRepr (mCons (mCallD (lenG 1 (C "dimension")) (mCons (mVar 6) mNil)) mNil)) (mCall bRepr (mCons (mCall bLen (mCons (mIxM (mPeek 6) (mC (.int (2)))) mNil)) mNil)))) (mRet (mC (.bl false))) mNext)
    (mSeq (mParO [9, 10] (mSLst (mLst mNil) (mSLst (mCallF bList (mCons (mPeek 4) mNil)) mSNil)))
    (mSeq (mFor (mRngI1 (mCall bLen (mCons (mPeek 4) mNil))) (gN 5) (mAppX 9 (mCallX (lenG 3 (C "_law_times")) (mConsX (mLift (mVar 1)) (mConsX (mPopX 10 (mLift (mCallD (lenG 2 (C "_law_draw")) (mCons (mVar 0) (mCons (mCall bLen (mCons (mPeek 10) mNil)) mNil))))) (mConsX (mLift (mBin .Add (mC (.int (1))) (mCallD (lenG 2 (C "_law_draw")) (mCons (mVar 0) (mCons (mBin .Sub (mPeek 1) (mC (.int (1)))) mNil))))) mNilX))))))
    (mSeq (mFor (mRngI1 (mIf (mCmpB .Gt (mCall bLen (mCons (mPeek 9) mNil)) (mC (.int (1)))) (mCallD (lenG 2 (C "_law_draw")) (mCons (mVar 0) (mCons (mC (.int (4))) mNil))) (mC (.int (0))))) (gN 5) (mSeq (mAsg (mCallD (lenG 2 (C "_law_draw")) (mCons (mVar 0) (mCons (mCall bLen (mCons (mPeek 9) mNil)) mNil))) (gN 11))
    (mSeq (mAsg (mBin .Mod (mCall bInt (mCons (mBin .Add (mBin .Add (mPeek 11) (mC (.int (1)))) (mCallD (lenG 2 (C "_law_draw")) (mCons (mVar 0) (mCons (mBin .Sub (mCall bLen (mCons (mPeek 9) mNil)) (mC (.int (1)))) mNil)))) mNil)) (mCall bLen (mCons (mPeek 9) mNil))) (gN 12))
    (mPut 9 (mCallD (lenG 4 (C "_law_plus")) (mCons (mVar 1) (mCons (mIxM (mPeek 9) (mPeek 11)) (mCons (mIxM (mPeek 9) (mPeek 12)) (mCons (mCallD (lenG 2 (C "_law_draw")) (mCons (mVar 0) (mCons (mVar 1) mNil))) mNil))))) (mPeek 11)))))
    (mRet (mIf (mAsB (mBl (mCmpB .Eq (mCall bRepr (mCons (mCallD (lenG 3 (C "book_of")) (mCons (mVar 1) (mCons (mVar 2) (mCons (mCall bTuple (mCons (mPeek 9) mNil)) mNil)))) mNil)) (mCall bRepr (mCons (mPeek 6) mNil))))) (mBl (mCmpB .Eq (mCall bRepr (mCons (mKw0 ["book"] ["book"] (C "dimension") (mCons (mVar 6) mNil)) mNil)) (mCall bRepr (mCons (mCall bLen (mCons (mIxM (mPeek 6) (mC (.int (2)))) mNil)) mNil)))) fun _ => pure (.bl false)))))))))))
theorem c__law_is_made_right : cDef P.main.body fis gls ⟨"_law_is_made_right", ["deck", "q", "n", "way"], ["deck", "q", "n", "way", "rows", "go", "due", "text", "told", "some", "left", "i", "j"], ["some", "left"]⟩ = some F__law_is_made_right := by kernel_rfl
theorem l__law_is_made_right : Has ct "_law_is_made_right" ["deck", "q", "n", "way", "rows", "go", "due", "text", "told", "some", "left", "i", "j"] 4 F__law_is_made_right := ct_look (f := ⟨"_law_is_made_right", ["deck", "q", "n", "way"], ["deck", "q", "n", "way", "rows", "go", "due", "text", "told", "some", "left", "i", "j"], ["some", "left"]⟩) ndAll (List.mem_of_getElem? (i := 40) rfl) c__law_is_made_right
def F_law_k00 : SM := fun C => (mSeq (mAsg (mCallD (lenG 1 (C "_law_deck")) (mCons (mVar 0) mNil)) (gN 1))
    (mSeq (mFor (mRngI1 (mC (.int (12)))) (gN 2) (mSeq (mAsg (mTup (mCons (mCallD (lenG 1 (C "_law_sizes")) (mCons (mVar 1) mNil)) (mCons (mBin .BitAnd (mPeek 2) (mC (.int (1)))) mNil))) (gTp (gCn (gTp (gCn (gN 8) (gCn (gN 9) gNl)) 2) (gCn (gN 5) gNl)) 2))
    (mSeq (mIf (mAndB (mCmpB .Lt (mPeek 2) (mC (.int (3)))) (mNotB (mTru (mCallD (lenG 4 (C "_law_is_made_right")) (mCons (mVar 1) (mCons (mVar 8) (mCons (mVar 9) (mCons (mVar 5) mNil)))))))) (mRet (mC (.bl false))) mNext)
    (mSeq (mAsg (mCallD (lenG 2 (C "_law_thing")) (mCons (mVar 1) (mCons (mCallD (lenG 3 (C "_law_drawn_book")) (mCons (mVar 1) (mCons (mVar 8) (mCons (mVar 9) mNil)))) mNil))) (gN 3))
    (mSeq (mIf (mCmpB .Gt (mPeek 2) (mC (.int (4)))) (mAsg (mCallD (lenG 2 (C "_law_often_bent")) (mCons (mVar 1) (mCons (mVar 3) mNil))) (gN 3)) mNext)
    (mSeq (mIf (mTru (mCallD (lenG 1 (C "_law_is_beyond")) (mCons (mVar 3) mNil))) (mAsg (mTup (mCons (mC (.int (2))) (mCons (mC (.int (3))) mNil))) (gN 3)) mNext)
    (mSeq (mPar2 6 7 (mCons (mCallD (lenG 1 (C "_law_is_book")) (mCons (mVar 3) mNil)) (mCons (mCall bRepr (mCons (mPeek 3) mNil)) mNil)))
    (mSeq (mAsg (mIf (mCmpB .Eq (mPeek 5) (mC (.int (0)))) (mCallD (lenG 1 (C "is_book")) (mCons (mVar 3) mNil)) (mKw0 ["thing"] ["thing"] (C "is_book") (mCons (mVar 3) mNil))) (gN 4))
    (mIf (mOrB (mCmpB .NotEq (mCall bRepr (mCons (mTup (mCons (mVar 4) (mCons (mCallD (lenG 1 (C "is_book")) (mCons (mVar 3) mNil)) mNil))) mNil)) (mCall bRepr (mCons (mTup (mCons (mVar 6) (mCons (mVar 6) mNil))) mNil))) (mCmpB .NotEq (mCall bRepr (mCons (mPeek 3) mNil)) (mPeek 7))) (mRet (mC (.bl false))) mNext)))))))))
    (mRet (mC (.bl true)))))
theorem c_law : cDef P.main.body fis gls ⟨"law", ["script"], ["script", "deck", "turn", "thing", "told", "way", "due", "text", "q", "n"], []⟩ = some F_law_k00 := by kernel_rfl
theorem l_law : Has ct "law" ["script", "deck", "turn", "thing", "told", "way", "due", "text", "q", "n"] 1 F_law_k00 := ct_look (f := ⟨"law", ["script"], ["script", "deck", "turn", "thing", "told", "way", "due", "text", "q", "n"], []⟩) ndAll (List.mem_of_getElem? (i := 41) rfl) c_law
theorem drw : Drw ct "draws" := draw_ok rfl (⟨.inl rfl, by decide, by decide, by decide, by decide, by decide, by decide, by decide, by decide⟩ : DrawC "draws" 54181 2147483587 48271 2147483647 47303 2147483629 40014 2147483563) l__law_draw
theorem deck_ev {k : Nat} {ns : List Int} (h : ns.length ≤ 63) : W (callD ct (k + 1) "_law_deck" [.scr ns] none) fun d s => d = .deck ∧ Wf "draws" s := deck_ok1 rfl (⟨.inl rfl, by decide, by decide, by decide⟩ : DeckC "draws" 39373 2147483587 2147483579) l__law_deck h
theorem i_is_integer : RS.I_is_integer ct := l_is_integer
theorem i_is_between : RS.I_is_between ct := ⟨l_is_between, i_is_integer⟩
theorem i_is_row_value : RS.I_is_row_value ct := ⟨l_is_row_value, i_is_between⟩
theorem i_is_field_value : RS.I_is_field_value ct := ⟨l_is_field_value, i_is_integer⟩
theorem i_need_field : RS.I_need_field ct := ⟨l_need_field, i_is_field_value⟩
theorem i_need_length : RS.I_need_length ct := ⟨l_need_length, i_is_between⟩
theorem i_need_row : RS.I_need_row ct := ⟨l_need_row, i_is_row_value⟩
theorem i_row_sum : RS.I_row_sum ct := l_row_sum
theorem i_row_times : RS.I_row_times ct := l_row_times
theorem i_undone_mark : RS.I_undone_mark ct := l_undone_mark
theorem i_first_place : RS.I_first_place ct := l_first_place
theorem i_plain : RS.I_plain ct := ⟨l_plain, i_first_place, i_row_sum, i_row_times, i_undone_mark⟩
theorem i_is_plain_value : RS.I_is_plain_value ct := ⟨l_is_plain_value, i_is_row_value, i_plain⟩
theorem i_is_book_value : RS.I_is_book_value ct := ⟨l_is_book_value, i_is_between, i_is_field_value, i_is_plain_value⟩
theorem i_need_book : RS.I_need_book ct := ⟨l_need_book, i_is_book_value⟩
def I_is_book (T : CT) : Prop := Has T "is_book" ["thing"] 1 F_is_book ∧ I_is_book_value T
theorem i_is_book : I_is_book ct := ⟨l_is_book, i_is_book_value⟩
theorem i_book_of : RS.I_book_of ct := ⟨l_book_of, i_need_field, i_need_length, i_need_row, i_plain⟩
theorem i_dimension : RS.I_dimension ct := ⟨l_dimension, i_need_book⟩
theorem i__law_pick : RS.I__law_pick ct := l__law_pick
theorem i__law_is_integer : RS.I__law_is_integer_k00 ct := l__law_is_integer
theorem i__law_is_row : RS.I__law_is_row_k00 ct := ⟨l__law_is_row, i__law_is_integer⟩
theorem i__law_inverse : RS.I__law_inverse ct := l__law_inverse
theorem i__law_plus : RS.I__law_plus ct := l__law_plus
theorem i__law_times : RS.I__law_times_k00 ct := l__law_times
theorem i__law_first : RS.I__law_first ct := l__law_first
theorem i__law_plain : RS.I__law_plain_k00 ct := ⟨l__law_plain, i__law_first, i__law_inverse, i__law_plus, i__law_times⟩
theorem i__law_is_plain : RS.I__law_is_plain_k00 ct := ⟨l__law_is_plain, i__law_is_row, i__law_plain⟩
theorem i__law_is_book : RS.I__law_is_book_k00 ct := ⟨l__law_is_book, i__law_is_integer, i__law_is_plain⟩
theorem i__law_drawn_row : RS.I__law_drawn_row ct := ⟨l__law_drawn_row, i__law_pick⟩
def I__law_sizes_k00 (T : CT) : Prop := Has T "_law_sizes" ["deck", "some"] 1 F__law_sizes_k00 ∧ I__law_pick T
theorem i__law_sizes : I__law_sizes_k00 ct := ⟨l__law_sizes, i__law_pick⟩
theorem i__law_drawn_book : RS.I__law_drawn_book_k00 ct := ⟨l__law_drawn_book, i__law_drawn_row, i__law_plain⟩
theorem i__law_any : RS.I__law_any ct := ⟨l__law_any, i__law_pick⟩
theorem i__law_mixed_tuple : RS.I__law_mixed_tuple ct := ⟨l__law_mixed_tuple, i__law_any⟩
theorem i__law_bent : RS.I__law_bent_k00 ct := ⟨l__law_bent, i__law_any, i__law_mixed_tuple, i__law_pick⟩
theorem i__law_often_bent : RS.I__law_often_bent ct := ⟨l__law_often_bent, i__law_any, i__law_bent, i__law_pick⟩
theorem i__law_truths : RS.I__law_truths ct := l__law_truths
def I__law_is_beyond_k00 (T : CT) : Prop := Has T "_law_is_beyond" ["thing"] 1 F__law_is_beyond_k00 ∧ I__law_is_integer_k00 T
theorem i__law_is_beyond : I__law_is_beyond_k00 ct := ⟨l__law_is_beyond, i__law_is_integer⟩
def I__law_thing_k00 (T : CT) : Prop := Has T "_law_thing" ["deck", "book", "q", "n", "basis", "way", "at", "some"] 2 F__law_thing_k00 ∧ I__law_pick T ∧ I__law_plus T ∧ I__law_times_k00 T ∧ I__law_truths T
theorem i__law_thing : I__law_thing_k00 ct := ⟨l__law_thing, i__law_pick, i__law_plus, i__law_times, i__law_truths⟩
def I__law_is_made_right (T : CT) : Prop := Has T "_law_is_made_right" ["deck", "q", "n", "way", "rows", "go", "due", "text", "told", "some", "left", "i", "j"] 4 F__law_is_made_right ∧ I__law_drawn_row T ∧ I__law_plain_k00 T ∧ I__law_plus T ∧ I__law_times_k00 T ∧ I_book_of T ∧ I_dimension T
theorem i__law_is_made_right : I__law_is_made_right ct := ⟨l__law_is_made_right, i__law_drawn_row, i__law_plain, i__law_plus, i__law_times, i_book_of, i_dimension⟩
def I_law_k00 (T : CT) : Prop := Has T "law" ["script", "deck", "turn", "thing", "told", "way", "due", "text", "q", "n"] 1 F_law_k00 ∧ I__law_drawn_book_k00 T ∧ I__law_is_beyond_k00 T ∧ I__law_is_book_k00 T ∧ I__law_is_made_right T ∧ I__law_often_bent T ∧ I__law_sizes_k00 T ∧ I__law_thing_k00 T ∧ I_is_book T
theorem i_law : I_law_k00 ct := ⟨l_law, i__law_drawn_book, i__law_is_beyond, i__law_is_book, i__law_is_made_right, i__law_often_bent, i__law_sizes, i__law_thing, i_is_book⟩
end LawK

namespace LawK
open PySem PySem.Spec RS LA L2
section
variable {q n : Nat} [Pr q]
theorem an_row {v : Vec q} {j k : Nat} (hk : 1 ≤ k) : An j (n * 204 + 3) k (encV n v) := by
  have h : As 0 ((((List.range n).map fun i => D.int (((v i).val : Nat) : Int)).length) * (202 + 2)) 0 ((List.range n).map fun i => D.int (((v i).val : Nat) : Int)) := as_of fun y hy => by
    obtain ⟨i, _, rfl⟩ := List.mem_map.mp hy
    refine An.int ?_ (Nat.le_refl _)
    have := (v i).isLt
    have := Pr.five (q := q)
    have : (5 : Nat) ≤ 2 ^ 140 := by decide
    omega
  rw [List.length_map, List.length_range] at h
  have := h.tup
  exact this.mono (Nat.zero_le _) (Nat.le_refl _) hk
theorem as_rows {L : List (Vec q)} {j m k : Nat} (hl : L.length ≤ m) (hk : 1 ≤ k) : As j (m * (n * 204 + 5)) k (L.map (encV n)) := by
  have h : As j ((L.map (encV n)).length * (n * 204 + 3 + 2)) k (L.map (encV n)) := as_of fun y hy => by
    obtain ⟨v, _, rfl⟩ := List.mem_map.mp hy
    exact an_row hk
  rw [List.length_map] at h
  exact h.mono (Nat.le_refl _) (Nat.mul_le_mul_right _ hl) (Nat.le_refl _)
theorem as_basis {L : List (Vec q)} (hL : L.length ≤ 12) (hn : n ≤ 12) : As 0 30000 1 (L.map (encV n)) :=
  (as_rows (j := 0) (m := 12) hL (Nat.le_refl 1)).mono (Nat.le_refl _) (by omega) (Nat.le_refl _)
theorem an_q {i : Nat} (h : i ≤ 100) {k : Nat} : An 0 202 k (.int (i : Int)) := An.int (by
  have : (100 : Nat) ≤ 2 ^ 140 := by decide
  omega) (Nat.le_refl _)
theorem an_n1 {i : Int} (h : -1 ≤ i ∧ i ≤ 100) {k : Nat} : An 0 202 k (.int i) := An.int (by
  have : (100 : Nat) ≤ 2 ^ 140 := by decide
  omega) (Nat.le_refl _)
theorem an_3 {a b c : D} {x k : Nat} (ha : An 0 202 k a) (hb : An 0 202 k b) (hc : An 0 x k c) : An 0 (x + 420) (k + 1) (.tup [a, b, c]) := by
  have : As 0 (202 + 2 + (202 + 2 + (x + 2))) k [a, b, c] := As.cons ha (As.cons hb (As.one hc))
  exact this.tup.mono (Nat.le_refl _) (by omega) (Nat.le_refl _)
theorem an_2 {a b : D} {x y k : Nat} (ha : An 0 x k a) (hb : An 0 y k b) : An 0 (x + y + 7) (k + 1) (.tup [a, b]) := by
  have : As 0 (x + 2 + (y + 2)) k [a, b] := As.cons ha (As.one hb)
  exact this.tup.mono (Nat.le_refl _) (by omega) (Nat.le_refl _)
end
/-- q and n that are drawn here -/
def QN0 (d : D) : Prop := ∃ q n : Nat, Pr q ∧ 2 ≤ n ∧ n ≤ 12 ∧ d = .tup [.int (q : Int), .int (n : Int)]
theorem QN0.mk (q n : Nat) (h : Pr q := by exact ⟨by decide⟩) (h2 : 2 ≤ n := by decide) (h3 : n ≤ 12 := by decide) : QN0 (.tup [.int (q : Int), .int (n : Int)]) := ⟨q, n, h, h2, h3, rfl⟩
theorem ev_sizes {m : Nat} {s : DS} (hs : Wf "draws" s) (hm : 3 ≤ m) : W (callD ct m "_law_sizes" [.deck] s) fun d s' => QN0 d ∧ Wf "draws" s' := by
  obtain ⟨k, rfl⟩ : ∃ k, m = k + 3 := ⟨m - 3, by omega⟩
  rw [callD_has l__law_sizes rfl]
  unfold F__law_sizes_k00
  have ad : ∀ xs ys : Ds, xs.length + ys.length ≤ 100 → dBin .Add (.lst xs) (.lst ys) = some (.lst (xs ++ ys)) := fun xs ys h => cat_l (by have hl : lim = 16777216 := rfl; omega)
  simp [W_bind, ad]
  refine W_imp (ev_pick (k := k) i__law_pick drw hs (by simp) (by simp)) ?_
  rintro d s1 ⟨hd, hs1⟩
  refine ⟨?_, hs1⟩
  simp at hd
  rcases hd with rfl | rfl | rfl | rfl | rfl | rfl | rfl | rfl | rfl | rfl | rfl | rfl | rfl | rfl | rfl | rfl | rfl | rfl | rfl <;> first | exact QN0.mk 2 2 | exact QN0.mk 2 3 | exact QN0.mk 2 4 | exact QN0.mk 2 5 | exact QN0.mk 2 6 | exact QN0.mk 2 7 | exact QN0.mk 3 2 | exact QN0.mk 3 3 | exact QN0.mk 3 4 | exact QN0.mk 3 5 | exact QN0.mk 5 2 | exact QN0.mk 5 3 | exact QN0.mk 2 8 | exact QN0.mk 2 12 | exact QN0.mk 3 7 | exact QN0.mk 5 5 | exact QN0.mk 2 10
theorem at_last {xs : Ds} (h : 0 < xs.length) : ∃ x, L2.atI xs (-1) = some x ∧ x ∈ xs := by
  refine ⟨xs[xs.length - 1]'(by omega), ?_, List.getElem_mem _⟩
  have e : L2.ixN xs.length (-1) = some (xs.length - 1) := by
    unfold L2.ixN
    rw [if_neg (by omega), if_pos (by omega)]
    congr 1
    omega
  unfold L2.atI
  rw [e, Option.bind_some, List.getElem?_eq_getElem (by omega)]
theorem beyond_tab {i : Int} : ∃ j : Int, (keyOf (.int i)).map (fun k => (dLook [(.int 2, .int 13), (.int 3, .int 8), (.int 5, .int 6)] k).getD (.int 13)) = some (.int j) := by
  refine ⟨if i = 2 then 13 else if i = 3 then 8 else if i = 5 then 6 else 13, ?_⟩
  rw [key_int, Option.map_some, dLook_cons key_int, dLook_cons key_int, dLook_cons key_int]
  congr 1
  by_cases c1 : i = 2
  · subst c1; rfl
  · by_cases c2 : i = 3
    · subst c2; rfl
    · by_cases c3 : i = 5
      · subst c3; rfl
      · rw [if_neg (by intro e; injection e with e; exact c1 e.symm), if_neg (by intro e; injection e with e; exact c2 e.symm), if_neg (by intro e; injection e with e; exact c3 e.symm), if_neg c1, if_neg c2, if_neg c3]
        rfl
theorem merge_tab : mergeD [] [(.int 2, .int 13), (.int 3, .int 8), (.int 5, .int 6)] = some [(.int 2, .int 13), (.int 3, .int 8), (.int 5, .int 6)] := by kernel_rfl
theorem ev_beyond {j n' k : Nat} {d : D} (hd : An j n' k d) (hj : j ≤ 1000) {m : Nat} {s : DS} (hm : 2 ≤ m) : ∃ b, callD ct m "_law_is_beyond" [d] s = .ok (.bl b) s := by
  obtain ⟨c, rfl⟩ : ∃ c, m = c + 2 := ⟨m - 2, by omega⟩
  rw [callD_has l__law_is_beyond rfl]
  unfold F__law_is_beyond_k00
  have hp := hd.plain
  cases d with
  | tup xs =>
    have hp : D.plains xs = true := hp
    by_cases cl : xs.length = 3
    · obtain ⟨a, b, e, rfl⟩ := eq_len3 cl
      have ha : a.plain = true := plains_mem hp _ (by simp)
      have hb : b.plain = true := plains_mem hp _ (by simp)
      have ef := ev_lis_integer (s := s) i__law_is_integer (d := a) ha (lo := 2) (hi := 5) (m := c + 1) (by omega)
      cases hf : isBt 2 5 a with
      | false => exact ⟨false, by simp [ef, hf]⟩
      | true =>
        obtain ⟨q, rfl, q2, q5⟩ := bt_i (lo := 2) (hi := 5) hf
        obtain ⟨z, hz⟩ := beyond_tab (i := (q : Int))
        have eb := ev_lis_integer (s := s) i__law_is_integer (d := b) hb (lo := z) (hi := 12) (m := c + 1) (by omega)
        simp only [key_int, Option.map_some, Option.some.injEq] at hz
        exact ⟨isBt z 12 b, by simp [ef, hf, merge_tab, hz, eb]⟩
    · have c3 : ((xs.length : Int) = 3) = False := eq_false (by omega)
      exact ⟨false, by simp [c3]⟩
  | non => exact ⟨false, by simp⟩
  | bl b => exact ⟨false, by simp⟩
  | int i => exact ⟨false, by simp⟩
  | str x => exact ⟨false, by simp⟩
  | lst xs => exact ⟨false, by simp⟩
  | dic xs => exact ⟨false, by simp⟩
  | _ => cases hp
theorem ev_thing {q n : Nat} [Pr q] (h2 : 2 ≤ n) (h3 : n ≤ 12) {L : List (Vec q)} (hL : Plain n L) {m : Nat} {s : DS} (hs : Wf "draws" s) (hm : 8 ≤ m) : W (callD ct m "_law_thing" [.deck, encB q n L] s) fun d s' => An 0 64000 4 d ∧ Wf "draws" s' := by
  obtain ⟨c, rfl⟩ : ∃ c, m = c + 8 := ⟨m - 8, by omega⟩
  rw [callD_has l__law_thing rfl]
  unfold F__law_thing_k00
  have q2 := Pr.two (q := q)
  have q5 := Pr.five (q := q)
  have hl := hL.len
  have hl12 : L.length ≤ 12 := by omega
  have hlm : Lm n := Lm.of (by omega)
  have as0 := as_basis (L := L) hl12 h3
  have l0 : lim = 16777216 := rfl
  have aT : An 0 30003 2 (encT n L) := as0.tup
  have aq : ∀ {k}, An 0 202 k (.int (q : Int)) := an_q (by omega)
  have an : ∀ {k}, An 0 202 k (.int (n : Int)) := an_q (by omega)
  have aB : An 0 31000 3 (encB q n L) := (an_3 aq an aT).mono
  have eB : ∀ {g : Tgs} {ρ : RS.Env}, gTp g 3 (encB q n L) ρ = g [.int q, .int n, encT n L] ρ := fun {g ρ} => by unfold encB; simp
  simp [eB, W_bind]
  refine W_imp (drw.go (c + 6) s 9 hs (by omega) (by omega)) ?_
  rintro d s1 ⟨⟨w, hw, rfl⟩, hs1⟩
  have hmx : bMax [.int 1, .int (L.length : Int)] = some (.int ((max 1 L.length : Nat) : Int)) := maxN (a := 1)
  simp [W_bind, len_T, hmx]
  refine W_imp (drw.go (c + 6) s1 (max 1 L.length) hs1 (by omega) (by omega)) ?_
  rintro d s2 ⟨⟨a, ha, rfl⟩, hs2⟩
  have eE : dCmp .Eq (encT n L) (.tup []) = some (L.map (encV n)).isEmpty := rfl
  have e0 : ∀ {k}, An 0 3 (k + 1) (.tup []) := fun {k} => ⟨rfl, Nat.le_refl _, Nat.succ_le_succ (Nat.zero_le _)⟩
  have big : ∀ {d : D}, An 0 63000 4 d → An 0 64000 4 d := fun h => h.mono
  by_cases c2 : w < 2
  · have e2 : ((w : Int) < 2) = True := eq_true (by omega)
    by_cases c0 : w = 0
    · subst c0
      simp [hs2]
      exact aB.mono
    · have e3 : ((w : Int) = 0) = False := eq_false (by omega)
      simp [e2, c0, hs2]
      exact (an_3 aq an (e0 (k := 2))).mono
  · have e2 : ((w : Int) < 2) = False := eq_false (by omega)
    cases L with
    | nil =>
      have e3 : ((w : Int) = 0) = False := eq_false (by omega)
      have c0 : ¬ w = 0 := by omega
      simp [e2, eE, c0, hs2]
      exact (an_3 aq an (e0 (k := 2))).mono
    | cons v L' =>
      have hne : ((v :: L').map (encV n)).isEmpty = false := rfl
      generalize hLL : v :: L' = L at *
      have hpos : 0 < L.length := by rw [← hLL]; simp
      have ha' : a < L.length := by omega
      have ha2 : a < (L.map (encV n)).length := by simpa using ha'
      obtain ⟨x, x1, x2⟩ := at_mem' ha2
      obtain ⟨u, hu, rfl⟩ : ∃ u ∈ L, encV n u = x := by
        have := List.mem_of_getElem? x2
        simpa using this
      have ixa : ∀ s, dIxM (encT n L) (.int (a : Int)) s = .ok (encV n u) s := fun s => by unfold encT; simp [x1]
      have fin : ∀ (y : D), An 0 (12 * 204 + 3) 1 y → dBin .Add (.tup ((L.map (encV n)).take a)) (.tup [y]) = some (.tup ((L.map (encV n)).take a ++ [y])) ∧ dBin .Add (.tup ((L.map (encV n)).take a ++ [y])) (.tup ((L.map (encV n)).drop (a + 1))) = some (.tup ((L.map (encV n)).take a ++ [y] ++ (L.map (encV n)).drop (a + 1))) ∧ An 0 62500 2 (.tup ((L.map (encV n)).take a ++ [y] ++ (L.map (encV n)).drop (a + 1))) := fun y hy => by
        refine ⟨cat_t (by simp; omega), cat_t (by simp; omega), ?_⟩
        have := ((as0.take a).app (As.one hy)).app (as0.drop (a + 1))
        exact this.tup.mono
      have sT : ∀ {lo hi}, dSl (encT n L) lo hi = dSl (.tup (L.map (encV n))) lo hi := rfl
      have tup1 : ∀ {y : D}, An 0 62500 2 y → An 0 63000 4 (.tup [.int (q : Int), .int (n : Int), y]) := fun hy => (an_3 aq an hy).mono
      have c3 : w = 2 ∨ w = 3 ∨ w = 4 ∨ w = 5 ∨ w = 6 ∨ w = 7 ∨ w = 8 := by omega
      rcases c3 with rfl | rfl | rfl | rfl | rfl | rfl | rfl
      · have eb : dBack (encT n L) = some (.tup (L.map (encV n)).reverse) := rfl
        simp [eE, hne, eb, hs2]
        rw [← List.map_reverse]
        have : An 0 (30000 + 3) (1 + 1) (.tup (L.map (encV n)).reverse) := As.tup (As.rev as0)
        rw [← List.map_reverse] at this
        exact big (tup1 this.mono)
      · simp [eE, hne, sT, sl_to_t', ixa, W_bind]
        refine W_imp (drw.go (c + 6) s2 q hs2 (by omega) (by omega)) ?_
        rintro d s3 ⟨⟨r, hr, rfl⟩, hs3⟩
        have et := fun s => ev_ltimes (k := c + 6) (s := s) i__law_times hlm u (r : Int)
        obtain ⟨f1, f2, f3⟩ := fin (encV n fun i => toF (r : Int) * u i) ((an_row (Nat.le_refl 1)).mono (Nat.le_refl _) (by omega) (Nat.le_refl _))
        simp only [List.append_assoc, List.singleton_append] at f1 f2 f3
        simp [et, sl_from1_t, f1, f2, hs3]
        exact big (tup1 f3)
      · obtain ⟨z, z1, z2⟩ := at_last (xs := L.map (encV n)) (by simpa using hpos)
        obtain ⟨u2, hu2, rfl⟩ : ∃ u ∈ L, encV n u = z := by simpa using z2
        have ixl : ∀ s, dIxM (encT n L) (.int (-1)) s = .ok (encV n u2) s := fun s => by unfold encT; simp [z1]
        have eq1 : ((q : Int) - 1) = ((q - 1 : Nat) : Int) := by omega
        simp [eE, hne, sT, sl_to_t', ixa, ixl, eq1, W_bind]
        refine W_imp (drw.go (c + 6) s2 (q - 1) hs2 (by omega) (by omega)) ?_
        rintro d s3 ⟨⟨r, hr, rfl⟩, hs3⟩
        have et := fun s => ev_lplus (k := c + 6) (s := s) i__law_plus hlm u u2 (1 + (r : Int))
        obtain ⟨f1, f2, f3⟩ := fin (encV n fun i => u i + toF (1 + (r : Int)) * u2 i) ((an_row (Nat.le_refl 1)).mono (Nat.le_refl _) (by omega) (Nat.le_refl _))
        simp only [List.append_assoc, List.singleton_append] at f1 f2 f3
        simp only [toF_add] at f1 f2 f3 et
        simp at et f1 f2 f3
        simp [et, sl_from1_t, f1, f2, hs3]
        exact big (tup1 f3)
      · have ad : ∀ xs ys : Ds, xs.length + ys.length ≤ 100 → dBin .Add (.lst xs) (.lst ys) = some (.lst (xs ++ ys)) := fun xs ys h => cat_l (by omega)
        simp [eE, hne, ad, W_bind]
        refine W_imp (ev_pick (k := c + 5) i__law_pick drw hs2 (by simp) (by simp)) ?_
        rintro d s3 ⟨hd, hs3⟩
        simp [hs3]
        simp only [List.mem_cons, List.not_mem_nil, or_false] at hd
        have ap : ∀ {i : Int} {k}, -1 ≤ i ∧ i ≤ 100 → An 0 202 k (.int i) := fun h => an_n1 h
        have t3 : ∀ {a b : Int} {y : D}, (-1 ≤ a ∧ a ≤ 100) → (-1 ≤ b ∧ b ≤ 100) → An 0 62500 2 y → An 0 64000 4 (.tup [.int a, .int b, y]) := fun h k hy => (an_3 (ap h) (ap k) hy).mono
        have aT' : An 0 62500 2 (encT n L) := aT.mono
        have e0' : An 0 62500 2 (.tup []) := (e0 (k := 1)).mono
        rcases hd with rfl | rfl | rfl | rfl | rfl | rfl | rfl
        · exact t3 (by omega) (by omega) aT'
        · exact t3 (by omega) (by omega) aT'
        · exact t3 (by omega) (by omega) aT'
        · exact t3 (by omega) (by omega) aT'
        · exact t3 (by omega) (by omega) e0'
        · exact t3 (by omega) (by omega) e0'
        · exact (an_2 (aq (k := 1)) (an (k := 1))).mono
      · simp [eE, hne, W_bind]
        refine W_imp (ev_pick (k := c + 5) i__law_pick drw hs2 (by simp) (by simp)) ?_
        rintro d s3 ⟨hd, hs3⟩
        simp [hs3]
        simp only [List.mem_cons, List.not_mem_nil, or_false] at hd
        rcases hd with rfl | rfl | rfl
        · exact (an_3 (an_n1 (i := 2) (by omega)) an aT).mono
        · exact (an_3 (an_n1 (i := 3) (by omega)) an aT).mono
        · exact (an_3 (an_n1 (i := 5) (by omega)) an aT).mono
      · have et := fun s => ev_truths (s := s) i__law_truths 3 (j := 0) (n := 31000) (d := encB q n L) (m := c + 7) (by omega) aB (by omega)
        simp [eE, hne, et, hs2]
        exact aB.tru.mono
      · have z : dBin .Mult (.tup [.int 0]) (.int n) = some (encV n (fun _ => (0 : Fin q))) := by
          rw [mul_tup ⟨by omega, by omega, by simp⟩]
          congr 1
          unfold encV
          congr 1
          refine List.ext_getElem (by simp) fun i h1 h2 => by simp
        have e9 : dBin .Add (encT n L) (.tup [encV n (fun _ => (0 : Fin q))]) = some (.tup (L.map (encV n) ++ [encV n (fun _ => (0 : Fin q))])) := cat_t (by simp; omega)
        simp [eE, hne, z, e9, hs2]
        have h9 : An 0 (12 * 204 + 3) 1 (encV n (fun _ => (0 : Fin q))) := (an_row (Nat.le_refl 1)).mono (Nat.le_refl _) (by omega) (Nat.le_refl _)
        have := (as0.app (As.one h9)).tup
        exact big (tup1 this.mono)
end LawK

/-! loops that draw and know how far they are -/
namespace RS
open PySem PySem.Spec LA L2
def GoO (J : Env → DS → Prop) (Pr : D → DS → Prop) (o : O) (s' : DS) : Prop := match o with
  | .nx ρ' => J ρ' s'
  | .rt d => Pr d s'
  | _ => False
@[simp] theorem GoO_nx {J : Env → DS → Prop} {Pr : D → DS → Prop} {ρ : Env} {s : DS} : GoO J Pr (.nx ρ) s = J ρ s := (rfl)
@[simp] theorem GoO_rt {J : Env → DS → Prop} {Pr : D → DS → Prop} {d : D} {s : DS} : GoO J Pr (.rt d) s = Pr d s := (rfl)
theorem loop_WP {γ : Type} {g : Tg} {b : MS} {enc : γ → D} (J : Nat → Env → DS → Prop) (Pr : D → DS → Prop) : ∀ {xs : List γ} (k : Nat) {ρ : Env} {s : DS}, (∀ i x, xs[i]? = some x → ∀ ρ s, J (k + i) ρ s → W (R.bind (ofO (g (enc x) ρ) s) fun ρ1 s => b ρ1 s) (GoO (J (k + i + 1)) Pr)) → J k ρ s → W (mLoop g b (xs.map enc) ρ s) (GoO (J (k + xs.length)) Pr)
  | [], k, ρ, s, _, h => ⟨.nx ρ, s, rfl, h⟩
  | x :: xs, k, ρ, s, hk, h => by
    obtain ⟨o, s1, e1, p1⟩ := hk 0 x rfl ρ s h
    rw [List.map_cons, loop_cons, e1, bindk]
    cases o with
    | nx ρ1 =>
      have := loop_WP J Pr (xs := xs) (k + 1) (ρ := ρ1) (s := s1) (fun i y hy ρ s hJ => by
        have e : k + 1 + i = k + (i + 1) := by omega
        rw [e] at hJ ⊢
        exact hk (i + 1) y (by simpa using hy) ρ s hJ) p1
      rw [List.length_cons, show k + (xs.length + 1) = k + 1 + xs.length by omega]
      exact this
    | rt d => exact ⟨.rt d, s1, rfl, p1⟩
    | bk => exact p1.elim
    | ct => exact p1.elim
theorem pop_at {xs : Ds} {r : Nat} {x : D} (h : xs[r]? = some x) (hr : r < 1000000) : popD xs (.int (r : Int)) = some (x, xs.eraseIdx r) := by
  have hl : r < xs.length := by
    by_cases c : r < xs.length
    · exact c
    · rw [List.getElem?_eq_none (by omega)] at h; cases h
  have e : seqIndex? (r : Int) xs.length = some r := by
    unfold seqIndex?
    simp
    omega
  have hc : -(2 ^ 63) ≤ (r : Int) ∧ (r : Int) < 2 ^ 63 := by omega
  unfold popD
  simp only
  rw [if_pos hc, e, Option.bind_some, h]
  rfl
end RS

namespace LawK
open PySem PySem.Spec RS LA L2
/-! ### rows mixed: the same sums -/
section
variable {q : Nat} [Pr q]
theorem same_pop {A : List (Vec q)} {B : List (Vec q)} {p : Nat} {v : Vec q} (h : B[p]? = some v) {c : Fin q} (hc : c ≠ 0) : Same ((A ++ [fun i => c * v i]) ++ B.eraseIdx p) (A ++ B) := by
  have hv : v ∈ B := List.mem_of_getElem? h
  refine Same.of (fun r hr => ?_) (fun r hr => ?_)
  · simp only [List.mem_append, List.mem_singleton] at hr
    rcases hr with (hr | rfl) | hr
    · exact Span.mem (List.mem_append_left _ hr)
    · exact (Span.mem (List.mem_append_right _ hv)).smul c
    · exact Span.mem (List.mem_append_right _ (List.mem_of_mem_eraseIdx hr))
  · have hnew : Span ((A ++ [fun i => c * v i]) ++ B.eraseIdx p) v := by
      have h1 : Span ((A ++ [fun i => c * v i]) ++ B.eraseIdx p) fun i => c * v i := Span.mem (by simp)
      have h2 := h1.smul (inv c)
      have := inv_mul hc
      exact h2.congr fun i => by grind
    rcases List.mem_append.mp hr with hr | hr
    · exact Span.mem (by simp [hr])
    · by_cases e : r = v
      · rw [e]; exact hnew
      · refine Span.mem (List.mem_append_right _ ?_)
        have hp : p < B.length := by
          by_cases c : p < B.length
          · exact c
          · rw [List.getElem?_eq_none (by omega)] at h; cases h
        rw [List.mem_iff_getElem?] at hr
        obtain ⟨i, hi⟩ := hr
        have hne : i ≠ p := fun e2 => e (by rw [e2, h] at hi; exact (Option.some.inj hi).symm)
        rw [List.mem_eraseIdx_iff_getElem?]
        exact ⟨i, hne, hi⟩
theorem same_add {A : List (Vec q)} {i j : Nat} {u v : Vec q} (hi : A[i]? = some u) (hj : A[j]? = some v) (hne : i ≠ j) {t : Fin q} : Same (A.set i fun k => u k + t * v k) A := by
  have il : i < A.length := by
    by_cases c : i < A.length
    · exact c
    · rw [List.getElem?_eq_none (by omega)] at hi; cases hi
  have hv' : v ∈ A.set i fun k => u k + t * v k := by
    rw [List.mem_iff_getElem?]
    exact ⟨j, by rw [List.getElem?_set_ne hne]; exact hj⟩
  refine Same.of (fun r hr => ?_) (fun r hr => ?_)
  · rcases List.mem_or_eq_of_mem_set hr with hr | rfl
    · exact Span.mem hr
    · exact (Span.mem (List.mem_of_getElem? hi)).axpy t (Span.mem (List.mem_of_getElem? hj))
  · rw [List.mem_iff_getElem?] at hr
    obtain ⟨k, hk⟩ := hr
    by_cases e : k = i
    · subst e
      rw [hi] at hk
      cases hk
      have h1 : Span (A.set k fun x => u x + t * v x) fun x => u x + t * v x := Span.mem (by
        rw [List.mem_iff_getElem?]
        exact ⟨k, by rw [List.getElem?_set_self il]⟩)
      exact (h1.axpy (-t) (Span.mem hv')).congr fun x => by grind
    · refine Span.mem ?_
      rw [List.mem_iff_getElem?]
      exact ⟨k, by rw [List.getElem?_set_ne (Ne.symm e)]; exact hk⟩
theorem er_map {α β : Type} {f : α → β} : ∀ {l : List α} {i : Nat}, (l.eraseIdx i).map f = (l.map f).eraseIdx i
  | [], _ => rfl
  | _ :: _, 0 => rfl
  | x :: l, i + 1 => congrArg (f x :: ·) (er_map (l := l) (i := i))
theorem toF_ne {r : Nat} (h : r < q - 1) : (toF (1 + (r : Int)) : Fin q) ≠ 0 := by
  intro e
  have h1 := congrArg Fin.val e
  have h2 : (((toF (1 + (r : Int)) : Fin q).val : Nat) : Int) = (1 + (r : Int)) % (q : Int) := toF_val
  rw [Int.emod_eq_of_lt (by omega) (by omega), h1] at h2
  have : ((0 : Fin q).val : Int) = 0 := rfl
  omega
end
section
variable {q n : Nat} [Pr q]
def mrE (q n : Nat) [Pr q] (L : List (Vec q)) (a3 a4 a6 a7 a8 : Option Sl) (i : Nat) (ρ : RS.Env) (s : DS) : Prop := (∃ So Lf o5 o11 o12, Sups n So ∧ Sups n Lf ∧ Same (So ++ Lf) L ∧ So.length = i ∧ So.length + Lf.length = L.length ∧
  ρ = [some (.val .deck), some (.val (.int q)), some (.val (.int n)), a3, a4, o5, a6, a7, a8, some (.own (.lst (So.map (encV n)))), some (.own (.lst (Lf.map (encV n)))), o11, o12]) ∧ Wf "draws" s
def mrB1 (C : Tab) : MS := (mAppX 9 (mCallX (lenG 3 (C "_law_times")) (mConsX (mLift (mVar 1)) (mConsX (mPopX 10 (mLift (mCallD (lenG 2 (C "_law_draw")) (mCons (mVar 0) (mCons (mCall bLen (mCons (mPeek 10) mNil)) mNil))))) (mConsX (mLift (mBin .Add (mC (.int (1))) (mCallD (lenG 2 (C "_law_draw")) (mCons (mVar 0) (mCons (mBin .Sub (mPeek 1) (mC (.int (1)))) mNil))))) mNilX)))))
theorem mr_step1 (hn : n ≤ 12) {L : List (Vec q)} (hl : L.length ≤ 30) {a3 a4 a6 a7 a8 : Option Sl} {i : Nat} (hi : i < L.length) {k : Nat} {ρ : RS.Env} {s : DS} (hJ : mrE q n L a3 a4 a6 a7 a8 i ρ s) :
    W (R.bind (ofO (gN 5 (.int (i : Int)) ρ) s) fun ρ1 s => mrB1 (callD ct (k + 3)) ρ1 s) (GoO (mrE q n L a3 a4 a6 a7 a8 (i + 1)) fun _ _ => False) := by
  obtain ⟨⟨So, Lf, o5, o11, o12, h1, h2, h3, h4, h5, rfl⟩, hs⟩ := hJ
  have hlm : Lm n := Lm.of (by omega)
  have q2 := Pr.two (q := q)
  have q5 := Pr.five (q := q)
  have hl1 : Lm (So.length + 1) := Lm.of (by omega)
  unfold mrB1
  simp [W_bind]
  refine W_imp (drw.go (k + 2) s Lf.length hs (by omega) (by omega)) ?_
  rintro d s1 ⟨⟨r, hr, rfl⟩, hs1⟩
  obtain ⟨v, hv⟩ : ∃ v, Lf[r]? = some v := ⟨_, List.getElem?_eq_getElem hr⟩
  have hv2 : (Lf.map (encV n))[r]? = some (encV n v) := by rw [List.getElem?_map, hv]; rfl
  have hp := pop_at hv2 (by omega)
  have eq1 : ((q : Int) - 1) = ((q - 1 : Nat) : Int) := by omega
  simp [hp, eq1, W_bind]
  refine W_imp (drw.go (k + 2) s1 (q - 1) hs1 (by omega) (by omega)) ?_
  rintro d s2 ⟨⟨t, ht, rfl⟩, hs2⟩
  have et := fun s => ev_ltimes (k := k + 2) (s := s) i__law_times hlm v (1 + (t : Int))
  have hc := toF_ne ht
  simp at et hc
  simp [et, hl1]
  refine ⟨⟨So ++ [fun i => (1 + toF (t : Int)) * v i], Lf.eraseIdx r, some (.val (.int (i : Int))), o11, o12, ?_, ?_, ?_, ?_, ?_, ?_⟩, hs2⟩
  · refine h1.append fun x hx => ?_
    rw [List.mem_singleton.mp hx]
    intro i hi
    show (1 + toF (t : Int)) * v i = 0
    rw [h2 v (List.mem_of_getElem? hv) i hi]; grind
  · exact fun x hx => h2 x (List.mem_of_mem_eraseIdx hx)
  · exact (same_pop hv hc).trans h3
  · simp [h4]
  · simp [List.length_eraseIdx, hr]; omega
  · simp [er_map]
def mrB2 (C : Tab) : MS := (mSeq (mAsg (mCallD (lenG 2 (C "_law_draw")) (mCons (mVar 0) (mCons (mCall bLen (mCons (mPeek 9) mNil)) mNil))) (gN 11))
    (mSeq (mAsg (mBin .Mod (mCall bInt (mCons (mBin .Add (mBin .Add (mPeek 11) (mC (.int (1)))) (mCallD (lenG 2 (C "_law_draw")) (mCons (mVar 0) (mCons (mBin .Sub (mCall bLen (mCons (mPeek 9) mNil)) (mC (.int (1)))) mNil)))) mNil)) (mCall bLen (mCons (mPeek 9) mNil))) (gN 12))
    (mPut 9 (mCallD (lenG 4 (C "_law_plus")) (mCons (mVar 1) (mCons (mIxM (mPeek 9) (mPeek 11)) (mCons (mIxM (mPeek 9) (mPeek 12)) (mCons (mCallD (lenG 2 (C "_law_draw")) (mCons (mVar 0) (mCons (mVar 1) mNil))) mNil))))) (mPeek 11))))
def mrE2 (q n : Nat) [Pr q] (L : List (Vec q)) (a3 a4 a6 a7 a8 a10 : Option Sl) (ρ : RS.Env) (s : DS) : Prop := (∃ So o5 o11 o12, Sups n So ∧ Same So L ∧ So.length = L.length ∧
  ρ = [some (.val .deck), some (.val (.int q)), some (.val (.int n)), a3, a4, o5, a6, a7, a8, some (.own (.lst (So.map (encV n)))), a10, o11, o12]) ∧ Wf "draws" s
theorem mod_ne {i t l : Nat} (hi : i < l) (ht : t < l - 1) : ∃ j : Nat, j < l ∧ i ≠ j ∧ ((i : Int) + 1 + (t : Int)) % (l : Int) = (j : Int) := by
  refine ⟨(i + 1 + t) % l, Nat.mod_lt _ (by omega), ?_, by push_cast; rfl⟩
  by_cases c : i + 1 + t < l
  · rw [Nat.mod_eq_of_lt c]; omega
  · rw [Nat.mod_eq_sub_mod (by omega), Nat.mod_eq_of_lt (by omega)]; omega
theorem put_lst {xs : Ds} {i : Nat} {v : D} (h : i < xs.length) : dPut (.lst xs) (.int (i : Int)) v = some (.lst (xs.set i v)) := by
  have e : L2.ixN xs.length (i : Int) = some i := by
    unfold L2.ixN
    rw [if_pos (by omega), if_pos (by omega)]; simp
  show (L2.ixN xs.length (i : Int)).map (fun j => D.lst (xs.set j v)) = _
  rw [e]; rfl
theorem mr_step2 (hn : n ≤ 12) {L : List (Vec q)} (hl : L.length ≤ 30) (hl2 : 1 < L.length) {a3 a4 a6 a7 a8 a10 : Option Sl} {i : Nat} {k : Nat} {ρ : RS.Env} {s : DS} (hJ : mrE2 q n L a3 a4 a6 a7 a8 a10 ρ s) :
    W (R.bind (ofO (gN 5 (.int (i : Int)) ρ) s) fun ρ1 s => mrB2 (callD ct (k + 3)) ρ1 s) (GoO (mrE2 q n L a3 a4 a6 a7 a8 a10) fun _ _ => False) := by
  obtain ⟨⟨So, o5, o11, o12, h1, h2, h3, rfl⟩, hs⟩ := hJ
  have hlm : Lm n := Lm.of (by omega)
  have q2 := Pr.two (q := q)
  have q5 := Pr.five (q := q)
  unfold mrB2
  simp [W_bind]
  refine W_imp (drw.go (k + 2) s So.length hs (by omega) (by omega)) ?_
  rintro d s1 ⟨⟨r, hr, rfl⟩, hs1⟩
  have eq1 : ((So.length : Int) - 1) = ((So.length - 1 : Nat) : Int) := by omega
  simp [eq1, W_bind]
  refine W_imp (drw.go (k + 2) s1 (So.length - 1) hs1 (by omega) (by omega)) ?_
  rintro d s2 ⟨⟨t, ht, rfl⟩, hs2⟩
  obtain ⟨j, j1, j2, j3⟩ := mod_ne hr ht
  have hlp : (0 : Int) < (So.length : Int) := by omega
  obtain ⟨u, hu⟩ : ∃ v, So[r]? = some v := ⟨_, List.getElem?_eq_getElem hr⟩
  obtain ⟨v, hv⟩ : ∃ v, So[j]? = some v := ⟨_, List.getElem?_eq_getElem j1⟩
  have e1 := at_map (f := encV n) hu
  have e2 := at_map (f := encV n) hv
  simp [mod_pos hlp, j3, e1, e2, deckO, W_bind]
  refine W_imp (drw.go (k + 2) s2 q hs2 (by omega) (by omega)) ?_
  rintro d s3 ⟨⟨t2, ht2, rfl⟩, hs3⟩
  have et := fun s => ev_lplus (k := k + 2) (s := s) i__law_plus hlm u v (t2 : Int)
  have ep := put_lst (xs := So.map (encV n)) (i := r) (v := encV n fun i => u i + toF (t2 : Int) * v i) (by simpa using hr)
  simp [et, ep]
  refine ⟨⟨So.set r fun i => u i + toF (t2 : Int) * v i, some (.val (.int (i : Int))), some (.val (.int (r : Int))), some (.val (.int (j : Int))), ?_, ?_, ?_, ?_⟩, hs3⟩
  · intro x hx
    rcases List.mem_or_eq_of_mem_set hx with hx | rfl
    · exact h1 x hx
    · intro i hi
      show u i + toF (t2 : Int) * v i = 0
      rw [h1 u (List.mem_of_getElem? hu) i hi, h1 v (List.mem_of_getElem? hv) i hi]; grind
  · exact (same_add hu hv j2).trans h2
  · simp [h3]
  · simp [List.map_set]
theorem str_assoc {a b c : Str} : a ++ b ++ c = a ++ (b ++ c) := by
  show (⟨(a.cps ++ b.cps) ++ c.cps⟩ : Str) = ⟨a.cps ++ (b.cps ++ c.cps)⟩
  rw [Array.append_assoc]
theorem shown_pair {a b : D} : (D.tup [a, b]).py.shown = "(" ++ a.py.shown ++ ", " ++ b.py.shown ++ ")" := by
  show (PyData.tuple [a.py, b.py]).shown = _
  rw [PyData.shown_tuple]
  show ("(" : Str) ++ Str.join ", " [a.py.shown, b.py.shown] ++ ((")" : String) : Str) = _
  have : Str.join ", " [a.py.shown, b.py.shown] = a.py.shown ++ ", " ++ b.py.shown := rfl
  rw [this]
  simp only [str_assoc]
end
end LawK

namespace LawK
open PySem PySem.Spec RS LA L2
section
variable {q n : Nat} [Pr q]
theorem an_B (h3 : n ≤ 12) {L : List (Vec q)} (hL : Plain n L) : An 0 31000 3 (encB q n L) := by
  have hl := hL.len
  have q5 := Pr.five (q := q)
  have aT : An 0 30003 2 (encT n L) := (as_basis (L := L) (by omega) h3).tup
  exact (an_3 (an_q (by omega)) (an_q (by omega)) aT).mono
theorem an_T (h3 : n ≤ 12) {L : List (Vec q)} (hl : L.length ≤ 30) : An 0 76000 2 (encT n L) :=
  ((as_rows (j := 0) (m := 30) (n := n) hl (Nat.le_refl 1)).tup).mono (Nat.le_refl _) (by omega) (Nat.le_refl _)
theorem an_len {j n' k : Nat} {d : D} (h : An j n' k d) (hj : j ≤ 1000) : d.py.shown.length ≤ n' := Nat.le_trans (shown_le d (av_ok hj d h.av)) h.sz
theorem strlen {a b : Str} : (a ++ b).length = a.length + b.length := strLen_append a b
theorem ev_made (h2 : 2 ≤ n) (h3 : n ≤ 12) {w : Int} {m : Nat} {s : DS} (hs : Wf "draws" s) (hm : 12 ≤ m) : W (callD ct m "_law_is_made_right" [.deck, .int q, .int n, .int w] s) fun d s' => d = .bl true ∧ Wf "draws" s' := by
  obtain ⟨c, rfl⟩ : ∃ c, m = c + 12 := ⟨m - 12, by omega⟩
  rw [callD_has l__law_is_made_right rfl]
  unfold F__law_is_made_right
  have q2 := Pr.two (q := q)
  have q5 := Pr.five (q := q)
  have hlm : Lm n := Lm.of (by omega)
  have l0 : lim = 16777216 := rfl
  have en2 : ((n : Int) + 2) = ((n + 2 : Nat) : Int) := rfl
  simp [W_bind]
  rw [en2]
  refine W_imp (drw.go (c + 10) s (n + 2) hs (by omega) (by omega)) ?_
  rintro d s1 ⟨⟨r, hr, rfl⟩, hs1⟩
  have hlr : Lm r := Lm.of (by omega)
  simp [hlr, W_bind]
  refine W_imp (lcF_W (J := Wf "draws") (Q := fun (_ : Nat) y => ∃ v : Vec q, Sup n v ∧ y = encV n v) (fun i hi s hs => ?_) hs1) ?_
  · simp [W_bind]
    refine W_imp (ev_drawn_row (k := c + 8) (q := q) i__law_drawn_row drw hs hlm) ?_
    rintro d s' ⟨⟨v, hv, rfl⟩, hs'⟩
    simp [hs']
    exact ⟨v, hv, rfl⟩
  rintro ys s2 ⟨hs2, ha⟩
  obtain ⟨L0, rfl, a2⟩ := ha.choose
  have hL0 : Sups n L0 := All2.right (p := Sup n) (fun _ _ h => h) a2
  have hl0 : L0.length ≤ 13 := by
    have := a2.len
    simp at this
    omega
  refine W_imp (drw.go (c + 10) s2 2 hs2 (by omega) (by omega)) ?_
  rintro d s3 ⟨⟨r2, hr2, rfl⟩, hs3⟩
  have e1 : dBin .Add (.tup (L0.map (encV n))) (.tup ((L0.map (encV n)).take r2)) = some (encT n (L0 ++ L0.take r2)) := by
    rw [cat_t (by simp; omega), ← List.map_take, ← List.map_append]; rfl
  have hL : Sups n (L0 ++ L0.take r2) := hL0.append fun x hx => hL0 x (List.mem_of_mem_take hx)
  have hl : (L0 ++ L0.take r2).length ≤ 26 := by simp; omega
  generalize L0 ++ L0.take r2 = L at e1 hL hl
  have ep := fun s => ev_lplain_T (k := c + 9) (s := s) i__law_plain (n := n) (by omega) (by omega) hL
  have eb := fun s => ev_book_of (k := c + 6) (s := s) i_book_of h2 (by omega) hL
  have ed := fun s => ev_dimension (k := c + 4) (s := s) i_dimension h2 (by omega) (pl_plain hL)
  have hod : ordV ["q", "n", "rows"] ["rows", "n", "q"] [] [encT n L, .int (n : Int), .int (q : Int)] = [.int (q : Int), .int (n : Int), encT n L] := rfl
  have hod2 : ∀ d : D, ordV ["book"] ["book"] [] [d] = [d] := fun _ => rfl
  have eB : D.tup [.int (q : Int), .int (n : Int), encT n (pl n L)] = encB q n (pl n L) := rfl
  have aB := an_B h3 (pl_plain hL)
  have aT := an_T h3 (L := L) (by omega)
  have rB := aB.rp
  have rT := aT.rp
  have r2' : Rp (.tup [encB q n (pl n L), encT n L]) := (an_2 aB (aT.mono (Nat.le_refl _) (Nat.le_refl _) (by omega : 2 ≤ 3))).rp
  have hpl := (pl_plain hL).len
  have rD : Rp (.int ((pl n L).length : Int)) := (an_q (i := (pl n L).length) (by omega) (k := 1)).rp
  have s1' := an_len aB (by omega)
  have s2' := an_len aT (by omega)
  have c1 := cat_s (x := "(") (y := (encB q n (pl n L)).py.shown) (by show 1 + _ ≤ _; omega)
  have c2 := cat_s (x := "(" ++ (encB q n (pl n L)).py.shown) (y := ", ") (by rw [strlen]; show 1 + _ + 2 ≤ _; omega)
  have c3 := cat_s (x := "(" ++ (encB q n (pl n L)).py.shown ++ ", ") (y := (encT n L).py.shown) (by rw [strlen, strlen]; show 1 + _ + 2 + _ ≤ _; omega)
  have c4 := cat_s (x := "(" ++ (encB q n (pl n L)).py.shown ++ ", " ++ (encT n L).py.shown) (y := ")") (by rw [strlen, strlen, strlen]; show 1 + _ + 2 + _ + 1 ≤ _; omega)
  have hsq : bList [encT n L] = some (L.map (encV n)) := rfl
  have book_told : (if w = 0 then R.ok (encB q n (pl n L)) s3 else R.ok (encB q n (pl n L)) s3) = R.ok (encB q n (pl n L)) s3 := by split <;> rfl
  have rL : dRng1 (.int (L.length : Int)) = some ((List.range L.length).map fun i : Nat => .int (i : Int)) := rng1_nat (Lm.of (by omega))
  simp [sl_to_t', e1, ep, eB, rT, eb, hod, book_told, r2', rB, shown_pair, c1, c2, c3, c4, ed, ix_B2, len_T, rD, hsq, rL, W_bind]
  refine W_imp (loop_WP (b := mrB1 (callD ct (c + 11))) (enc := fun i : Nat => .int (i : Int)) (xs := List.range L.length) (mrE q n L (some (.val (.int w))) (some (.val (encT n L))) (some (.val (encB q n (pl n L)))) (some (.val (.str (encT n L).py.shown))) (some (.val (encB q n (pl n L))))) (fun _ _ => False) 0 (fun i x hx ρ s hJ => ?_) ⟨⟨[], L, none, none, none, (fun _ h => by cases h), hL, Same.refl _, rfl, by simp, rfl⟩, hs3⟩) ?_
  · have hi : i < L.length ∧ i = x := by
      rw [List.getElem?_eq_some_iff] at hx
      obtain ⟨h1, h2⟩ := hx
      simp at h1 h2
      exact ⟨h1, h2⟩
    obtain ⟨hi, rfl⟩ := hi
    rw [Nat.zero_add] at hJ ⊢
    exact mr_step1 (k := c + 8) h3 (by omega) hi hJ
  rintro o s4 h
  cases o with
  | rt d => exact h.elim
  | bk => exact h.elim
  | ct => exact h.elim
  | nx ρ =>
    obtain ⟨⟨So, Lf, o5, o11, o12, hSo, hLf, hsame, hlS, hlT, rfl⟩, hs4⟩ := h
    have hlS : So.length = L.length := by simpa using hlS
    have hLf0 : Lf = [] := List.length_eq_zero_iff.mp (by omega)
    subst hLf0
    rw [List.append_nil] at hsame
    have fin : ∀ (ρ : RS.Env) (s : DS), mrE2 q n L (some (.val (.int w))) (some (.val (encT n L))) (some (.val (encB q n (pl n L)))) (some (.val (.str (encT n L).py.shown))) (some (.val (encB q n (pl n L)))) (some (.own (.lst []))) ρ s →
      W (mRet (mIf (mAsB (mBl (mCmpB .Eq (mCall bRepr (mCons (mCallD (lenG 3 (callD ct (c + 11) "book_of")) (mCons (mVar 1) (mCons (mVar 2) (mCons (mCall bTuple (mCons (mPeek 9) mNil)) mNil)))) mNil)) (mCall bRepr (mCons (mPeek 6) mNil))))) (mBl (mCmpB .Eq (mCall bRepr (mCons (mKw0 ["book"] ["book"] (callD ct (c + 11) "dimension") (mCons (mVar 6) mNil)) mNil)) (mCall bRepr (mCons (mCall bLen (mCons (mIxM (mPeek 6) (mC (.int (2)))) mNil)) mNil)))) fun _ => pure (.bl false)) ρ s) fun b s => W (finO b s) fun d s' => d = .bl true ∧ Wf "draws" s' := by
      rintro ρ s ⟨⟨Sf, o5, o11, o12, g1, g2, g3, rfl⟩, hs⟩
      have eq : pl n Sf = pl n L := pl_eq g1 hL g2
      have eb2 := fun s => ev_book_of (k := c + 6) (s := s) i_book_of h2 (by omega) g1
      rw [eq] at eb2
      have eT : D.tup (Sf.map (encV n)) = encT n Sf := rfl
      simp [eT, eb2, rB, hod2, ed, ix_B2, len_T, rD, hs]
    have tail : ∀ (ρ : RS.Env) (s : DS) (r : Nat), r ≤ 4 → (1 < L.length ∨ r = 0) → mrE2 q n L (some (.val (.int w))) (some (.val (encT n L))) (some (.val (encB q n (pl n L)))) (some (.val (.str (encT n L).py.shown))) (some (.val (encB q n (pl n L)))) (some (.own (.lst []))) ρ s →
      W (mLoop (gN 5) (mrB2 (callD ct (c + 11))) ((List.range r).map fun i : Nat => .int (i : Int)) ρ s) (GoO (mrE2 q n L (some (.val (.int w))) (some (.val (encT n L))) (some (.val (encB q n (pl n L)))) (some (.val (.str (encT n L).py.shown))) (some (.val (encB q n (pl n L)))) (some (.own (.lst [])))) fun _ _ => False) := fun ρ s r hr hc h0 => by
      rcases hc with hc | rfl
      · exact loop_WP (b := mrB2 (callD ct (c + 11))) (enc := fun i : Nat => .int (i : Int)) (xs := List.range r) (fun _ => mrE2 q n L (some (.val (.int w))) (some (.val (encT n L))) (some (.val (encB q n (pl n L)))) (some (.val (.str (encT n L).py.shown))) (some (.val (encB q n (pl n L)))) (some (.own (.lst [])))) (fun _ _ => False) 0 (fun i x hx ρ s hJ => mr_step2 (k := c + 8) h3 (by omega) hc hJ) h0
      · exact ⟨.nx ρ, s, rfl, h0⟩
    have start : mrE2 q n L (some (.val (.int w))) (some (.val (encT n L))) (some (.val (encB q n (pl n L)))) (some (.val (.str (encT n L).py.shown))) (some (.val (encB q n (pl n L)))) (some (.own (.lst []))) [some (.val .deck), some (.val (.int q)), some (.val (.int n)), some (.val (.int w)), some (.val (encT n L)), o5, some (.val (encB q n (pl n L))), some (.val (.str (encT n L).py.shown)), some (.val (encB q n (pl n L))), some (.own (.lst (So.map (encV n)))), some (.own (.lst [])), o11, o12] s4 :=
      ⟨⟨So, o5, o11, o12, hSo, hsame, hlS, rfl⟩, hs4⟩
    by_cases c1 : 1 < L.length
    · have e9 : ((1 : Int) < (L.length : Int)) = True := eq_true (by omega)
      simp [hlS, e9, W_bind]
      refine W_imp (drw.go (c + 10) s4 4 hs4 (by omega) (by omega)) ?_
      rintro d s5 ⟨⟨r, hr, rfl⟩, hs5⟩
      have rr : dRng1 (.int (r : Int)) = some ((List.range r).map fun i : Nat => .int (i : Int)) := rng1_nat (Lm.of (by omega))
      rw [rr, ofO_some, W_ok]
      refine W_imp (tail _ s5 r (by omega) (.inl c1) ⟨start.1, hs5⟩) ?_
      rintro o s6 h
      cases o with
      | rt d => exact h.elim
      | bk => exact h.elim
      | ct => exact h.elim
      | nx ρ => exact fin ρ s6 h
    · have e9 : ((1 : Int) < (L.length : Int)) = False := eq_false (by omega)
      have r0 : dRng1 (.int 0) = some [] := rfl
      simp [hlS, e9, c1, r0, loop_nil, W_bind]
      have := fin _ _ start
      simpa [W_bind] using this
end
end LawK

namespace LawK
open PySem PySem.Spec RS LA L2
theorem ev_is_book {j n' k : Nat} {d : D} (hd : An j n' k d) (hj : j ≤ 1000) (hn' : n' ≤ 8000000) {m : Nat} {s : DS} (hm : 6 ≤ m) : callD ct m "is_book" [d] s = .ok (.bl (isBook d)) s := by
  obtain ⟨c, rfl⟩ : ∃ c, m = c + 6 := ⟨m - 6, by omega⟩
  rw [callD_has l_is_book rfl]
  unfold F_is_book
  have e := ev_is_book_any (s := s) i_is_book_value hd hj hn' (m := c + 5) (by omega)
  simp [e]
def LwE (ns : List Int) (ρ : RS.Env) (s : DS) : Prop := (∃ o2 o3 o4 o5 o6 o7 o8 o9, ρ = [some (.val (.scr ns)), some (.val .deck), o2, o3, o4, o5, o6, o7, o8, o9]) ∧ Wf "draws" s
def lawQ (C : Tab) : MS := (mSeq (mPar2 6 7 (mCons (mCallD (lenG 1 (C "_law_is_book")) (mCons (mVar 3) mNil)) (mCons (mCall bRepr (mCons (mPeek 3) mNil)) mNil)))
    (mSeq (mAsg (mIf (mCmpB .Eq (mPeek 5) (mC (.int (0)))) (mCallD (lenG 1 (C "is_book")) (mCons (mVar 3) mNil)) (mKw0 ["thing"] ["thing"] (C "is_book") (mCons (mVar 3) mNil))) (gN 4))
    (mIf (mOrB (mCmpB .NotEq (mCall bRepr (mCons (mTup (mCons (mVar 4) (mCons (mCallD (lenG 1 (C "is_book")) (mCons (mVar 3) mNil)) mNil))) mNil)) (mCall bRepr (mCons (mTup (mCons (mVar 6) (mCons (mVar 6) mNil))) mNil))) (mCmpB .NotEq (mCall bRepr (mCons (mPeek 3) mNil)) (mPeek 7))) (mRet (mC (.bl false))) mNext)))
def lawS (C : Tab) : MS := (mSeq (mIf (mTru (mCallD (lenG 1 (C "_law_is_beyond")) (mCons (mVar 3) mNil))) (mAsg (mTup (mCons (mC (.int (2))) (mCons (mC (.int (3))) mNil))) (gN 3)) mNext) (lawQ C))
def lawR (C : Tab) : MS := (mSeq (mAsg (mCallD (lenG 2 (C "_law_thing")) (mCons (mVar 1) (mCons (mCallD (lenG 3 (C "_law_drawn_book")) (mCons (mVar 1) (mCons (mVar 8) (mCons (mVar 9) mNil)))) mNil))) (gN 3))
    (mSeq (mIf (mCmpB .Gt (mPeek 2) (mC (.int (4)))) (mAsg (mCallD (lenG 2 (C "_law_often_bent")) (mCons (mVar 1) (mCons (mVar 3) mNil))) (gN 3)) mNext) (lawS C)))
def lawB (C : Tab) : MS := (mSeq (mAsg (mTup (mCons (mCallD (lenG 1 (C "_law_sizes")) (mCons (mVar 1) mNil)) (mCons (mBin .BitAnd (mPeek 2) (mC (.int (1)))) mNil))) (gTp (gCn (gTp (gCn (gN 8) (gCn (gN 9) gNl)) 2) (gCn (gN 5) gNl)) 2))
    (mSeq (mIf (mAndB (mCmpB .Lt (mPeek 2) (mC (.int (3)))) (mNotB (mTru (mCallD (lenG 4 (C "_law_is_made_right")) (mCons (mVar 1) (mCons (mVar 8) (mCons (mVar 9) (mCons (mVar 5) mNil)))))))) (mRet (mC (.bl false))) mNext) (lawR C)))
theorem rp_bls {a b : Bool} : Rp (.tup [.bl a, .bl b]) := (an_2 (k := 0) (An.bl (n := 5) (Nat.le_refl _)) (An.bl (n := 5) (Nat.le_refl _))).rp
/-- what is asked of a thing -/
theorem ask {m : Nat} (hm : 8 ≤ m) {ns : List Int} {d : D} (hd : An 2 300000 10 d) {w : Int} {o2 o4 o6 o7 o8 o9 : Option Sl} {s : DS} (hs : Wf "draws" s) :
    W (lawQ (callD ct m)
      [some (.val (.scr ns)), some (.val .deck), o2, some (.val d), o4, some (.val (.int w)), o6, o7, o8, o9] s) (GoO (LwE ns) fun _ _ => False) := by
  have e1 := fun s => ev_is_book (s := s) (m := m) hd (by omega) (by omega) (by omega)
  have e2 := fun s => ev_lis_book (s := s) i__law_is_book (m := m) hd (by omega) (by omega) (by omega)
  have rd := hd.rp
  have od : ordV ["thing"] ["thing"] [] [d] = [d] := rfl
  have told : ∀ s : DS, (if w = 0 then R.ok (D.bl (isBook d)) s else R.ok (D.bl (isBook d)) s) = R.ok (.bl (isBook d)) s := fun s => by split <;> rfl
  unfold lawQ
  simp [e1, e2, rd, od, told, rp_bls]
  exact ⟨⟨_, _, _, _, _, _, _, _, rfl⟩, hs⟩
theorem step_S {m : Nat} (hm : 8 ≤ m) {ns : List Int} {d : D} (hd : An 2 300000 10 d) {w : Int} {o2 o4 o6 o7 o8 o9 : Option Sl} {s : DS} (hs : Wf "draws" s) :
    W (lawS (callD ct m) [some (.val (.scr ns)), some (.val .deck), o2, some (.val d), o4, some (.val (.int w)), o6, o7, o8, o9] s) (GoO (LwE ns) fun _ _ => False) := by
  obtain ⟨b, eb⟩ := ev_beyond (s := s) (m := m) hd (by omega) (by omega)
  unfold lawS
  cases b with
  | false =>
    simp [eb]
    exact ask hm hd hs
  | true =>
    simp [eb]
    exact ask hm ((an_2 (an_q (i := 2) (by omega) (k := 1)) (an_q (i := 3) (by omega))).mono (by omega) (by omega) (by omega)) hs
theorem step_R {m : Nat} (hm : 26 ≤ m) {ns : List Int} {t : Nat} {q n : Nat} [Pr q] (h2 : 2 ≤ n) (h3 : n ≤ 12) {w : Int} {o3 o4 o6 o7 : Option Sl} {s : DS} (hs : Wf "draws" s) :
    W (lawR (callD ct m) [some (.val (.scr ns)), some (.val .deck), some (.val (.int (t : Int))), o3, o4, some (.val (.int w)), o6, o7, some (.val (.int q)), some (.val (.int n))] s) (GoO (LwE ns) fun _ _ => False) := by
  obtain ⟨k, rfl⟩ : ∃ k, m = k + 26 := ⟨m - 26, by omega⟩
  unfold lawR
  simp [W_bind]
  refine W_imp (ev_drawn_book (k := k + 22) (q := q) i__law_drawn_book drw hs (by omega) (by omega)) ?_
  rintro d s1 ⟨⟨L, hL, rfl⟩, hs1⟩
  refine W_imp (ev_thing (m := k + 26) h2 h3 hL hs1 (by omega)) ?_
  rintro d s2 ⟨hd, hs2⟩
  by_cases c : 4 < t
  · have e : ((4 : Int) < (t : Int)) = True := eq_true (by omega)
    simp [e, W_bind]
    refine W_imp (ev_often i__law_often_bent drw (m := k + 26) (by omega) hd hs2 (by omega)) ?_
    rintro d s3 ⟨hd, hs3⟩
    exact step_S (by omega) (hd.mono (by omega) (by omega) (by omega)) hs3
  · have e : ((4 : Int) < (t : Int)) = False := eq_false (by omega)
    simp [e]
    exact step_S (by omega) (hd.mono (by omega) (by omega) (by omega)) hs2
theorem turn_step {k : Nat} {ns : List Int} {t : Nat} {ρ : RS.Env} {s : DS} (hJ : LwE ns ρ s) :
    W (R.bind (ofO (gN 2 (.int (t : Int)) ρ) s) fun ρ1 s => lawB (callD ct (k + 30)) ρ1 s) (GoO (LwE ns) fun _ _ => False) := by
  obtain ⟨⟨o2, o3, o4, o5, o6, o7, o8, o9, rfl⟩, hs⟩ := hJ
  unfold lawB
  simp [W_bind]
  refine W_imp (ev_sizes (m := k + 30) hs (by omega)) ?_
  rintro d s1 ⟨⟨q, n, hq, h2, h3, rfl⟩, hs1⟩
  haveI := hq
  by_cases c : t < 3
  · have e : ((t : Int) < 3) = True := eq_true (by omega)
    simp [e, W_bind]
    refine W_imp (ev_made (m := k + 30) h2 h3 hs1 (by omega)) ?_
    rintro d s2 ⟨rfl, hs2⟩
    simp
    exact step_R (by omega) h2 h3 hs2
  · have e : ((t : Int) < 3) = False := eq_false (by omega)
    simp [e]
    exact step_R (by omega) h2 h3 hs1
theorem ev : ∀ ns : List Int, ns.length ≤ 63 → ∃ s', callD ct 40 fLaw.x [.scr ns] none = .ok (.bl true) s' := by
  intro ns hn
  have key : W (callD ct 40 "law" [.scr ns] none) fun d _ => d = .bl true := by
    rw [callD_has l_law rfl]
    unfold F_law_k00
    have hd := deck_ev (k := 38) hn
    have r2 : dRng1 (.int 12) = some ((List.range 12).map fun i : Nat => .int (i : Int)) := rng1_nat (n := 12) (by simp)
    simp [W_bind, r2]
    refine W_imp hd ?_
    rintro d s ⟨rfl, hs⟩
    refine W_imp (loop_WP (b := lawB (callD ct 39)) (xs := List.range 12) (enc := fun i : Nat => .int (i : Int)) (fun _ => LwE ns) (fun _ _ => False) 0 (fun i x hx ρ s hJ => turn_step (k := 9) hJ) ⟨⟨_, _, _, _, _, _, _, _, rfl⟩, hs⟩) ?_
    rintro o s' h
    cases o with
    | nx ρ => simp
    | rt d => exact h.elim
    | bk => exact h.elim
    | ct => exact h.elim
  obtain ⟨d, s', e, rfl⟩ := key
  exact ⟨s', e⟩
end LawK

namespace LawK
open PySem PySem.Spec PyProof.Rows RS
abbrev R : PySem.W.OpenRow := PySem.W.OpenLaw.row PySem.Challenge.rw_roundstairs_k00_books_of_any_values
theorem okAll : (fis.all fun f => okDef P.main.body fis gls f) = true := by kernel_rfl
def lawIx : Nat := P.main.body.length - 1
def loose : List Str := (P.main.scope.names.map (·.1)).filter fun x => !(x == "law") && !(x == "__name__")
theorem run (w : World) : HandSHeadRun.RunEq R (PySem.W.view R.prog [lawIx]) (hookS 5 gls (faL P.main.body) (fnL P.main.body)) (obS 5 gls (faL P.main.body) (fnL P.main.body)) 20000 loose w := by
  intro os
  kernel_rfl
end LawK
open PySem PySem.W PySem.Calls PyProof.Rows
theorem PySem.Challenge.cw_roundstairs_k00_books_of_any_values_holds : PySem.Challenge.rw_roundstairs_k00_books_of_any_values.Holds := by
  w_on; o_law
  refine HandSHeadRun.head_any (r := LawK.R) (q := view LawK.R.prog [LawK.lawIx]) (H := RS.hookS 5 LawK.gls (RS.faL LawK.P.main.body) (RS.fnL LawK.P.main.body)) (ob := RS.obS 5 LawK.gls (RS.faL LawK.P.main.body) (RS.fnL LawK.P.main.body)) (M := 20000) (loose := LawK.loose) (d := HandSHeadRun.topDef LawK.R.prog LawK.lawIx) (kwd := []) RS.obS_eq
    (by kernel_rfl) (fun s => by kernel_rfl) LawK.run (by kernel_rfl) (by kernel_rfl) (by kernel_rfl) (by rfl) (by first | assumption | decide +kernel) (by decide +kernel) ⟨rfl, rfl, rfl, rfl, rfl, by decide +kernel⟩ ?hw ?hc
  case hw => w_witness2
  case hc =>
    refine RS.walkG (l := PySem.Challenge.rw_roundstairs_k00_books_of_any_values) (n := 63) (k := 40) (x := "script") rfl (by decide) (by kernel_rfl) ⟨rfl, by decide, by decide⟩ ?F
    intro w mg fa h Y G hmg0
    have hmg : mg ("law" : PySem.Str) = some (.ref fa) := by
      have e : (HandSHeadRun.topDef LawK.R.prog LawK.lawIx).name = ("law" : PySem.Str) := by kernel_rfl
      rw [← e]
      exact hmg0
    exact RS.law_F (f := LawK.fLaw) Y G LawK.ndAll LawK.okAll (List.mem_of_getElem? (i := LawK.fis.length - 1) (by rfl)) hmg (by kernel_rfl) (x := "script") rfl LawK.ev

