import PyProof.Rows.All
import HandS.ForMost
import HandS.Style
import HandS.TupAny
import HandS.TupMul
import HandS.Zip
import KE.GoesEnum
import KE.GoesMore
import HandS.ForExc
import HandS.Walk
import HandS.Wide
import HandS.Gcd
import HandS.TryMany
import HandS.CallSlots
import HandS.ExcInit
import HandS.ExcField
import HandS.IsInst
import HandS.Small
import HandS.FStr
import HandS.Rev
import HandS.Flow
import KE.KMathGC
import KE.KExcIs
import HandS.Star
import HandS.IterVal
import HandS.Defaults
import PySem.Challenge.RW_polybench_k04_common_divisors_of_integer
import Wide.All
import OpenK.AllK
import Wide.FinOn
set_option Elab.async false
set_option linter.all false
set_option maxRecDepth 100000
set_option maxHeartbeats 4000000
/-! DX: what the hand layer lacks: t[::-1] of a tuple, tuple * int for any int, enumerate over a tuple. -/
namespace DL
open PySem PySem.Spec PyProof.Rows L2 HT
section
variable {prog : Program} {w : World} {A : Around} {E : Value → Shared → Prop} {s : Shared}
theorem places_rev (n : Nat) : Builtin.Slice.slicePlaces ((n : Int) - 1) (-1) (-1) = n := by
  unfold Builtin.Slice.slicePlaces
  rw [if_neg (by omega)]
  by_cases h : n = 0
  · subst h; rfl
  · rw [if_pos (by omega)]
    have e : ((n : Int) - 1 - -1 - 1) / (- -1) + 1 = (n : Int) := by
      rw [show (- -1 : Int) = 1 by rfl, Int.ediv_one]; omega
    rw [e, Int.toNat_natCast]
theorem adjust_rev (n : Nat) : Builtin.Slice.sliceAdjust none none (-1) (n : Int) = ((n : Int) - 1, -1) := rfl
theorem sliceApplied_rev {sl : Addr} {vl vu vs : Value} {n : Nat} {Q : Int × Int × Nat → Shared → Prop} (hs : s.heap.IsSliceOf sl vl vu vs) (pl : IsPart vl none) (pu : IsPart vu none) (ps : IsPart vs (some (-1)))
    (h : Q ((n : Int) - 1, -1, n) s) : wpAny (model prog w) A (Builtin.Slice.sliceApplied (.ref sl) (pure (n : Int))) Q E s := by
  obtain ⟨o, ho, hc, hd⟩ := id hs
  unfold Builtin.Slice.sliceApplied Builtin.Slice.sliceFields
  refine wpAny_bind (wpAny_bind (wpAny_field ho hd (x := vl) rfl (wpAny_bind (wpAny_field ho hd (x := vu) rfl (wpAny_bind (wpAny_field ho hd (x := vs) rfl (wpAny_pure ?_)))))))
  refine wpAny_bind (HT.slicePart_ ps ?_)
  show wpAny _ _ (if ((-1 : Int) == 0) = true then _ else _) _ _ s
  rw [if_neg (by decide)]
  refine wpAny_bind (HT.slicePart_ pl (wpAny_bind (HT.slicePart_ pu (wpAny_bind (wpAny_pure ?_)))))
  show wpAny _ _ (match Builtin.Slice.sliceAdjust none none (-1) (n : Int) with | (lo, hi) => pure (lo, (-1 : Int), Builtin.Slice.slicePlaces lo hi (-1))) _ _ s
  rw [adjust_rev n]
  show wpAny _ _ (pure ((n : Int) - 1, (-1 : Int), Builtin.Slice.slicePlaces ((n : Int) - 1) (-1) (-1))) _ _ s
  rw [places_rev]
  exact wpAny_pure h
theorem pick_rev (xs : Array Value) : ((List.range xs.size).filterMap fun (m : Nat) => xs[(((xs.size : Int) - 1) + (m : Int) * (-1)).toNat]?).toArray = xs.toList.reverse.toArray := by
  congr 1
  have e0 : (List.range xs.size).map (fun m => xs.size - 1 - m) = (List.range xs.size).reverse := by
    refine List.ext_getElem (by simp) fun i h1 h2 => ?_
    rw [List.getElem_map, List.getElem_reverse, List.getElem_range, List.getElem_range, List.length_range]
  have e1 : (fun (m : Nat) => xs[(((xs.size : Int) - 1) + (m : Int) * (-1)).toNat]?) = (fun m => xs[xs.size - 1 - m]?) := by
    funext m
    rw [show (((xs.size : Int) - 1) + (m : Int) * (-1)).toNat = xs.size - 1 - m by omega]
  have e2 : (fun m => xs[xs.size - 1 - m]?) = (fun m => xs[m]?) ∘ (fun m => xs.size - 1 - m) := rfl
  rw [e1, e2, ← List.filterMap_map, e0, List.filterMap_reverse, PySem.W.krv_all]
theorem getItem_tuple_rev {t sl : Addr} {items : Array Value} {vl vu vs : Value} {Q : Value → Shared → Prop} (ht : IsTup s.heap t items) (hs : s.heap.IsSliceOf sl vl vu vs) (pl : IsPart vl none) (pu : IsPart vu none) (ps : IsPart vs (some (-1)))
    (h : Q (.ref s.heap.objs.size) { s with heap := s.heap.push { cls := .type "tuple", data := .seq items.toList.reverse.toArray } })
    (hsz : items.size ≤ sizeLine) : wpAny (model prog w) A (getItem (.ref t) (.ref sl)) Q E s := by
  have hrev : sizeOk (.seq items.toList.reverse.toArray) := by
    show items.toList.reverse.toArray.size ≤ sizeLine
    simpa using hsz
  obtain ⟨o, ho, hc, hd⟩ := id hs
  have hTs : s.TypeIs (.ref sl) "slice" := ⟨o, ho, hc⟩
  unfold getItem
  try with_reducible refine wpAny_holding ?_
  first | refine wpAny_bind (wpAny_pure ?_) | skip
  refine wpAny_bind (wpAny_sequenceKey ht.typeIs (by decide) ?_)
  refine wpAny_bind (wpAny_callSpecial?_slot (name := Str.ofString "__getitem__") ht.typeIs PyProof.Rows.slot_tuple_getitem (wpAny_call_entry PyProof.Rows.slot_tuple_getitem ht.typeIs PyProof.Rows.entry_tuple_getitem ?_ (PyProof.Rows.args_tuple_getitem _ _)))
  show wpAny _ _ (Builtin.Tuple.tupleItemsOf (.ref t) >>= _) _ _ s
  refine wpAny_bind (tupleItemsOf_ ht ?_)
  refine wpAny_bind (wpAny_typeOf hTs ?_)
  rw [if_pos (by decide)]
  refine wpAny_bind (sliceApplied_rev hs pl pu ps ?_)
  have hno : ¬ ((((items.size : Int) - 1) == 0 && (-1 : Int) == 1 && items.size == items.size) = true) := by
    intro q
    rw [Bool.and_eq_true, Bool.and_eq_true] at q
    exact absurd q.1.2 (by decide)
  show wpAny _ _ (if (((items.size : Int) - 1) == 0 && (-1 : Int) == 1 && items.size == items.size) = true then _ else _) _ _ s
  rw [if_neg hno, pick_rev]
  first
    | exact wpAny_bind (m := Builtin.Tuple.tupleExact _) (wpAny_newObj_type (wpAny_pure ⟨_, rfl, wpAny_pure h⟩) hrev)
    | exact wpAny_bind (m := Builtin.Tuple.tupleExact _) (wpAny_newObj_type (wpAny_bind (wpAny_pure (wpAny_pure ⟨_, rfl, wpAny_pure h⟩))) hrev)
    | exact wpAny_bind (wpAny_bind (m := Builtin.Tuple.tupleExact _) (wpAny_newObj_type (wpAny_pure (wpAny_pure ⟨_, rfl, wpAny_pure h⟩)) hrev))
    | exact wpAny_bind (wpAny_bind (m := Builtin.Tuple.tupleExact _) (wpAny_newObj_type (wpAny_pure ⟨_, rfl, wpAny_pure h⟩) hrev))
end
/-- x[::-1] of a list or a tuple -/
def tRevA (K : PySem.W.Frag) (te : TE) : TE := fun σ H Q => te σ H fun x H1 => ∃ a xs, x = .ref a ∧ ((SqL K H1 a xs ∧ ∀ p, H1 p = none → Q (.ref p) (upd H1 p (.lst xs.reverse))) ∨ (SqT K H1 a xs ∧ ∀ p, H1 p = none → Q (.ref p) (upd H1 p (.tup xs.reverse))))
theorem pe_revA {X : Cx} {e : Expr} {te : TE} {k : Nat} {p1 p2 p3 pos : Pos} (he : PE X e te) : PE X (.Subscript e (.Slice none none (some (.UnaryOp .USub (.Constant (.int 1) k p1) p2)) p3) pos) (tRevA X.K te) := by
  refine ⟨fun pins s σ H Q I h => ?_⟩
  refine Subscript_ (thn (he.run pins s σ H _ I h) fun v s1 ⟨x, H1, I1, r1, q1⟩ => ?_)
  obtain ⟨a, xs, ex, hx⟩ := q1
  subst ex
  cases r1
  have hst : PO X (some (.UnaryOp .USub (.Constant (.int 1) k p1) p2)) (tPart (tUn (rU fun i => .int (-i)) (tC (.int 1)))) := po_some (pe_un un_neg pe_int)
  refine wpAny_Slice (thn (po_none.run pins s1 σ H1 (fun o H2 => o = none ∧ H2 = H1) I1 ⟨rfl, rfl⟩) fun vl s2 ⟨l, H2, I2, pl, el, e2⟩ => ?_)
  subst el e2
  refine thn (po_none.run pins s2 σ H2 (fun o H3 => o = none ∧ H3 = H2) I2 ⟨rfl, rfl⟩) fun vu s3 ⟨u, H3, I3, pu, eu, e3⟩ => ?_
  subst eu e3
  refine thn (hst.run pins s3 σ H3 (fun o H4 => o = some (-1) ∧ H4 = H3) I3 ⟨1, rfl, -1, rfl, rfl, rfl⟩) fun vs s4 ⟨o, H4, I4, ps, eo, e4⟩ => ?_
  subst eo e4
  have I5 : Inv X pins σ H4 { s4 with heap := s4.heap.push { cls := .type "slice", data := .fields #[vl, vu, vs] } } := I4.kept (t' := s4.toks) fun b ob q => Heap.get?_push_of_some _ q
  show wpAny (model X.prog X.w) X.A (subscriptTail e (.Slice none none (some (.UnaryOp .USub (.Constant (.int 1) k p1) p2)) p3) (.ref a) (.ref s4.heap.objs.size)) (EP X pins σ Q) X.xe { s4 with heap := s4.heap.push { cls := .type "slice", data := .fields #[vl, vu, vs] } }
  rcases hx with ⟨hx, q⟩ | ⟨hx, q⟩
  · obtain ⟨its, r, ht, hz⟩ := I5.list hx
    have hlen := r.length
    refine tail_any (ops := [.ref a, .ref s4.heap.objs.size]) ht.isList.typeIs (PySem.slot_list_getitem.lookup) ?_ (by with_unfolding_all rfl)
    refine wpAny_getItem_list_slice ht.isList (Heap.IsSliceOf.new _ vl vu vs) pl pu ps (by decide) ?_ (by rw [List.size_toArray]; omega)
    rw [PySem.W.krv_pick]
    exact ⟨.ref _, _, I5.laid (t' := s4.toks) (o := .lst xs.reverse) (fun b ob q => Heap.get?_push_of_some _ q) (Nat.le_refl _) ⟨by rw [List.length_reverse]; exact hz, _, 0, r.reverse, Heap.get?_push_size _ rfl⟩, rfl, q _ (I5.hok.fresh (Nat.le_refl _))⟩
  · obtain ⟨its, r, ht, hz⟩ := I5.tuple hx
    have hlen := r.length
    refine tail_any (ops := [.ref a, .ref s4.heap.objs.size]) ht.typeIs (PyProof.Rows.slot_tuple_getitem.lookup) ?_ (by with_unfolding_all rfl)
    refine getItem_tuple_rev ht (Heap.IsSliceOf.new _ vl vu vs) pl pu ps ?_ (by rw [List.size_toArray]; omega)
    exact ⟨.ref _, _, I5.laid (t' := s4.toks) (o := .tup xs.reverse) (fun b ob q => Heap.get?_push_of_some _ q) (Nat.le_refl _) ⟨by rw [List.length_reverse]; exact hz, _, r.reverse, IsTup.new _ _⟩, rfl, q _ (I5.hok.fresh (Nat.le_refl _))⟩
/-! ### tuple * int -/
theorem tuple_mul_same (l : Addr) (items : Array Value) (n : Nat) (dd : Option Addr) (sl : Array (Option Value)) (x : Int) (u : Tok) (c0 : (decide (x < -(2 ^ 63)) || decide (x ≥ 2 ^ 63)) = false) (c1 : (items.isEmpty || x == 1) = true) :
    Meets (Builtin.«tuple.__mul__» ⟨[.ref l, .int x u], []⟩) (fun _ R s => s.heap.get? l = some { cls := .type "tuple", dict := dd, data := .seq items n, slots := sl } ∧ R (.ok (.ret (Value.ref l))) s) :=
  .of_wp fun prog w A R s h => by
    obtain ⟨hp, g, d, tk, os⟩ := s
    obtain ⟨hl, h⟩ := h
    have f1 := AutoSeq1.idx_int
    wp_walk using AutoSeq1.wpAny_loadPart' hl
    repeat (first
      | (refine wpAny_ite_false (decide_eq_false (by rw [c0]; exact Bool.false_ne_true)) ?_; wp_walk using AutoSeq1.wpAny_loadPart' hl)
      | (refine wpAny_ite_true (decide_eq_true (by rw [c1])) ?_; wp_walk using AutoSeq1.wpAny_loadPart' hl))
    exact ⟨_, rfl, h⟩
theorem tuple_mul_none (l : Addr) (items : Array Value) (n : Nat) (dd : Option Addr) (sl : Array (Option Value)) (x : Int) (u : Tok) (c0 : (decide (x < -(2 ^ 63)) || decide (x ≥ 2 ^ 63)) = false) (c1 : (items.isEmpty || x == 1) = false) (c2 : (decide (x ≤ 0) || items.isEmpty) = true) :
    Meets (Builtin.«tuple.__mul__» ⟨[.ref l, .int x u], []⟩) (fun _ R s => s.heap.get? l = some { cls := .type "tuple", dict := dd, data := .seq items n, slots := sl } ∧
      R (.ok (.ret (Value.ref s.heap.objs.size))) { s with heap := s.heap.push { cls := Value.type "tuple", data := Data.seq #[] }, toks := s.toks }) :=
  .of_wp fun prog w A R s h => by
    obtain ⟨hp, g, d, tk, os⟩ := s
    obtain ⟨hl, h⟩ := h
    have f1 := AutoSeq1.idx_int
    wp_walk using AutoSeq1.wpAny_loadPart' hl
    repeat (first
      | (refine wpAny_ite_false (decide_eq_false (by rw [c0]; exact Bool.false_ne_true)) ?_; wp_walk using AutoSeq1.wpAny_loadPart' hl)
      | (refine wpAny_ite_false (decide_eq_false (by rw [c1]; exact Bool.false_ne_true)) ?_; wp_walk using AutoSeq1.wpAny_loadPart' hl)
      | (refine wpAny_ite_true (decide_eq_true (by rw [c2])) ?_; wp_walk using AutoSeq1.wpAny_loadPart' hl))
    exact ⟨_, rfl, h⟩
/-- t * k: the same tuple, an empty one, a new one -/
def rRepA (K : PySem.W.Frag) : R2 := fun x y H Q => ∃ l k xs, x = .ref l ∧ y = .int k ∧ SqT K H l xs ∧ -(2 ^ 63) ≤ k ∧ k ≤ 1000 ∧ xs.length ≤ 1000 ∧ ((xs = [] ∨ k = 1) → Q (.ref l) H) ∧ ∀ p, H p = none → Q (.ref p) (upd H p (.tup (List.replicate k.toNat xs).flatten))
section
variable {X : Cx}
theorem op_repA : OpR X (binaryOp .Mult) (rRepA X.K) := by
  intro pins s σ H x y v u Q I rx ry h
  obtain ⟨l, k, xs, rfl, rfl, hT, h1, h2, hz, q0, q⟩ := h
  by_cases hs : xs ≠ [] ∧ 2 ≤ k
  · exact op_repT pins s σ H _ _ v u Q I rx ry ⟨l, k, xs, rfl, rfl, hT, hs.1, hs.2, h2, hz, q⟩
  · cases rx
    obtain ⟨t, rfl⟩ := ry
    obtain ⟨its, r, ⟨⟨cls, dd, data, sl⟩, ho, hc, n, hd⟩, hsz⟩ := I.tuple hT
    simp only at hc hd
    subst hc hd
    have hle : its.length = xs.length := r.length.symm
    have c0 : (decide (k < -(2 ^ 63)) || decide (k ≥ 2 ^ 63)) = false := by
      rw [decide_eq_false (by omega), decide_eq_false (by omega)] <;> rfl
    have go : ∀ {W : (Except Value Flow → Shared → Prop) → Shared → Prop}, True → True := fun _ => trivial
    by_cases hsame : xs = [] ∨ k = 1
    · have c1 : (its.toArray.isEmpty || k == 1) = true := by
        rcases hsame with e | e
        · have : its = [] := List.eq_nil_of_length_eq_zero (by rw [hle, e]; rfl)
          rw [this]; rfl
        · rw [e]; simp
      refine wpAny_binaryOp_repeat_ref (T := "tuple") (U := "int") (by decide) ⟨_, ho, rfl⟩ (fun s' => typeIs_int s' k t) noFill_tuple_mul F.fills_int_mul F.slot_int_rmul repeat_tuple F.slot_int_index.lookup
        (call_meets F.slot_int_rmul (typeIs_int s k t) F.entry_int_rmul (F.args_int_rmul_2 _ _) (int_rmul_tuple k t l its.toArray n dd sl)
          ⟨ho, rfl, ⟨_, ho, rfl⟩, call_meets F.slot_tuple_mul ⟨_, ho, rfl⟩ F.entry_tuple_mul (F.args_tuple_mul_2 _ _) (tuple_mul_same l its.toArray n dd sl k t c0 c1) ⟨ho, ?_⟩⟩)
      exact ⟨.ref l, H, I, rfl, q0 hsame⟩
    · have hne : xs ≠ [] := fun e => hsame (.inl e)
      have hk : k ≤ 0 := by
        have : k ≠ 1 := fun e => hsame (.inr e)
        have : ¬ 2 ≤ k := fun e => hs ⟨hne, e⟩
        omega
      have hi : its.toArray.isEmpty = false := by
        cases its with
        | nil => exact absurd (List.eq_nil_of_length_eq_zero hle.symm) hne
        | cons a b => rfl
      have c1 : (its.toArray.isEmpty || k == 1) = false := by
        rw [hi, Bool.false_or]
        exact beq_eq_false_iff_ne.mpr (by omega)
      have c2 : (decide (k ≤ 0) || its.toArray.isEmpty) = true := by rw [decide_eq_true hk]; rfl
      refine wpAny_binaryOp_repeat_ref (T := "tuple") (U := "int") (by decide) ⟨_, ho, rfl⟩ (fun s' => typeIs_int s' k t) noFill_tuple_mul F.fills_int_mul F.slot_int_rmul repeat_tuple F.slot_int_index.lookup
        (call_meets F.slot_int_rmul (typeIs_int s k t) F.entry_int_rmul (F.args_int_rmul_2 _ _) (int_rmul_tuple k t l its.toArray n dd sl)
          ⟨ho, rfl, ⟨_, ho, rfl⟩, call_meets F.slot_tuple_mul ⟨_, ho, rfl⟩ F.entry_tuple_mul (F.args_tuple_mul_2 _ _) (tuple_mul_none l its.toArray n dd sl k t c0 c1 c2) ⟨ho, ?_⟩⟩)
      have e : (List.replicate k.toNat xs).flatten = [] := by rw [show k.toNat = 0 by omega]; rfl
      have q := q s.heap.objs.size (I.hok.fresh (Nat.le_refl _))
      rw [e] at q
      exact ⟨.ref s.heap.objs.size, _, I.laid (t' := s.toks) (o := .tup []) (fun b ob q => Heap.get?_push_of_some _ q) (Nat.le_refl _) ⟨Nat.zero_le _, [], .nil, IsTup.new _ _⟩, rfl, q⟩
end
/-! ### enumerate(tuple) -/
section
variable {prog : Program} {w : World} {A : Around} {E : Value → Shared → Prop} {s : Shared}
theorem meets_enum1 {v : Value} {o : Obj} {H : Heap → Prop} (B : Begins v o H) :
    Meets (Builtin.«enumerate.__new__» ⟨[.type "enumerate", v], []⟩) (fun _ R s => H s.heap ∧
      R (.ok (.ret (.ref (s.heap.push o).objs.size))) { s with heap := (s.heap.push o).push { cls := .type "enumerate", data := .fields #[.none, .bool false, .ref s.heap.objs.size, rawInt 0, .none, .none] } }) :=
  .of_wp fun prog w A R s h => by
    obtain ⟨hp, g, d, tk, os⟩ := s; obtain ⟨h1, h⟩ := h
    have hsub := sub_enumerate
    have q1 : ∀ {A' : Around} {E Q : Value → Shared → Prop}, Q (.ref hp.objs.size) ⟨hp.push o, g, d, tk, os⟩ → wpAny (model prog w) A' (pyIter v) Q E ⟨hp, g, d, tk, os⟩ := fun q => B.iter prog w _ _ ⟨hp, g, d, tk, os⟩ _ h1 q
    wp_walk using q1
    refine wpAny_stack_any fun st => wpAny_pure ?_
    split
    · rename_i c _ _ _ _ _
      cases (c == Value.type "enumerate") <;> (wp_walk using q1; exact ⟨_, rfl, h⟩)
    · wp_walk using q1
      exact ⟨_, rfl, h⟩
theorem call_enum1 {v : Value} {o : Obj} {H : Heap → Prop} {Q : Value → Shared → Prop} (B : Begins v o H) (h1 : H s.heap)
    (h : ∀ h', IsEnum h' (s.heap.objs.size + 1) s.heap.objs.size 0 .none → h'.get? s.heap.objs.size = some o → h'.objs.size = s.heap.objs.size + 2 → (∀ b o, s.heap.get? b = some o → h'.get? b = some o) → Q (.ref (s.heap.objs.size + 1)) { s with heap := h' }) :
    wpAny (model prog w) A (call (.type "enumerate") [v]) Q E s := by
  refine callType_new F.called_enumerate (by decide) (F.typeCall_enumerate_1 _) (F.newCall_enumerate_1 _) (fun obj => F.args_object_init_2 obj _) F.entry_enumerate_new (meets_enum1 B) ⟨h1, ?_⟩
  have hz : (s.heap.push o).objs.size = s.heap.objs.size + 1 := Heap.size_push ..
  show _ ∧ _
  rw [hz]
  have he : IsEnum ((s.heap.push o).push { cls := .type "enumerate", data := .fields #[.none, .bool false, .ref s.heap.objs.size, rawInt 0, .none, .none] }) (s.heap.objs.size + 1) s.heap.objs.size 0 .none := by
    have z := Heap.get?_push_size (s.heap.push o) (o := { cls := .type "enumerate", data := .fields #[.none, .bool false, .ref s.heap.objs.size, rawInt 0, .none, .none] }) rfl
    rwa [hz] at z
  exact ⟨⟨_, he, rfl⟩, h _ he (Heap.get?_push_of_some _ (Heap.get?_push_size _ B.free)) (by rw [Heap.size_push, hz]) fun b o x => Heap.get?_push_of_some _ (Heap.get?_push_of_some _ x)⟩
end
/-- the tuple at a as it stands at each turn, each item in a new pair -/
def IteT (K : PySem.W.Frag) (a : Addr) : It :=
  ⟨fun i H => ∃ (xs : List V) (x : V), SqT K H a xs ∧ xs[i]? = some x, fun i H v H' => ∃ T x, v = .ref T ∧ H T = none ∧ H' = upd H T (.tup [.int (i : Nat), x]) ∧ ∀ xs, SqT K H a xs → xs[i]? = some x, fun i H => ∃ xs : List V, SqT K H a xs ∧ xs.length ≤ i⟩
theorem turn_enumT {P : Program} {w : World} {K : PySem.W.Frag} {elts : List Expr} {kk : Nat} {tpos : Pos} (a e it : Addr) (hai : a ≠ it) (hae : a ≠ e) :
    Turn P w K (.Tuple elts kk tpos) (IteT K a) [e, it] e (fun i h => (∃ old, IsEnum h e it ((i : Nat) : Int) old) ∧ h.IsTupleIter it a i ∧ e ≠ it) where
  mem := by simp
  obj := fun i h st b hb => by
    obtain ⟨⟨old, he⟩, ⟨o, ho, hc, hd⟩, _⟩ := st
    have e' : b = e ∨ b = it := by simpa using hb
    rcases e' with z | z <;> rw [z]
    · exact ⟨_, he, fun v q => nomatch q⟩
    · exact ⟨o, ho, fun v q => by rw [hd] at q; cases q⟩
  keep := fun i h h' st k => let ⟨⟨old, he⟩, hi, hne⟩ := st; ⟨⟨old, k e (by simp) _ he⟩, hi.at fun o q => k it (by simp) o q, hne⟩
  item := by
    intro X hP hw hK hc i pins s σ H E I hf st hg
    subst hP hw hK
    obtain ⟨⟨old, he⟩, hit, hne⟩ := st
    obtain ⟨xs, x, hq, hx⟩ := hg
    obtain ⟨its, rv, p, hz⟩ := I.tuple hq
    obtain ⟨u, hu, ru⟩ := rv.get hx
    have hel : e < s.heap.objs.size := Heap.lt_size he
    have hil : it < s.heap.objs.size := by obtain ⟨_, q, _⟩ := hit; exact Heap.lt_size q
    have hh : X.A.in1.handled = none := I.ok.hd hc
    refine wpAny_pyNext_enum_itemD (Draws.tuple hh it a hai its.toArray) he ⟨hit, p⟩ (by have := rv.length; have hi := (List.getElem?_eq_some_iff.mp hx).1; simp; omega) hne (by simp [hne, Ne.symm hae]) fun x' h' tk hx' ho hit' hT hsz hk => ?_
    have hx'' : u = x' := by
      rw [List.getElem?_toArray, hu] at hx'
      exact Option.some.inj hx'
    subst hx''
    refine ⟨_, rfl, wpAny_letOwnedTupleGo_enum (s := { s with heap := h', toks := tk + 1 }) ho fun h'' he' sb => ?_⟩
    have hT2 : h''.get? s.heap.objs.size = some { cls := .type "tuple", data := .seq #[.int i tk, u] } := (sb.2 _ (Nat.ne_of_gt hel)).trans hT
    have new : ObjOk X.prog X.w (upd H s.heap.objs.size (.tup [.int (i : Nat), x])) h'' s.heap.objs.size (.tup [.int (i : Nat), x]) := ⟨by show 2 ≤ sizeLine; decide, [.int i tk, u], .cons ⟨_, rfl⟩ (.cons ru .nil), ⟨_, hT2, rfl, _, rfl⟩⟩
    have I1 : Inv X pins σ (upd H s.heap.objs.size (.tup [.int (i : Nat), x])) { s with heap := h'', toks := tk + 1 } :=
      I.turnedNew (ch := [e, it]) (fun b ob hb q => (sb.2 b (fun z => hb (by simp [z]))).trans (hk b ob (fun z => hb (by simp [z])) (fun z => hb (by simp [z])) q)) hf (Nat.le_refl _) new
    refine ⟨.ref s.heap.objs.size, _, I1, rfl, ⟨_, x, rfl, I.hok.fresh (Nat.le_refl _), rfl, fun ys hy => by rw [I.tuple_inj hy hq]; exact hx⟩, ⟨⟨u, ?_⟩, hit'.1.at fun o q => (sb.2 it (Ne.symm hne)).trans q, hne⟩, fun b hb => ?_⟩
    · rw [show ((i + 1 : Nat) : Int) = (i : Int) + 1 by omega]; exact he'
    · have hb' : b < s.heap.objs.size := by
        have e' : b = e ∨ b = it := by simpa using hb
        rcases e' with z | z <;> rw [z] <;> assumption
      rw [upd_ne (Nat.ne_of_lt hb')]
      exact (hf b hb).1
  done := by
    intro X hP hw hK hc i pins s σ H E I hf st hg
    subst hP hw hK
    obtain ⟨⟨old, he⟩, hit, hne⟩ := st
    obtain ⟨xs, hq, hx⟩ := hg
    obtain ⟨its, rv, p, hz⟩ := I.tuple hq
    obtain ⟨f0, f1, f2, f3, f4, f5⟩ := hf it (by simp)
    have hl := rv.length
    have hh : X.A.in1.handled = none := I.ok.hd hc
    have hT : s.TypeIs (.ref e) "enumerate" := ⟨_, he, rfl⟩
    unfold pyNext
    refine wpAny_bind (wpAny_attempt (wpAny_callSpecial?_slot (name := Str.ofString "__next__") hT F.slot_enumerate_next (wpAny_call_entry F.slot_enumerate_next hT F.entry_enumerate_next ?_ (F.args_enumerate_next_1 _))))
    show wpAny _ _ (field (.ref e) 2 >>= _) _ _ _
    refine wpAny_bind (wpAny_field he rfl (x := .ref it) rfl ?_)
    refine wpAny_bind (wpAny_nextOf_tuple_end hh hit p (by simp; omega) fun h' x eb hx' => ?_)
    obtain ⟨o, ho, hc'⟩ := hx'
    refine wpAny_bind (wpAny_isInstance (T := "StopIteration") (b := true) ⟨o, ho, hc'⟩ isSubtype_stop ?_)
    exact wpAny_pure ⟨rfl, I.turned (t' := s.toks) (fun b o hb q => eb b o hb q) f0 f1 f3 f4 f5⟩
  self := fun A i s Q E st h => let ⟨⟨_, he⟩, _⟩ := st; wpAny_pyIter_enum he h
def iEnumA (K : PySem.W.Frag) (ta : TA) : TI := fun σ H R => ta σ H fun vs H1 => ∃ a xs, vs = [.ref a] ∧ ((SqL K H1 a xs ∧ R (Ite K a) H1) ∨ (SqT K H1 a xs ∧ R (IteT K a) H1))
theorem pi_enumA {X : Cx} {e : Expr} {ta : TA} {p pos tpos : Pos} {elts : List Expr} {kk : Nat} (hg : Gl X "enumerate") (hm : X.mg "enumerate" = none) (ha : PA X [e] ta) (hs : starEach [e] X.env = [(false, eval e X.env)] := by rfl) :
    PI X (.Tuple elts kk tpos) (.Call (.Name "enumerate" p) [e] [] pos) (iEnumA X.K ta) := by
  refine ⟨fun pins s σ H R I h => Call_ (ld_blt I hg hm boot_enumerate (PyProof.Rows.callWith_type1 (thn (ha.run pos pins s σ H _ I h) fun us s1 ⟨vs, H1, I1, r1, q1⟩ => ?_) hs rfl))⟩
  obtain ⟨a, xs, ex, hq⟩ := q1
  subst ex
  cases r1 with
  | cons r rr =>
    cases rr
    cases r
    have fr : ∀ {b : Addr}, b ∈ [s1.heap.objs.size + 1, s1.heap.objs.size] → FpOk X pins H1 b := fun {b} hb => by
      have e' : b = s1.heap.objs.size + 1 ∨ b = s1.heap.objs.size := by simpa using hb
      have hle : s1.heap.objs.size ≤ b := by
        rcases e' with z | z <;> rw [z]
        · exact Nat.le_add_right _ _
        · exact Nat.le_refl _
      exact I1.fpOk hle (I1.hok.fresh hle)
    rcases hq with ⟨hq, q⟩ | ⟨hq, q⟩
    · obtain ⟨its, rv, p', hz⟩ := I1.list hq
      refine call_enumerate_list p'.isList fun h' he hit hsz hk => wpAny_pyIter_enum he ?_
      exact ⟨s1.heap.objs.size + 1, [s1.heap.objs.size + 1, s1.heap.objs.size], _, _, H1, rfl, I1.kept (t' := s1.toks) hk, turn_enum a (s1.heap.objs.size + 1) s1.heap.objs.size, ⟨⟨.none, he⟩, hit, Nat.succ_ne_self _⟩, fun b hb => fr hb, q⟩
    · obtain ⟨its, rv, p', hz⟩ := I1.tuple hq
      obtain ⟨o1, ho1, _⟩ := id p'
      have hal : a < s1.heap.objs.size := Heap.lt_size ho1
      refine call_enum1 (begins_tuple a its.toArray) p' fun h' he hit hsz hk => wpAny_pyIter_enum he ?_
      exact ⟨s1.heap.objs.size + 1, [s1.heap.objs.size + 1, s1.heap.objs.size], _, _, H1, rfl, I1.kept (t' := s1.toks) hk, turn_enumT a (s1.heap.objs.size + 1) s1.heap.objs.size (Nat.ne_of_lt hal) (Nat.ne_of_lt (Nat.lt_succ_of_lt hal)), ⟨⟨.none, he⟩, ⟨_, hit, rfl, rfl⟩, Nat.succ_ne_self _⟩, fun b hb => fr hb, q⟩
end DL

set_option Elab.async false
set_option linter.all false
set_option maxRecDepth 100000
set_option maxHeartbeats 4000000
/-! DL1: plain values D (a tuple is its items, a list an address), the plain heap DH, how they stand for the hand layer's. -/
namespace DL
open PySem PySem.Spec PyProof.Rows L2

/-- a plain value; lsv: a list that nobody writes, by its items -/
inductive D where
  | non | bl (b : Bool) | int (i : Int) | str (x : Str) | tup (ds : List D) | ref (a : Addr) | lsv (ds : List D)
/-- what stands at an address: a list of ours, a dict -/
inductive DO where
  | lst (ds : List D) | dct (kvs : List (Key × D))
abbrev DH := Addr → Option DO
abbrev Sg := List (Option D)
abbrev QD := D → DH → Prop
/-- an exception: its class by name, its fields -/
structure XD where
  cls : Str
  fs : List (Str × D)
abbrev WD := XD → Sg → DH → Prop
abbrev ED := XD → DH → Prop
/-- a def's promise over plain values -/
abbrev DSp := List D → DH → QD → ED → Prop

def put (G : DH) (a : Addr) (o : DO) : DH := fun b => if b = a then some o else G b
theorem put_same {G : DH} {a : Addr} {o : DO} : put G a o a = some o := if_pos rfl
theorem put_ne {G : DH} {a b : Addr} {o : DO} (h : b ≠ a) : put G a o b = G b := if_neg h
theorem put_put {G : DH} {a : Addr} {o u : DO} : put (put G a o) a u = put G a u := by
  funext b; unfold put; split <;> rfl

/-- the slot i -/
@[simp] def gt : Sg → Nat → Option D
  | [], _ => none
  | x :: _, 0 => x
  | _ :: l, n + 1 => gt l n
/-- the slot i is set -/
@[simp] def st : Sg → Nat → Option D → Sg
  | [], _, _ => []
  | _ :: l, 0, d => d :: l
  | x :: l, n + 1, d => x :: st l n d
theorem st_eq : ∀ (σ : Sg) (i : Nat) (d : Option D), st σ i d = σ.set i d
  | [], _, _ => rfl
  | _ :: _, 0, _ => rfl
  | x :: l, n + 1, d => by
    show x :: st l n d = x :: l.set n d
    rw [st_eq l n d]
theorem gt_some : ∀ {σ : Sg} {i : Nat} {d : D}, gt σ i = some d ↔ σ[i]? = some (some d)
  | [], _, _ => by simp [gt]
  | x :: l, 0, d => by simp [gt]
  | x :: l, n + 1, d => by
    show gt l n = some d ↔ _
    rw [gt_some]; simp

/-! ### how a plain value stands for one of the layer's -/
/-- a list that is locked, or one of the written part -/
def SqV (K : PySem.W.Frag) (H : Hp) (a : Addr) (xs : List V) : Prop := (∃ o, H a = some (.frz o (.lst xs))) ∨
  ∃ (o : Obj) (its : Array Value) (n : Nat), K.lookup a = some o ∧ o.cls = .type "list" ∧ o.dict = none ∧ o.data = .seq its n ∧ its.size ≤ sizeLine ∧ Vals xs its.toList
theorem SqV.l {K : PySem.W.Frag} {H : Hp} {a : Addr} {xs : List V} (h : SqV K H a xs) : SqL K H a xs := h.elim (fun z => .inl (.inr z)) .inr
theorem SqV.of {K : PySem.W.Frag} {H : Hp} {a : Addr} {xs : List V} (h : SqL K H a xs) (n : ∀ ys, H a ≠ some (.lst ys)) : SqV K H a xs := by
  rcases h with (h | h) | h
  · exact absurd h (n xs)
  · exact .inl h
  · exact .inr h
mutual
def Rp (K : PySem.W.Frag) (H : Hp) : D → V → Prop
  | .non, v => v = .non
  | .bl b, v => v = .bl b
  | .int i, v => v = .int i
  | .str x, v => v = .str x
  | .ref a, v => v = .ref a
  | .tup ds, v => ∃ a vs, v = .ref a ∧ SqT K H a vs ∧ Rps K H ds vs
  | .lsv ds, v => ∃ a vs, v = .ref a ∧ SqV K H a vs ∧ Rps K H ds vs
def Rps (K : PySem.W.Frag) (H : Hp) : List D → List V → Prop
  | [], vs => vs = []
  | d :: ds, vs => ∃ v ws, vs = v :: ws ∧ Rp K H d v ∧ Rps K H ds ws
end
def RKs (K : PySem.W.Frag) (H : Hp) : List (Key × D) → List (Key × V) → Prop
  | [], vs => vs = []
  | (k, d) :: ds, vs => ∃ v ws, vs = (k, v) :: ws ∧ Rp K H d v ∧ RKs K H ds ws
def RO (K : PySem.W.Frag) (H : Hp) (a : Addr) : DO → Prop
  | .lst ds => ∃ vs, H a = some (.lst vs) ∧ Rps K H ds vs
  | .dct kvs => ∃ ws, H a = some (.dK ws) ∧ RKs K H kvs ws

/-- what stays: the tuples, what is locked, what is reserved -/
structure Keep (R : Addr → Prop) (H H' : Hp) : Prop where
  tup : ∀ a xs, H a = some (.tup xs) → H' a = some (.tup xs)
  frz : ∀ a o u, H a = some (.frz o u) → H' a = some (.frz o u)
  res : ∀ a, R a → H' a = H a
section
variable {R : Addr → Prop} {H H1 H2 H' : Hp} {K : PySem.W.Frag}
theorem Keep.refl : Keep R H H := ⟨fun _ _ e => e, fun _ _ _ e => e, fun _ _ => rfl⟩
theorem Keep.trans (a : Keep R H H1) (b : Keep R H1 H2) : Keep R H H2 :=
  ⟨fun x xs e => b.tup x xs (a.tup x xs e), fun x o u e => b.frz x o u (a.frz x o u e), fun x r => (b.res x r).trans (a.res x r)⟩
theorem Keep.sqT (k : Keep R H H') {a : Addr} {xs : List V} (h : SqT K H a xs) : SqT K H' a xs := by
  rcases h with (h | ⟨o, h⟩) | h
  · exact .inl (.inl (k.tup a xs h))
  · exact .inl (.inr ⟨o, k.frz a o _ h⟩)
  · exact .inr h
theorem Keep.sqV (k : Keep R H H') {a : Addr} {xs : List V} (h : SqV K H a xs) : SqV K H' a xs := by
  rcases h with ⟨o, h⟩ | h
  · exact .inl ⟨o, k.frz a o _ h⟩
  · exact .inr h
theorem Keep.new {p : Addr} {o : HO} (hp : H p = none) (hr : ∀ a, R a → H a ≠ none) : Keep R H (upd H p o) :=
  ⟨fun a xs e => by rw [upd_ne (ne_of_none e hp)]; exact e, fun a o' u e => by rw [upd_ne (ne_of_none e hp)]; exact e,
    fun a r => upd_ne fun z => hr a r (by rw [z]; exact hp)⟩
end
mutual
theorem Rp.keep {R : Addr → Prop} {H H' : Hp} {K : PySem.W.Frag} (k : Keep R H H') : ∀ {d : D} {v : V}, Rp K H d v → Rp K H' d v
  | .non, _, h => h
  | .bl _, _, h => h
  | .int _, _, h => h
  | .str _, _, h => h
  | .ref _, _, h => h
  | .tup ds, v, h => by
    obtain ⟨a, vs, e, q, r⟩ := h
    exact ⟨a, vs, e, k.sqT q, Rps.keep k r⟩
  | .lsv ds, v, h => by
    obtain ⟨a, vs, e, q, r⟩ := h
    exact ⟨a, vs, e, k.sqV q, Rps.keep k r⟩
theorem Rps.keep {R : Addr → Prop} {H H' : Hp} {K : PySem.W.Frag} (k : Keep R H H') : ∀ {ds : List D} {vs : List V}, Rps K H ds vs → Rps K H' ds vs
  | [], _, h => h
  | d :: ds, vs, h => by
    obtain ⟨v, ws, e, q, r⟩ := h
    exact ⟨v, ws, e, Rp.keep k q, Rps.keep k r⟩
end
theorem RKs.keep {R : Addr → Prop} {H H' : Hp} {K : PySem.W.Frag} (k : Keep R H H') : ∀ {ds : List (Key × D)} {vs : List (Key × V)}, RKs K H ds vs → RKs K H' ds vs
  | [], _, h => h
  | (x, d) :: ds, vs, h => by
    obtain ⟨v, ws, e, q, r⟩ := h
    exact ⟨v, ws, e, Rp.keep k q, RKs.keep k r⟩
section
variable {K : PySem.W.Frag} {H : Hp}
theorem Rps.length : ∀ {ds : List D} {vs : List V}, Rps K H ds vs → vs.length = ds.length
  | [], _, h => by cases h; rfl
  | d :: ds, vs, h => by
    obtain ⟨v, ws, e, q, r⟩ := h
    subst e
    show ws.length + 1 = ds.length + 1
    rw [Rps.length r]
theorem Rps.get : ∀ {ds : List D} {vs : List V} {i : Nat} {d : D}, Rps K H ds vs → ds[i]? = some d → ∃ v, vs[i]? = some v ∧ Rp K H d v
  | [], _, _, _, _, e => by simp at e
  | x :: ds, vs, 0, d, h, e => by
    obtain ⟨v, ws, e1, q, r⟩ := h
    have e2 : x = d := by simpa using e
    subst e1 e2
    exact ⟨v, rfl, q⟩
  | x :: ds, vs, i + 1, d, h, e => by
    obtain ⟨v, ws, e1, q, r⟩ := h
    subst e1
    exact Rps.get (i := i) r (by simpa using e)
theorem Rps.set {x : D} {u : V} (q : Rp K H x u) : ∀ {ds : List D} {vs : List V} (i : Nat), Rps K H ds vs → Rps K H (ds.set i x) (vs.set i u)
  | [], _, _, h => by cases h; rfl
  | d :: ds, vs, 0, h => by
    obtain ⟨v, ws, e, _, r⟩ := h
    subst e
    exact ⟨u, ws, rfl, q, r⟩
  | d :: ds, vs, i + 1, h => by
    obtain ⟨v, ws, e, p, r⟩ := h
    subst e
    exact ⟨v, _, rfl, p, Rps.set q i r⟩
theorem Rps.append : ∀ {ds es : List D} {vs ws : List V}, Rps K H ds vs → Rps K H es ws → Rps K H (ds ++ es) (vs ++ ws)
  | [], _, _, _, h, h' => by cases h; exact h'
  | d :: ds, es, vs, ws, h, h' => by
    obtain ⟨v, us, e, p, r⟩ := h
    subst e
    exact ⟨v, us ++ ws, rfl, p, Rps.append r h'⟩
theorem Rps.take : ∀ {ds : List D} {vs : List V} (n : Nat), Rps K H ds vs → Rps K H (ds.take n) (vs.take n)
  | _, _, 0, _ => by rw [List.take_zero, List.take_zero]; rfl
  | [], _, n + 1, h => by cases h; rfl
  | d :: ds, vs, n + 1, h => by
    obtain ⟨v, us, e, p, r⟩ := h
    subst e
    exact ⟨v, us.take n, rfl, p, Rps.take n r⟩
theorem Rps.drop : ∀ {ds : List D} {vs : List V} (n : Nat), Rps K H ds vs → Rps K H (ds.drop n) (vs.drop n)
  | _, _, 0, h => h
  | [], _, n + 1, h => by cases h; rfl
  | d :: ds, vs, n + 1, h => by
    obtain ⟨v, us, e, p, r⟩ := h
    subst e
    exact Rps.drop n r
theorem Rps.one {d : D} {v : V} (h : Rp K H d v) : Rps K H [d] [v] := ⟨v, [], rfl, h, rfl⟩
theorem Rps.reverse : ∀ {ds : List D} {vs : List V}, Rps K H ds vs → Rps K H ds.reverse vs.reverse
  | [], _, h => by cases h; rfl
  | d :: ds, vs, h => by
    obtain ⟨v, us, e, p, r⟩ := h
    subst e
    rw [List.reverse_cons, List.reverse_cons]
    exact (Rps.reverse r).append (Rps.one p)
theorem Rps.ints : ∀ {ns : List Int} {vs : List V}, Rps K H (ns.map D.int) vs → vs = ns.map V.int
  | [], _, h => h
  | n :: ns, vs, h => by
    obtain ⟨v, us, e, p, r⟩ := h
    have p' : v = V.int n := p
    rw [e, p', Rps.ints r]; rfl
theorem Rps.bls : ∀ {ns : List Bool} {vs : List V}, Rps K H (ns.map D.bl) vs → vs = ns.map V.bl
  | [], _, h => h
  | n :: ns, vs, h => by
    obtain ⟨v, us, e, p, r⟩ := h
    have p' : v = V.bl n := p
    rw [e, p', Rps.bls r]; rfl
theorem Rps.nil_iff {vs : List V} {ds : List D} (h : Rps K H ds vs) : vs = [] ↔ ds = [] := by
  have := h.length
  constructor <;> intro e <;> subst e
  · cases ds with
    | nil => rfl
    | cons _ _ => simp at this
  · cases vs with
    | nil => rfl
    | cons _ _ => simp at this
end
/-- the plain state stands for the layer's -/
structure SR (K : PySem.W.Frag) (R : Addr → Prop) (H0 : Hp) (σ : Sg) (G : DH) (σv : L2.St) (H : Hp) : Prop where
  len : σ.length = σv.length
  sl : ∀ (i : Nat) (d : D), σ[i]? = some (some d) → ∃ v, σv[i]? = some (some v) ∧ Rp K H d v
  gr : ∀ a o, G a = some o → RO K H a o
  rs : ∀ a, R a → H a ≠ none ∧ G a = none
  kp : Keep R H0 H
section
variable {K : PySem.W.Frag} {R : Addr → Prop} {H0 H H' : Hp} {σ : Sg} {G G' : DH} {σv : L2.St}
theorem RO.some {a : Addr} {o : DO} (h : RO K H a o) : ∃ u, H a = some u := by
  cases o with
  | lst ds => obtain ⟨vs, e, _⟩ := h; exact ⟨_, e⟩
  | dct kvs => obtain ⟨ws, e, _⟩ := h; exact ⟨_, e⟩
theorem SR.free (s : SR K R H0 σ G σv H) {p : Addr} (hp : H p = none) : G p = none := by
  cases e : G p with
  | none => rfl
  | some o =>
    obtain ⟨u, z⟩ := (s.gr p o e).some
    rw [hp] at z; cases z
theorem SR.nres (s : SR K R H0 σ G σv H) : ∀ a, R a → H a ≠ none := fun a r => (s.rs a r).1
/-- a new object that the plain heap does not tell -/
theorem SR.hid (s : SR K R H0 σ G σv H) {p : Addr} {o : HO} (hp : H p = none) : SR K R H0 σ G σv (upd H p o) := by
  have k : Keep R H (upd H p o) := Keep.new hp s.nres
  refine ⟨s.len, fun i d e => ?_, fun a u e => ?_, fun a r => ⟨?_, (s.rs a r).2⟩, s.kp.trans k⟩
  · obtain ⟨v, e1, q⟩ := s.sl i d e
    exact ⟨v, e1, q.keep k⟩
  · have z := s.gr a u e
    obtain ⟨u0, e0⟩ := z.some
    have hne : a ≠ p := ne_of_none e0 hp
    cases u with
    | lst ds => obtain ⟨vs, e1, q⟩ := z; exact ⟨vs, by rw [upd_ne hne]; exact e1, q.keep k⟩
    | dct kvs => obtain ⟨ws, e1, q⟩ := z; exact ⟨ws, by rw [upd_ne hne]; exact e1, q.keep k⟩
  · rw [k.res a r]; exact (s.rs a r).1
/-- a new object that the plain heap tells -/
theorem SR.new (s : SR K R H0 σ G σv H) {p : Addr} {o : HO} {u : DO} (hp : H p = none) (hu : RO K (upd H p o) p u) : SR K R H0 σ (put G p u) σv (upd H p o) := by
  have z := s.hid (o := o) hp
  refine ⟨z.len, z.sl, fun a w e => ?_, fun a r => ⟨(z.rs a r).1, ?_⟩, z.kp⟩
  · by_cases h : a = p
    · subst h
      rw [put_same] at e; cases e
      exact hu
    · rw [put_ne h] at e
      exact z.gr a w e
  · have hne : a ≠ p := fun q => s.nres a r (by rw [q]; exact hp)
    rw [put_ne hne]
    exact (z.rs a r).2
/-- what the writing of a tracked object keeps -/
theorem SR.wkeep (s : SR K R H0 σ G σv H) {p : Addr} {o0 : DO} (hg : G p = some o0) (hm : ∀ xs, H p ≠ some (.tup xs)) (hf : ∀ o u, H p ≠ some (.frz o u)) {o : HO} : Keep R H (upd H p o) :=
  ⟨fun a xs e => by rw [upd_ne fun z => hm xs (by rw [← z]; exact e)]; exact e, fun a o' u e => by rw [upd_ne fun z => hf o' u (by rw [← z]; exact e)]; exact e,
    fun a r => upd_ne fun z => by have := (s.rs a r).2; rw [z, hg] at this; cases this⟩
theorem SR.write (s : SR K R H0 σ G σv H) {p : Addr} {o0 u : DO} {o : HO} (hg : G p = some o0) (hm : ∀ xs, H p ≠ some (.tup xs)) (hf : ∀ o u, H p ≠ some (.frz o u)) (hu : RO K (upd H p o) p u) : SR K R H0 σ (put G p u) σv (upd H p o) := by
  have k : Keep R H (upd H p o) := s.wkeep hg hm hf
  refine ⟨s.len, fun i d e => ?_, fun a w e => ?_, fun a r => ?_, s.kp.trans k⟩
  · obtain ⟨v, e1, q⟩ := s.sl i d e
    exact ⟨v, e1, q.keep k⟩
  · by_cases h : a = p
    · subst h
      rw [put_same] at e; cases e
      exact hu
    · rw [put_ne h] at e
      have z := s.gr a w e
      cases w with
      | lst ds => obtain ⟨vs, e1, q⟩ := z; exact ⟨vs, by rw [upd_ne h]; exact e1, q.keep k⟩
      | dct kvs => obtain ⟨ws, e1, q⟩ := z; exact ⟨ws, by rw [upd_ne h]; exact e1, q.keep k⟩
  · have hne : a ≠ p := fun z => by have := (s.rs a r).2; rw [z, hg] at this; cases this
    rw [k.res a r, put_ne hne]
    exact s.rs a r
/-- less is told of the heap -/
theorem SR.less (s : SR K R H0 σ G σv H) (h : ∀ a o, G' a = some o → G a = some o) : SR K R H0 σ G' σv H :=
  ⟨s.len, s.sl, fun a o e => s.gr a o (h a o e), fun a r => ⟨(s.rs a r).1, by
    cases e : G' a with
    | none => rfl
    | some o => have := (s.rs a r).2; rw [h a o e] at this; cases this⟩, s.kp⟩
/-- a slot is set -/
theorem SR.slot (s : SR K R H0 σ G σv H) (i : Nat) {d : D} {v : V} (q : Rp K H d v) : SR K R H0 (st σ i (some d)) G (σv.set i (some v)) H := by
  refine ⟨by rw [st_eq, List.length_set, List.length_set]; exact s.len, fun j e h => ?_, s.gr, s.rs, s.kp⟩
  rw [st_eq] at h
  by_cases hj : i = j
  · subst hj
    by_cases hl : i < σ.length
    · rw [List.getElem?_set_self hl] at h
      have h' : d = e := by simpa using h
      subst h'
      exact ⟨v, by rw [List.getElem?_set_self (by rw [← s.len]; exact hl)], q⟩
    · rw [List.getElem?_eq_none (by rw [List.length_set]; omega)] at h; cases h
  · rw [List.getElem?_set_ne hj] at h
    obtain ⟨w, e1, q1⟩ := s.sl j e h
    exact ⟨w, by rw [List.getElem?_set_ne hj]; exact e1, q1⟩
theorem SR.unslot (s : SR K R H0 σ G σv H) (i : Nat) (x : Option V) : SR K R H0 (st σ i none) G (σv.set i x) H := by
  refine ⟨by rw [st_eq, List.length_set, List.length_set]; exact s.len, fun j e h => ?_, s.gr, s.rs, s.kp⟩
  rw [st_eq] at h
  by_cases hj : i = j
  · subst hj
    by_cases hl : i < σ.length
    · rw [List.getElem?_set_self hl] at h; cases h
    · rw [List.getElem?_eq_none (by rw [List.length_set]; omega)] at h; cases h
  · rw [List.getElem?_set_ne hj] at h
    obtain ⟨w, e1, q1⟩ := s.sl j e h
    exact ⟨w, by rw [List.getElem?_set_ne hj]; exact e1, q1⟩
end
end DL

set_option Elab.async false
set_option linter.all false
set_option maxRecDepth 100000
set_option maxHeartbeats 4000000
/-! DL2: readings over plain values, lifted to the layer's; operators on plain values with their soundness. -/
namespace DL
open PySem PySem.Spec PyProof.Rows L2
abbrev DE := WD → Sg → DH → QD → Prop
abbrev DT := WD → Sg → DH → (Bool → DH → Prop) → Prop
abbrev DA := WD → Sg → DH → (List D → DH → Prop) → Prop
structure DEnds where
  nx : Sg → DH → Prop
  rt : QD
  bk : Sg → DH → Prop := fun _ _ => False
  ct : Sg → DH → Prop := fun _ _ => False
abbrev DS := WD → DEnds → Sg → DH → Prop

/-- str of an int -/
def intS (i : Int) : Str := Str.ofString (toString i)
/-- what the layer's wish for a value must take -/
def Out (K : PySem.W.Frag) (R : Addr → Prop) (H0 : Hp) (σ : Sg) (σv : L2.St) (H : Hp) (Q : QD) (Qv : VK) : Prop :=
  ∀ d G' v H', Q d G' → Rp K H' d v → SR K R H0 σ G' σv H' → Keep R H H' → Qv v H'
def lE (K : PySem.W.Frag) (R : Addr → Prop) (H0 : Hp) (W : WD) (t : DE) : TE := fun σv H Qv => ∃ σ G Q, SR K R H0 σ G σv H ∧ t W σ G Q ∧ Out K R H0 σ σv H Q Qv
def lT (K : PySem.W.Frag) (R : Addr → Prop) (H0 : Hp) (W : WD) (t : DT) : TT := fun σv H Qv => ∃ σ G Q, SR K R H0 σ G σv H ∧ t W σ G Q ∧ ∀ b G' H', Q b G' → SR K R H0 σ G' σv H' → Keep R H H' → Qv b H'
def lA (K : PySem.W.Frag) (R : Addr → Prop) (H0 : Hp) (W : WD) (t : DA) : TA := fun σv H Qv => ∃ σ G Q, SR K R H0 σ G σv H ∧ t W σ G Q ∧ ∀ ds G' vs H', Q ds G' → Rps K H' ds vs → SR K R H0 σ G' σv H' → Keep R H H' → Qv vs H'
section
variable {K : PySem.W.Frag} {R : Addr → Prop} {H0 H H' : Hp} {σ : Sg} {G G' : DH} {σv : L2.St} {Q Q' : QD} {Qv : VK}
theorem Out.now (o : Out K R H0 σ σv H Q Qv) {d : D} {v : V} (h : Q d G) (r : Rp K H d v) (s : SR K R H0 σ G σv H) : Qv v H := o d G v H h r s .refl
theorem Out.back (o : Out K R H0 σ σv H Q Qv) (k : Keep R H H') : Out K R H0 σ σv H' Q Qv := fun d G' v H2 q r s k2 => o d G' v H2 q r s (k.trans k2)
/-- a new tuple -/
theorem Out.tup (o : Out K R H0 σ σv H Q Qv) {ds : List D} {vs : List V} (h : Q (.tup ds) G) (r : Rps K H ds vs) (s : SR K R H0 σ G σv H) : ∀ p, H p = none → Qv (.ref p) (upd H p (.tup vs)) := fun p hp =>
  have k : Keep R H (upd H p (.tup vs)) := Keep.new hp s.nres
  o _ G _ _ h ⟨p, vs, rfl, SqT.of upd_same, r.keep k⟩ (s.hid hp) k
/-- a new list -/
theorem Out.lst (o : Out K R H0 σ σv H Q Qv) {ds : List D} {vs : List V} (h : ∀ p, G p = none → Q (.ref p) (put G p (.lst ds))) (r : Rps K H ds vs) (s : SR K R H0 σ G σv H) : ∀ p, H p = none → Qv (.ref p) (upd H p (.lst vs)) := fun p hp =>
  have k : Keep R H (upd H p (.lst vs)) := Keep.new hp s.nres
  o _ _ _ _ (h p (s.free hp)) rfl (s.new hp ⟨vs, upd_same, r.keep k⟩) k
end

/-- an operator on two plain values, as the layer has it -/
def RB (K : PySem.W.Frag) (k : D → D → DH → QD → Prop) : R2 := fun v w H Qv => ∃ R H0 σ σv x y G Q, Rp K H x v ∧ Rp K H y w ∧ SR K R H0 σ G σv H ∧ k x y G Q ∧ Out K R H0 σ σv H Q Qv
def RU (K : PySem.W.Frag) (k : D → DH → QD → Prop) : V → Hp → VK → Prop := fun v H Qv => ∃ R H0 σ σv x G Q, Rp K H x v ∧ SR K R H0 σ G σv H ∧ k x G Q ∧ Out K R H0 σ σv H Q Qv
def RC (K : PySem.W.Frag) (k : List D → DH → QD → Prop) : List V → Hp → VK → Prop := fun vs H Qv => ∃ R H0 σ σv xs G Q, Rps K H xs vs ∧ SR K R H0 σ G σv H ∧ k xs G Q ∧ Out K R H0 σ σv H Q Qv
def RM (K : PySem.W.Frag) (k : D → List D → DH → QD → Prop) : V → List V → Hp → VK → Prop := fun v vs H Qv => ∃ R H0 σ σv x xs G Q, Rp K H x v ∧ Rps K H xs vs ∧ SR K R H0 σ G σv H ∧ k x xs G Q ∧ Out K R H0 σ σv H Q Qv

/-- the items of a sequence at an address -/
def sqAt (G : DH) (a : Addr) : Option (List D) := match G a with
  | some (.lst ds) => some ds
  | _ => none
theorem sqAt_lst {G : DH} {a : Addr} {ds : List D} (h : G a = some (.lst ds)) : sqAt G a = some ds := by unfold sqAt; rw [h]
theorem SR.sqL {K : PySem.W.Frag} {R : Addr → Prop} {H0 H : Hp} {σ : Sg} {G : DH} {σv : L2.St} (s : SR K R H0 σ G σv H) {a : Addr} {ds : List D} (h : sqAt G a = some ds) : ∃ vs, SqL K H a vs ∧ Rps K H ds vs := by
  unfold sqAt at h
  cases e : G a with
  | none => rw [e] at h; cases h
  | some o =>
    rw [e] at h
    have z := s.gr a o e
    cases o with
    | lst xs =>
      cases h
      obtain ⟨vs, e1, q⟩ := z
      exact ⟨vs, SqL.of e1, q⟩
    | dct _ => cases h

/-! ### operators -/
/-- any int may be divided by (the model's pylong way has its room) -/
def Pyl (_ : Int) : Prop := True
def binD : Operator → D → D → DH → QD → Prop
  | .Add, .int i, .int j, G, Q => Q (.int (i + j)) G
  | .Add, .str i, .str j, G, Q => i.length + j.length ≤ sizeLine ∧ Q (.str (i ++ j)) G
  | .Add, .tup xs, .tup ys, G, Q => xs.length + ys.length ≤ sizeLine ∧ Q (.tup (xs ++ ys)) G
  | .Add, .ref a, .ref b, G, Q => ∃ xs ys, G a = some (.lst xs) ∧ G b = some (.lst ys) ∧ xs.length + ys.length ≤ sizeLine ∧ ∀ p, G p = none → Q (.ref p) (put G p (.lst (xs ++ ys)))
  | .Sub, .int i, .int j, G, Q => Q (.int (i - j)) G
  | .Mult, .int i, .int j, G, Q => IntMulOk i j ∧ Q (.int (i * j)) G
  | .Mult, .ref a, .int k, G, Q => ∃ xs, G a = some (.lst xs) ∧ -(2 ^ 63) ≤ k ∧ k < 2 ^ 63 ∧ xs.length * k.toNat ≤ sizeLine ∧ ∀ p, G p = none → Q (.ref p) (put G p (.lst (List.replicate k.toNat xs).flatten))
  | .Mult, .tup xs, .int k, G, Q => -(2 ^ 63) ≤ k ∧ k ≤ 1000 ∧ xs.length ≤ 1000 ∧ Q (.tup (List.replicate k.toNat xs).flatten) G
  | .FloorDiv, .int i, .int j, G, Q => j ≠ 0 ∧ Pyl j ∧ Q (.int (i.fdiv j)) G
  | .Mod, .int i, .int j, G, Q => j ≠ 0 ∧ Q (.int (i.fmod j)) G
  | .Pow, .int i, .int j, G, Q => 0 ≤ j ∧ (Builtin.Int.intBits i : Int) * j ≤ 2 ^ 27 ∧ Q (.int (i ^ j.toNat)) G
  | .LShift, .int i, .int j, G, Q => CPow i j ∧ Q (.int (i * 2 ^ j.toNat)) G
  | .RShift, .int i, .int j, G, Q => 0 ≤ j ∧ Q (.int (i / 2 ^ j.toNat)) G
  | .BitAnd, .int i, .int j, G, Q => Q (.int (Builtin.bitAnd i j)) G
  | _, _, _, _, _ => False
section
variable {X : Cx}
theorem op_mulG : OpR X (binaryOp .Mult) (rI IntMulOk fun i j => .int (i * j)) := opI fun _ _ _ _ _ _ _ hc q => mul_int q hc
/-- there is room for the model's pylong way -/
def PlR (X : Cx) : Prop := ∀ pins s σ H, Inv X pins σ H s → PySem.PylongRoom (model X.prog X.w) X.A s
theorem op_fdivG (hp : PlR X) : OpR X (binaryOp .FloorDiv) (rI (fun _ j => j ≠ 0) fun i j => .int (i.fdiv j)) := by
  intro pins s σ H x y v u Q I rx ry ⟨i, j, ex, ey, hc, q⟩
  subst ex ey
  obtain ⟨t, rfl⟩ := rx
  obtain ⟨t', rfl⟩ := ry
  exact floordiv_int hc ⟨.int (i.fdiv j), H, I.tok _, ⟨_, rfl⟩, q⟩ (.inr (hp _ _ _ _ I))
theorem op_powG : OpR X (binaryOp .Pow) (rI (fun i j => 0 ≤ j ∧ (Builtin.Int.intBits i : Int) * j ≤ 2 ^ 27) fun i j => .int (i ^ j.toNat)) := opI fun _ _ _ _ _ _ _ hc q => pow_int hc.1 hc.2 q
theorem rps_flat {K : PySem.W.Frag} {H : Hp} {ds : List D} {vs : List V} (r : Rps K H ds vs) : ∀ n, Rps K H (List.replicate n ds).flatten (List.replicate n vs).flatten
  | 0 => rfl
  | n + 1 => by
    rw [List.replicate_succ, List.replicate_succ, List.flatten_cons, List.flatten_cons]
    exact r.append (rps_flat r n)
theorem op_binD (hp : PlR X) (op : Operator) : OpR X (binaryOp op) (RB X.K (binD op)) := by
  intro pins s σl H v w v' w' Qv I rv rw' h
  obtain ⟨R, H0, σ, σv, x, y, G, Q, rx, ry, sr, k, out⟩ := h
  cases x with
  | int i =>
    cases y with
    | int j =>
      have e1 : v = .int i := rx
      have e2 : w = .int j := ry
      have ok : ∀ z, Q (.int z) G → Qv (.int z) H := fun z q => out.now q rfl sr
      cases op with
      | Add => exact op_add pins s σl H v w v' w' Qv I rv rw' ⟨i, j, e1, e2, ok _ k⟩
      | Sub => exact op_sub pins s σl H v w v' w' Qv I rv rw' ⟨i, j, e1, e2, ok _ k⟩
      | Mult => exact op_mulG pins s σl H v w v' w' Qv I rv rw' ⟨i, j, e1, e2, k.1, ok _ k.2⟩
      | FloorDiv => exact op_fdivG hp pins s σl H v w v' w' Qv I rv rw' ⟨i, j, e1, e2, k.1, ok _ k.2.2⟩
      | Mod => exact op_modN pins s σl H v w v' w' Qv I rv rw' ⟨i, j, e1, e2, k.1, ok _ k.2⟩
      | Pow => exact op_powG pins s σl H v w v' w' Qv I rv rw' ⟨i, j, e1, e2, ⟨k.1, k.2.1⟩, ok _ k.2.2⟩
      | LShift => exact op_shl pins s σl H v w v' w' Qv I rv rw' ⟨i, j, e1, e2, k.1, ok _ k.2⟩
      | RShift => exact op_shr pins s σl H v w v' w' Qv I rv rw' ⟨i, j, e1, e2, k.1, ok _ k.2⟩
      | BitAnd => exact op_and pins s σl H v w v' w' Qv I rv rw' ⟨i, j, e1, e2, ok _ k⟩
      | _ => exact False.elim k
    | _ => cases op <;> exact False.elim k
  | str i =>
    cases y with
    | str j =>
      have e1 : v = .str i := rx
      have e2 : w = .str j := ry
      cases op with
      | Add => exact op_add_str pins s σl H v w v' w' Qv I rv rw' ⟨i, j, e1, e2, k.1, out.now (G := G) k.2 rfl sr⟩
      | _ => exact False.elim k
    | _ => cases op <;> exact False.elim k
  | tup xs =>
    cases y with
    | tup ys =>
      obtain ⟨a, vs, e1, qa, ra⟩ := rx
      obtain ⟨b, ws, e2, qb, rb⟩ := ry
      cases op with
      | Add =>
        obtain ⟨hl, q⟩ := k
        have l1 := ra.length
        have l2 := rb.length
        refine op_catA pins s σl H v w v' w' Qv I rv rw' ⟨a, b, vs, ws, e1, e2, qa, qb, by omega, fun z => ?_, fun _ z => ?_, fun _ _ => ?_⟩
        · have z' : xs = [] := (ra.nil_iff).mp z
          subst z'
          exact out.now (G := G) q ⟨b, ws, rfl, qb, rb⟩ sr
        · have z' : ys = [] := (rb.nil_iff).mp z
          subst z'
          rw [List.append_nil] at q
          exact out.now (G := G) q ⟨a, vs, rfl, qa, ra⟩ sr
        · exact out.tup q (ra.append rb) sr
      | _ => exact False.elim k
    | int n =>
      obtain ⟨a, vs, e1, qa, ra⟩ := rx
      have e2 : w = .int n := ry
      cases op with
      | Mult =>
        obtain ⟨k1, k2, hl, q⟩ := k
        refine op_repA pins s σl H v w v' w' Qv I rv rw' ⟨a, n, vs, e1, e2, qa, k1, k2, by rw [ra.length]; exact hl, fun z => ?_, out.tup q (rps_flat ra _) sr⟩
        rcases z with z | z
        · have z' : xs = [] := (ra.nil_iff).mp z
          subst z'
          have e : (List.replicate n.toNat ([] : List D)).flatten = [] := by simp
          rw [e] at q
          exact out.now (G := G) q ⟨a, vs, rfl, qa, ra⟩ sr
        · subst z
          have e : (List.replicate (1 : Int).toNat xs).flatten = xs := by simp
          rw [e] at q
          exact out.now (G := G) q ⟨a, vs, rfl, qa, ra⟩ sr
      | _ => exact False.elim k
    | _ => cases op <;> exact False.elim k
  | ref a =>
    cases y with
    | ref b =>
      have e1 : v = .ref a := rx
      have e2 : w = .ref b := ry
      cases op with
      | Add =>
        obtain ⟨xs, ys, h1, h2, hl, q⟩ := k
        obtain ⟨vs, e3, r1⟩ := sr.gr a _ h1
        obtain ⟨ws, e4, r2⟩ := sr.gr b _ h2
        have l1 := r1.length
        have l2 := r2.length
        exact op_cat pins s σl H v w v' w' Qv I rv rw' ⟨a, b, vs, ws, e1, e2, e3, e4, by omega, out.lst q (r1.append r2) sr⟩
      | _ => exact False.elim k
    | int n =>
      have e1 : v = .ref a := rx
      have e2 : w = .int n := ry
      cases op with
      | Mult =>
        obtain ⟨xs, h1, k1, k2, hl, q⟩ := k
        obtain ⟨vs, e3, r1⟩ := sr.gr a _ h1
        exact op_rep pins s σl H v w v' w' Qv I rv rw' ⟨a, n, vs, e1, e2, e3, k1, k2, by rw [r1.length]; exact hl, out.lst q (rps_flat r1 _) sr⟩
      | _ => exact False.elim k
    | _ => cases op <;> exact False.elim k
  | _ => cases op <;> exact False.elim k
def negD : D → DH → QD → Prop
  | .int i, G, Q => Q (.int (-i)) G
  | _, _, _ => False
theorem un_negD : UnR X (unaryOp .USub) (RU X.K negD) := by
  intro pins s σl H v v' Qv I rv h
  obtain ⟨R, H0, σ, σv, x, G, Q, rx, sr, k, out⟩ := h
  cases x with
  | int i => exact un_neg pins s σl H v v' Qv I rv ⟨i, rx, out.now (G := G) k rfl sr⟩
  | _ => exact False.elim k
end

/-! ### == and != of data -/
mutual
/-- data over the plain heap -/
inductive Py (G : DH) : D → PyData → Prop
  | non : Py G .non .none
  | bl (b : Bool) : Py G (.bl b) (.bool b)
  | int (i : Int) : Py G (.int i) (.int i)
  | str (x : Str) : Py G (.str x) (.str x)
  | tup {ds : List D} {ps : List PyData} : Pys G ds ps → Py G (.tup ds) (.tuple ps)
  | lst {a : Addr} {ds : List D} {ps : List PyData} : sqAt G a = some ds → Pys G ds ps → Py G (.ref a) (.list ps)
inductive Pys (G : DH) : List D → List PyData → Prop
  | nil : Pys G [] []
  | cons {d : D} {ds : List D} {p : PyData} {ps : List PyData} : Py G d p → Pys G ds ps → Pys G (d :: ds) (p :: ps)
end
section
variable {K : PySem.W.Frag} {R : Addr → Prop} {H0 H : Hp} {σ : Sg} {G : DH} {σv : L2.St}
mutual
theorem Py.dp (s : SR K R H0 σ G σv H) : ∀ (p : PyData) (d : D) (v : V), Py G d p → Rp K H d v → Dp K H v p
  | .none, _, _, h, r => by
    cases h
    rw [show _ = V.non from r]; exact .non
  | .bool b, _, _, h, r => by
    cases h
    rw [show _ = V.bl b from r]; exact .bl b
  | .int i, _, _, h, r => by
    cases h
    rw [show _ = V.int i from r]; exact .int i
  | .str x, _, _, h, r => by
    cases h
    rw [show _ = V.str x from r]; exact .str x
  | .list ps, _, _, h, r => by
    cases h with
    | lst e q =>
      rw [show _ = V.ref _ from r]
      obtain ⟨vs, e1, r1⟩ := s.sqL e
      exact .lst e1 (Pys.dp s ps _ _ q r1)
  | .tuple ps, _, _, h, r => by
    cases h with
    | tup q =>
      obtain ⟨a, vs, e, e1, r1⟩ := r
      rw [e]
      exact .tup e1 (Pys.dp s ps _ _ q r1)
  | .dict _, _, _, h, _ => by cases h
theorem Pys.dp (s : SR K R H0 σ G σv H) : ∀ (ps : List PyData) (ds : List D) (vs : List V), Pys G ds ps → Rps K H ds vs → DpAll K H vs ps
  | [], _, _, h, r => by
    cases h
    rw [show _ = [] from r]; exact .nil
  | p :: ps, _, _, h, r => by
    cases h with
    | cons h1 h2 =>
      obtain ⟨v, ws, e, r1, r2⟩ := r
      rw [e]
      exact .cons (Py.dp s p _ _ h1 r1) (Pys.dp s ps _ _ h2 r2)
end
end
/-- == of scalars -/
def sEq : D → D → Option Bool
  | .non, .non => some true
  | .int i, .int j => some (decide (i = j))
  | .bl a, .bl b => some (decide (a = b))
  | .str x, .str y => some (decide (x = y))
  | .non, .int _ => some false
  | .int _, .non => some false
  | .non, .bl _ => some false
  | .bl _, .non => some false
  | .non, .str _ => some false
  | .str _, .non => some false
  | .int _, .str _ => some false
  | .str _, .int _ => some false
  | .bl _, .str _ => some false
  | .str _, .bl _ => some false
  | _, _ => none
/-- == of two values -/
def eqD (x y : D) (G : DH) (Q : Bool → Prop) : Prop := match sEq x y with
  | some b => Q b
  | none => ∃ p q, Py G x p ∧ Py G y q ∧ SeqAt.shaped p = true ∧ SeqAt.shaped q = true ∧ Q (PyData.eqv p q)
theorem sEq_ok {K : PySem.W.Frag} {H : Hp} {x y : D} {v w : V} {b : Bool} (h : sEq x y = some b) (rx : Rp K H x v) (ry : Rp K H y w) : scal v w = true ∧ decide (v = w) = b := by
  cases x <;> cases y <;> first
    | (simp only [sEq] at h; cases h; rw [show v = _ from rx, show w = _ from ry]; exact ⟨rfl, by simp⟩)
    | (exact absurd (show none = some b from h) (by simp))
/-- membership: flat items, a sign in a text -/
def flD : D → Bool
  | .non => true | .bl _ => true | .int _ => true | .str _ => true | _ => false
def feqD : D → D → Bool
  | .non, .non => true
  | .bl a, .bl b => a == b
  | .bl a, .int b => (if a then 1 else 0) == b
  | .int a, .bl b => a == (if b then 1 else 0)
  | .int a, .int b => a == b
  | .str a, .str b => a == b
  | _, _ => false
theorem fl_ok {K : PySem.W.Frag} {H : Hp} {x : D} {v : V} (h : flD x = true) (rx : Rp K H x v) : flatV v = true := by
  cases x <;> first
    | (rw [show v = _ from rx]; rfl)
    | (exact absurd (show false = true from h) Bool.false_ne_true)
/-- a flat one, or a tuple -/
def flT : D → Bool
  | .tup _ => true | d => flD d
def VOk (K : PySem.W.Frag) (H : Hp) (v : V) : Prop := flatV v = true ∨ ∃ a ys, v = .ref a ∧ SqT K H a ys
theorem flt_ok {K : PySem.W.Frag} {H : Hp} {x : D} {v : V} (h : flT x = true) (rx : Rp K H x v) : VOk K H v := by
  cases x with
  | tup ds =>
    obtain ⟨a, vs, e, q, _⟩ := rx
    exact .inr ⟨a, vs, e, q⟩
  | _ => exact .inl (fl_ok (by exact h) rx)
theorem fls_ok {K : PySem.W.Frag} {H : Hp} : ∀ {xs : List D} {vs : List V}, xs.all flT = true → Rps K H xs vs → ∀ v ∈ vs, VOk K H v
  | [], _, _, r => by rw [show _ = [] from r]; exact fun v hv => by cases hv
  | x :: xs, _, h, r => by
    obtain ⟨v, ws, e, r1, r2⟩ := r
    rw [List.all_cons, Bool.and_eq_true] at h
    rw [e]
    intro w hw
    rcases List.mem_cons.mp hw with z | z
    · rw [z]; exact flt_ok h.1 r1
    · exact fls_ok h.2 r2 w z
theorem eqV_ref {a : Addr} {x : V} (h : flatV x = true) : eqV (.ref a) x = false := by
  cases x <;> first
    | rfl
    | (exact absurd (show false = true from h) Bool.false_ne_true)
theorem eqAt_ref {A : Around} {s : Shared} {a : Addr} {items : Array Value} {x : V} {v : Value} (hl : s.heap.IsTuple a items) (hu : A.units < cLine) (rx : RelV x v) (fx : flatV x = true) : SeqAt.EqAt A s (.ref a) v false := by
  cases x with
  | non => cases rx; exact SeqAt.EqAt.tuple_none hl hu
  | bl b => cases rx; exact SeqAt.EqAt.tuple_bool b hl hu
  | int b => obtain ⟨t, rfl⟩ := rx; exact SeqAt.EqAt.tuple_int b t hl hu
  | str b => obtain ⟨t, rfl⟩ := rx; exact SeqAt.EqAt.tuple_str b t hl hu
  | _ => exact absurd (show false = true from fx) Bool.false_ne_true
theorem feq_ok {K : PySem.W.Frag} {H : Hp} {x y : D} {v w : V} (hx : flD x = true) (hy : flD y = true) (rx : Rp K H x v) (ry : Rp K H y w) : eqV v w = feqD x y := by
  cases x <;> cases y <;> first
    | (rw [show v = _ from rx, show w = _ from ry]; rfl)
    | (exact absurd (show false = true from hx) Bool.false_ne_true)
    | (exact absurd (show false = true from hy) Bool.false_ne_true)
def inD (x : D) (xs : List D) : Bool := xs.any fun y => feqD y x
theorem feq_ok2 {K : PySem.W.Frag} {H : Hp} {x y : D} {v w : V} (hx : flT x = true) (hy : flD y = true) (rx : Rp K H x v) (ry : Rp K H y w) : eqV v w = feqD x y := by
  cases x with
  | tup ds =>
    obtain ⟨a, vs, e, q, _⟩ := rx
    rw [e, eqV_ref (fl_ok hy ry)]
    cases y <;> rfl
  | _ => exact feq_ok (by exact hx) hy rx ry
theorem in_ok {K : PySem.W.Frag} {H : Hp} {x : D} {v : V} (hx : flD x = true) (rx : Rp K H x v) : ∀ {xs : List D} {vs : List V}, xs.all flT = true → Rps K H xs vs → inV v vs = inD x xs
  | [], _, _, r => by rw [show _ = [] from r]; rfl
  | y :: xs, _, h, r => by
    obtain ⟨w, ws, e, r1, r2⟩ := r
    rw [List.all_cons, Bool.and_eq_true] at h
    have ih := in_ok hx rx h.2 r2
    unfold inV inD at ih ⊢
    rw [e, List.any_cons, List.any_cons, feq_ok2 h.1 hx r1 rx, ih]
section
variable {X : Cx}
theorem any_eqU2 {K : PySem.W.Frag} {H : Hp} {x : V} (fx : flatV x = true) : ∀ {xs : List V} {us : List Value}, Vals xs us → (∀ v ∈ xs, VOk K H v) → us.any (eqU x) = xs.any fun y => eqV y x
  | _, _, .nil, _ => rfl
  | y :: xs, u :: us, .cons r t, f => by
    rw [List.any_cons, List.any_cons, any_eqU2 fx t fun v hv => f v (List.mem_cons_of_mem _ hv)]
    congr 1
    rcases f y List.mem_cons_self with z | ⟨a, ys, e, _⟩
    · exact eqU_of r z
    · subst e
      cases r
      rw [eqV_ref fx]; rfl
def rIn2 (K : PySem.W.Frag) (neg : Bool) : R2 := fun x y H Q => ∃ p xs, y = .ref p ∧ (SqL K H p xs ∨ SqT K H p xs) ∧ flatV x = true ∧ (∀ v ∈ xs, VOk K H v) ∧ Q (.bl (if neg then !inV x xs else inV x xs)) H
theorem op_in_seq2 (hu : X.A.units + 64 < cLine) : OpR X (compareOp .In) (rIn2 X.K false) := by
  intro pins s σ H x y v u Q I rx ry h
  obtain ⟨p, xs, rfl, hq, fx, fs, q⟩ := h
  cases ry
  have mem : ∀ {xs : List V} {us : List Value}, Vals xs us → (∀ v ∈ xs, VOk X.K H v) → ∀ u ∈ us, SeqAt.EqAt X.A.in1 s u v (eqU x u) := by
    intro xs us r
    induction r with
    | nil => exact fun _ u hu => by cases hu
    | @cons y u xs us r t ih =>
      intro f u' hu'
      rcases List.mem_cons.mp hu' with rfl | h
      · rcases f y List.mem_cons_self with z | ⟨a, ys, e, ht⟩
        · rw [eqU_of r z]; exact eqAt_V r rx z fx
        · subst e
          cases r
          obtain ⟨its, _, pl, _⟩ := I.tuple ht
          exact eqAt_ref pl (by show X.A.units + 1 < cLine; omega) rx fx
      · exact ih (fun v hv => f v (List.mem_cons_of_mem _ hv)) u' h
  rcases hq with hq | hq
  · obtain ⟨its, r, pl, hz⟩ := I.list hq
    refine SeqAt.in_listAt (eqU x) pl.isList (fun w hw => mem r fs w (by simpa using hw)) ⟨.bl _, H, I, rfl, ?_⟩
    rw [show its.toArray.any (eqU x) = its.any (eqU x) by simp, any_eqU2 fx r fs]
    exact q
  · obtain ⟨its, r, pl, hz⟩ := I.tuple hq
    refine SeqAt.in_tupleAt (eqU x) pl (fun w hw => mem r fs w (by simpa using hw)) ⟨.bl _, H, I, rfl, ?_⟩
    rw [show its.toArray.any (eqU x) = its.any (eqU x) by simp, any_eqU2 fx r fs]
    exact q
theorem op_notIn_seq2 (hu : X.A.units + 64 < cLine) : OpR X (compareOp .NotIn) (rIn2 X.K true) := by
  intro pins s σ H x y v u Q I rx ry h
  obtain ⟨p, xs, rfl, hq, fx, fs, q⟩ := h
  cases ry
  have mem : ∀ {xs : List V} {us : List Value}, Vals xs us → (∀ v ∈ xs, VOk X.K H v) → ∀ u ∈ us, SeqAt.EqAt X.A.in1 s u v (eqU x u) := by
    intro xs us r
    induction r with
    | nil => exact fun _ u hu => by cases hu
    | @cons y u xs us r t ih =>
      intro f u' hu'
      rcases List.mem_cons.mp hu' with rfl | h
      · rcases f y List.mem_cons_self with z | ⟨a, ys, e, ht⟩
        · rw [eqU_of r z]; exact eqAt_V r rx z fx
        · subst e
          cases r
          obtain ⟨its, _, pl, _⟩ := I.tuple ht
          exact eqAt_ref pl (by show X.A.units + 1 < cLine; omega) rx fx
      · exact ih (fun v hv => f v (List.mem_cons_of_mem _ hv)) u' h
  rcases hq with hq | hq
  · obtain ⟨its, r, pl, hz⟩ := I.list hq
    refine SeqAt.notIn_listAt (eqU x) pl.isList (fun w hw => mem r fs w (by simpa using hw)) ⟨.bl _, H, I, rfl, ?_⟩
    rw [show its.toArray.any (eqU x) = its.any (eqU x) by simp, any_eqU2 fx r fs]
    exact q
  · obtain ⟨its, r, pl, hz⟩ := I.tuple hq
    refine SeqAt.notIn_tupleAt (eqU x) pl (fun w hw => mem r fs w (by simpa using hw)) ⟨.bl _, H, I, rfl, ?_⟩
    rw [show its.toArray.any (eqU x) = its.any (eqU x) by simp, any_eqU2 fx r fs]
    exact q
end
def memD (neg : Bool) : D → D → DH → QD → Prop
  | .str c, .str z, G, Q => ∃ n, c = ⟨#[n]⟩ ∧ Q (.bl (if neg then !decide (n ∈ z.cps.toList) else decide (n ∈ z.cps.toList))) G
  | x, .tup xs, G, Q => flD x = true ∧ xs.all flT = true ∧ Q (.bl (if neg then !inD x xs else inD x xs)) G
  | x, .ref a, G, Q => ∃ xs, sqAt G a = some xs ∧ flD x = true ∧ xs.all flT = true ∧ Q (.bl (if neg then !inD x xs else inD x xs)) G
  | _, _, _, _ => False
def isD (neg : Bool) : D → D → DH → QD → Prop
  | .bl a, .bl b, G, Q => Q (.bl (if neg then !decide (a = b) else decide (a = b))) G
  | .non, .non, G, Q => Q (.bl (!neg)) G
  | .bl _, .non, G, Q => Q (.bl neg) G
  | .int _, .non, G, Q => Q (.bl neg) G
  | .str _, .non, G, Q => Q (.bl neg) G
  | .tup _, .non, G, Q => Q (.bl neg) G
  | .ref _, .non, G, Q => Q (.bl neg) G
  | .lsv _, .non, G, Q => Q (.bl neg) G
  | _, _, _, _ => False
def cmpD : CmpOp → D → D → DH → QD → Prop
  | .Eq, x, y, G, Q => eqD x y G fun b => Q (.bl b) G
  | .NotEq, x, y, G, Q => eqD x y G fun b => Q (.bl (!b)) G
  | .Is, x, y, G, Q => isD false x y G Q
  | .IsNot, x, y, G, Q => isD true x y G Q
  | .In, x, y, G, Q => memD false x y G Q
  | .NotIn, x, y, G, Q => memD true x y G Q
  | .Lt, .int i, .int j, G, Q => Q (.bl (decide (i < j))) G
  | .LtE, .int i, .int j, G, Q => Q (.bl (decide (i ≤ j))) G
  | .Gt, .int i, .int j, G, Q => Q (.bl (decide (j < i))) G
  | .GtE, .int i, .int j, G, Q => Q (.bl (decide (j ≤ i))) G
  | _, _, _, _, _ => False
section
variable {X : Cx}
theorem op_cmpD (hu : X.A.units + 64 < cLine) (op : CmpOp) : OpR X (compareOp op) (RB X.K (cmpD op)) := by
  intro pins s σl H v w v' w' Qv I rv rw' h
  obtain ⟨R, H0, σ, σv, x, y, G, Q, rx, ry, sr, k, out⟩ := h
  have nu : ∀ b, Q (.bl b) G → Qv (.bl b) H := fun b q => out.now q rfl sr
  have mem : ∀ neg, memD neg x y G Q → OpR X (compareOp (if neg then .NotIn else .In)) (rIn2 X.K neg) → OpR X (compareOp (if neg then .NotIn else .In)) (fun x y H Q => ∃ (c : Nat) (z : Str), x = .str ⟨#[c]⟩ ∧ y = .str z ∧ Q (.bl (if neg then !decide (c ∈ z.cps.toList) else decide (c ∈ z.cps.toList))) H) →
      wpAny (model X.prog X.w) X.A (compareOp (if neg then .NotIn else .In) v' w') (EP X pins σl Qv) X.xe s := by
    intro neg k o1 o2
    have main : ∀ xs vs p, w = .ref p → (SqL X.K H p vs ∨ SqT X.K H p vs) → Rps X.K H xs vs → flD x = true → xs.all flT = true → Q (.bl (if neg then !inD x xs else inD x xs)) G →
        wpAny (model X.prog X.w) X.A (compareOp (if neg then .NotIn else .In) v' w') (EP X pins σl Qv) X.xe s := fun xs vs p e q r fx fs qq => by
      refine o1 pins s σl H v w v' w' Qv I rv rw' ⟨p, vs, e, q, fl_ok fx rx, fls_ok fs r, ?_⟩
      rw [in_ok fx rx fs r]
      exact nu _ qq
    cases y with
    | str z =>
      cases x with
      | str c =>
        obtain ⟨n, e, q⟩ := k
        subst e
        exact o2 pins s σl H v w v' w' Qv I rv rw' ⟨n, z, rx, ry, nu _ q⟩
      | _ => exact False.elim k
    | tup xs =>
      have k' : flD x = true ∧ xs.all flT = true ∧ Q (.bl (if neg then !inD x xs else inD x xs)) G := by cases x <;> exact k
      obtain ⟨fx, fs, q⟩ := k'
      obtain ⟨a, vs, e, q1, r1⟩ := ry
      exact main xs vs a e (.inr q1) r1 fx fs q
    | ref a =>
      have k' : ∃ xs, sqAt G a = some xs ∧ flD x = true ∧ xs.all flT = true ∧ Q (.bl (if neg then !inD x xs else inD x xs)) G := by cases x <;> exact k
      obtain ⟨xs, e, fx, fs, q⟩ := k'
      obtain ⟨vs, e1, r1⟩ := sr.sqL e
      exact main xs vs a ry (.inl e1) r1 fx fs q
    | _ => cases x <;> exact False.elim k
  cases op with
  | Eq =>
    have k' : eqD x y G fun b => Q (.bl b) G := k
    unfold eqD at k'
    cases e : sEq x y with
    | some b =>
      rw [e] at k'
      obtain ⟨h1, h2⟩ := sEq_ok e rx ry
      exact op_eq pins s σl H v w v' w' Qv I rv rw' ⟨h1, by rw [h2]; exact nu _ k'⟩
    | none =>
      rw [e] at k'
      obtain ⟨p, q, hp, hq, sp, sq, k'⟩ := k'
      exact op_eqD hu pins s σl H v w v' w' Qv I rv rw' ⟨p, q, Py.dp sr p x v hp rx, Py.dp sr q y w hq ry, sp, sq, nu _ k'⟩
  | NotEq =>
    have k' : eqD x y G fun b => Q (.bl (!b)) G := k
    unfold eqD at k'
    cases e : sEq x y with
    | some b =>
      rw [e] at k'
      obtain ⟨h1, h2⟩ := sEq_ok e rx ry
      exact op_ne pins s σl H v w v' w' Qv I rv rw' ⟨h1, by rw [h2]; exact nu _ k'⟩
    | none =>
      rw [e] at k'
      obtain ⟨p, q, hp, hq, sp, sq, k'⟩ := k'
      exact op_neD hu pins s σl H v w v' w' Qv I rv rw' ⟨p, q, Py.dp sr p x v hp rx, Py.dp sr q y w hq ry, sp, sq, nu _ k'⟩
  | Is =>
    have k' : isD false x y G Q := k
    cases y with
    | non =>
      refine op_isN pins s σl H v w v' w' Qv I rv rw' ⟨ry, ?_⟩
      cases x with
      | non => rw [show v = V.non from rx]; exact nu _ k'
      | bl b => rw [show v = V.bl b from rx]; exact nu _ k'
      | int b => rw [show v = V.int b from rx]; exact nu _ k'
      | str b => rw [show v = V.str b from rx]; exact nu _ k'
      | ref b => rw [show v = V.ref b from rx]; exact nu _ k'
      | tup ds => obtain ⟨a, vs, e, _⟩ := rx; rw [e]; exact nu _ k'
      | lsv ds => obtain ⟨a, vs, e, _⟩ := rx; rw [e]; exact nu _ k'
    | bl b =>
      cases x with
      | bl a => exact op_isBl pins s σl H v w v' w' Qv I rv rw' ⟨a, b, rx, ry, nu _ k'⟩
      | _ => exact False.elim k'
    | _ => cases x <;> exact False.elim k'
  | IsNot =>
    have k' : isD true x y G Q := k
    cases y with
    | non =>
      refine op_notN pins s σl H v w v' w' Qv I rv rw' ⟨ry, ?_⟩
      cases x with
      | non => rw [show v = V.non from rx]; exact nu _ k'
      | bl b => rw [show v = V.bl b from rx]; exact nu _ k'
      | int b => rw [show v = V.int b from rx]; exact nu _ k'
      | str b => rw [show v = V.str b from rx]; exact nu _ k'
      | ref b => rw [show v = V.ref b from rx]; exact nu _ k'
      | tup ds => obtain ⟨a, vs, e, _⟩ := rx; rw [e]; exact nu _ k'
      | lsv ds => obtain ⟨a, vs, e, _⟩ := rx; rw [e]; exact nu _ k'
    | bl b =>
      cases x with
      | bl a => exact op_notBl pins s σl H v w v' w' Qv I rv rw' ⟨a, b, rx, ry, nu _ k'⟩
      | _ => exact False.elim k'
    | _ => cases x <;> exact False.elim k'
  | In => exact mem false k (op_in_seq2 hu) op_in_sign
  | NotIn => exact mem true k (op_notIn_seq2 hu) op_notIn_sign
  | Lt => cases x <;> cases y <;> first | exact op_lt pins s σl H v w v' w' Qv I rv rw' ⟨_, _, rx, ry, nu _ k⟩ | exact False.elim k
  | LtE => cases x <;> cases y <;> first | exact op_le pins s σl H v w v' w' Qv I rv rw' ⟨_, _, rx, ry, nu _ k⟩ | exact False.elim k
  | Gt => cases x <;> cases y <;> first | exact op_gt pins s σl H v w v' w' Qv I rv rw' ⟨_, _, rx, ry, nu _ k⟩ | exact False.elim k
  | GtE => cases x <;> cases y <;> first | exact op_ge pins s σl H v w v' w' Qv I rv rw' ⟨_, _, rx, ry, nu _ k⟩ | exact False.elim k
end

/-! ### subscripts, slices, truth -/
theorem Rps.atI {K : PySem.W.Frag} {H : Hp} {ds : List D} {vs : List V} {i : Int} {d : D} (r : Rps K H ds vs) (h : L2.atI ds i = some d) : ∃ v, L2.atI vs i = some v ∧ Rp K H d v := by
  have hl := r.length
  unfold L2.atI at h ⊢
  rw [hl]
  cases e : ixN ds.length i with
  | none => rw [e] at h; cases h
  | some j =>
    rw [e] at h
    exact r.get h
def ixD : D → D → DH → QD → Prop
  | .tup ds, .int i, G, Q => ∃ d, atI ds i = some d ∧ Q d G
  | .ref a, .int i, G, Q => ∃ ds d, sqAt G a = some ds ∧ atI ds i = some d ∧ Q d G
  | .lsv ds, .int i, G, Q => ∃ d, atI ds i = some d ∧ Q d G
  | .str z, .int i, G, Q => ∃ c, z.length ≤ sizeLine ∧ atI z.cps.toList i = some c ∧ Q (.str ⟨#[c]⟩) G
  | _, _, _, _ => False
def cutL (xs : List D) (lo hi : Option Int) : List D := (xs.drop (HT.sIx xs.length 0 lo)).take (HT.sIx xs.length xs.length hi - HT.sIx xs.length 0 lo)
theorem Rps.cut {K : PySem.W.Frag} {H : Hp} {ds : List D} {vs : List V} (r : Rps K H ds vs) (lo hi : Option Int) : Rps K H (cutL ds lo hi) (cutV vs lo hi) := by
  unfold cutL cutV
  rw [r.length]
  exact (r.drop _).take _
def slD (lo hi : Option Int) : D → DH → QD → Prop
  | .tup ds, G, Q => Q (.tup (cutL ds lo hi)) G
  | .str z, G, Q => z.length ≤ sizeLine ∧ Q (.str (cutS z lo hi)) G
  | .ref a, G, Q => ∃ ds, sqAt G a = some ds ∧ ∀ p, G p = none → Q (.ref p) (put G p (.lst (cutL ds lo hi)))
  | .lsv ds, G, Q => ∀ p, G p = none → Q (.ref p) (put G p (.lst (cutL ds lo hi)))
  | _, _, _ => False
def RSl (K : PySem.W.Frag) : V → Option Int → Option Int → Hp → VK → Prop := fun v lo hi H Qv => ∃ R H0 σ σv x G Q, Rp K H x v ∧ SR K R H0 σ G σv H ∧ slD lo hi x G Q ∧ Out K R H0 σ σv H Q Qv
section
variable {X : Cx}
theorem ix_D : IxR X (RB X.K ixD) := by
  intro va sa pins s σl H v w v' w' Qv I rv rw' h hs
  obtain ⟨R, H0, σ, σv, x, y, G, Q, rx, ry, sr, k, out⟩ := h
  cases y with
  | int i =>
    cases x with
    | tup ds =>
      obtain ⟨d, e, q⟩ := k
      obtain ⟨a, vs, e1, q1, r1⟩ := rx
      obtain ⟨z, e2, r2⟩ := r1.atI e
      exact ix_tup va sa pins s σl H v w v' w' Qv I rv rw' ⟨a, vs, i, z, e1, ry, q1, e2, out.now q r2 sr⟩ hs
    | ref a =>
      obtain ⟨ds, d, e0, e, q⟩ := k
      obtain ⟨vs, q1, r1⟩ := sr.sqL e0
      obtain ⟨z, e2, r2⟩ := r1.atI e
      exact ix_list va sa pins s σl H v w v' w' Qv I rv rw' ⟨a, vs, i, z, rx, ry, q1, e2, out.now q r2 sr⟩ hs
    | lsv ds =>
      obtain ⟨d, e, q⟩ := k
      obtain ⟨a, vs, e1, q1, r1⟩ := rx
      obtain ⟨z, e2, r2⟩ := r1.atI e
      exact ix_list va sa pins s σl H v w v' w' Qv I rv rw' ⟨a, vs, i, z, e1, ry, q1.l, e2, out.now q r2 sr⟩ hs
    | str z =>
      obtain ⟨c, hl, e, q⟩ := k
      exact ix_str va sa pins s σl H v w v' w' Qv I rv rw' ⟨z, i, c, rx, ry, hl, e, out.now (G := G) q rfl sr⟩ hs
    | _ => exact False.elim k
  | _ => cases x <;> exact False.elim k
theorem sl_D : SlR X (RSl X.K) := by
  intro pins s σl H v v' vl vu lo hi sl Qv I rv hs pl pu h
  obtain ⟨R, H0, σ, σv, x, G, Q, rx, sr, k, out⟩ := h
  cases x with
  | tup ds =>
    obtain ⟨a, vs, e1, q1, r1⟩ := rx
    refine sl_tupA pins s σl H v v' vl vu lo hi sl Qv I rv hs pl pu ⟨a, vs, e1, q1, fun hw => ?_, fun _ => out.tup k (r1.cut lo hi) sr⟩
    have e : cutL ds lo hi = ds := by
      unfold cutL
      rw [r1.length] at hw
      rw [hw.1, hw.2, List.drop_zero, Nat.sub_zero, List.take_length]
    have k' : Q (.tup (cutL ds lo hi)) G := k
    rw [e] at k'
    exact out.now k' ⟨a, vs, rfl, q1, r1⟩ sr
  | str z => exact sl_str pins s σl H v v' vl vu lo hi sl Qv I rv hs pl pu ⟨z, rx, k.1, out.now (G := G) k.2 rfl sr⟩
  | ref a =>
    obtain ⟨ds, e, q⟩ := k
    obtain ⟨vs, q1, r1⟩ := sr.sqL e
    exact sl_list pins s σl H v v' vl vu lo hi sl Qv I rv hs pl pu ⟨a, vs, rx, q1, out.lst q (r1.cut lo hi) sr⟩
  | lsv ds =>
    obtain ⟨a, vs, e1, q1, r1⟩ := rx
    exact sl_list pins s σl H v v' vl vu lo hi sl Qv I rv hs pl pu ⟨a, vs, e1, q1.l, out.lst k (r1.cut lo hi) sr⟩
  | _ => exact False.elim k
end
def truD : D → DH → (Bool → DH → Prop) → Prop
  | .non, G, Q => Q false G
  | .bl b, G, Q => Q b G
  | .int i, G, Q => Q (i != 0) G
  | .str z, G, Q => z.length ≤ sizeLine ∧ Q ((z.length : Int) != 0) G
  | .tup ds, G, Q => Q (!ds.isEmpty) G
  | .ref a, G, Q => ∃ ds, sqAt G a = some ds ∧ Q (!ds.isEmpty) G
  | .lsv ds, G, Q => Q (!ds.isEmpty) G
theorem Rps.empty {K : PySem.W.Frag} {H : Hp} {ds : List D} {vs : List V} (r : Rps K H ds vs) : vs.isEmpty = ds.isEmpty := by
  have := r.length
  cases ds <;> cases vs <;> simp_all
theorem tru_D {K : PySem.W.Frag} {R : Addr → Prop} {H0 H : Hp} {σ : Sg} {G : DH} {σv : L2.St} {x : D} {v : V} {Q : Bool → DH → Prop} (sr : SR K R H0 σ G σv H) (rx : Rp K H x v) (k : truD x G Q) : ∃ b, TruV K v H b ∧ Q b G := by
  cases x with
  | non => rw [show v = V.non from rx]; exact ⟨false, rfl, k⟩
  | bl b => rw [show v = V.bl b from rx]; exact ⟨b, rfl, k⟩
  | int i => rw [show v = V.int i from rx]; exact ⟨_, rfl, k⟩
  | str z => rw [show v = V.str z from rx]; exact ⟨_, ⟨k.1, rfl⟩, k.2⟩
  | tup ds =>
    obtain ⟨a, vs, e1, q1, r1⟩ := rx
    rw [e1]
    exact ⟨_, .inr (.inl ⟨vs, q1, by rw [r1.empty]⟩), k⟩
  | ref a =>
    obtain ⟨ds, e, q⟩ := k
    obtain ⟨vs, q1, r1⟩ := sr.sqL e
    rw [show v = V.ref a from rx]
    exact ⟨_, .inl ⟨vs, q1, by rw [r1.empty]⟩, q⟩
  | lsv ds =>
    obtain ⟨a, vs, e1, q1, r1⟩ := rx
    rw [e1]
    exact ⟨_, .inl ⟨vs, q1.l, by rw [r1.empty]⟩, k⟩
end DL

set_option Elab.async false
set_option linter.all false
set_option maxRecDepth 100000
set_option maxHeartbeats 4000000
/-! DL3: built-ins and methods on plain values. -/
namespace DL
open PySem PySem.Spec PyProof.Rows L2
/-- the built-ins that are called by their names -/
inductive BI where
  | len | abs | int | str | sum | max | min | all | any | list | tuple | gcd | comb
  deriving DecidableEq
def BI.name : BI → Str
  | .len => "len" | .abs => "abs" | .int => "int" | .str => "str" | .sum => "sum" | .max => "max" | .min => "min" | .all => "all" | .any => "any"
  | .list => "list" | .tuple => "tuple" | .gcd => "gcd" | .comb => "comb"
def BI.val : BI → Value
  | .len => .builtin "len" | .abs => .builtin "abs" | .int => .type "int" | .str => .type "str" | .sum => .builtin "sum" | .max => .builtin "max" | .min => .builtin "min"
  | .all => .builtin "all" | .any => .builtin "any" | .list => .type "list" | .tuple => .type "tuple" | .gcd => .builtin "math.gcd" | .comb => .builtin "math.comb"
def bi1 : BI → D → DH → QD → Prop
  | .len => fun x G Q => match x with
    | .tup ds => Q (.int ds.length) G
    | .ref a => match sqAt G a with
      | some ds => Q (.int ds.length) G
      | none => ∃ kvs, G a = some (.dct kvs) ∧ Q (.int kvs.length) G
    | .lsv ds => Q (.int ds.length) G
    | .str z => z.length ≤ sizeLine ∧ Q (.int z.length) G
    | _ => False
  | .abs => fun x G Q => match x with
    | .int i => Q (.int (i.natAbs : Nat)) G
    | _ => False
  | .int => fun x G Q => match x with
    | .int i => Q (.int i) G
    | .bl b => Q (.int (if b then 1 else 0)) G
    | .str z => ∃ n, PySem.intText? z = some n ∧ z.length ≤ 640 ∧ Q (.int n) G
    | _ => False
  | .str => fun x G Q => match x with
    | .int i => i.natAbs.log2 < 1920 ∧ Q (.str (intS i)) G
    | _ => False
  | .sum => fun x G Q => match x with
    | .ref a => ∃ ns : List Int, sqAt G a = some (ns.map D.int) ∧ Q (.int ns.sum) G
    | _ => False
  | .all => fun x G Q => match x with
    | .ref a => ∃ bs : List Bool, sqAt G a = some (bs.map D.bl) ∧ Q (.bl (bs.all id)) G
    | _ => False
  | .any => fun x G Q => match x with
    | .ref a => ∃ bs : List Bool, sqAt G a = some (bs.map D.bl) ∧ Q (.bl (bs.any id)) G
    | _ => False
  | .max => fun x G Q => match x with
    | .ref a => ∃ ns : List Int, sqAt G a = some (ns.map D.int) ∧ 0 < ns.length ∧ ∀ m, m ∈ ns → (∀ y, y ∈ ns → y ≤ m) → Q (.int m) G
    | _ => False
  | .min => fun x G Q => match x with
    | .ref a => ∃ ns : List Int, sqAt G a = some (ns.map D.int) ∧ 0 < ns.length ∧ ∀ m, m ∈ ns → (∀ y, y ∈ ns → m ≤ y) → Q (.int m) G
    | _ => False
  | .list => fun x G Q => match x with
    | .tup ds => ∀ p, G p = none → Q (.ref p) (put G p (.lst ds))
    | .ref a => ∃ ds, sqAt G a = some ds ∧ ∀ p, G p = none → Q (.ref p) (put G p (.lst ds))
    | _ => False
  | .tuple => fun x G Q => match x with
    | .tup ds => Q (.tup ds) G
    | .ref a => ∃ ds, sqAt G a = some ds ∧ Q (.tup ds) G
    | _ => False
  | .gcd => fun _ _ _ => False
  | .comb => fun _ _ _ => False
def bi2 : BI → D → D → DH → QD → Prop
  | .max => fun x y G Q => match x, y with
    | .int i, .int j => Q (.int (max i j)) G
    | _, _ => False
  | .min => fun x y G Q => match x, y with
    | .int i, .int j => Q (.int (min i j)) G
    | _, _ => False
  | .gcd => fun x y G Q => match x, y with
    | .int i, .int j => Q (.int ((Nat.gcd i.natAbs j.natAbs : Nat) : Int)) G
    | _, _ => False
  | .comb => fun x y G Q => match x, y with
    | .int i, .int j => 0 ≤ i ∧ 0 ≤ j ∧ i ≤ 9000 ∧ Q (.int (PySem.W.mcComb i j)) G
    | _, _ => False
  | _ => fun _ _ _ _ => False
def biD (b : BI) : List D → DH → QD → Prop
  | [x], G, Q => bi1 b x G Q
  | [x, y], G, Q => bi2 b x y G Q
  | _, _, _ => False
section
variable {X : Cx}
theorem rps1 {K : PySem.W.Frag} {H : Hp} {x : D} {vs : List V} (r : Rps K H [x] vs) : ∃ v, vs = [v] ∧ Rp K H x v := by
  obtain ⟨v, ws, e, q, e2⟩ := r
  rw [show ws = [] from e2] at e
  exact ⟨v, e, q⟩
theorem rps2 {K : PySem.W.Frag} {H : Hp} {x y : D} {vs : List V} (r : Rps K H [x, y] vs) : ∃ v w, vs = [v, w] ∧ Rp K H x v ∧ Rp K H y w := by
  obtain ⟨v, ws, e, q, r2⟩ := r
  obtain ⟨w, e2, q2⟩ := rps1 r2
  exact ⟨v, w, by rw [e, e2], q, q2⟩
theorem RKs.length {K : PySem.W.Frag} {H : Hp} : ∀ {kvs : List (Key × D)} {ws : List (Key × V)}, RKs K H kvs ws → ws.length = kvs.length
  | [], ws, h => by rw [show ws = [] from h]; rfl
  | (k, d) :: kvs, ws, h => by
    obtain ⟨v, vs, rfl, _, r⟩ := h
    rw [List.length_cons, List.length_cons, RKs.length r]
theorem bi1_ok (hc : X.calm = true) (b : BI) {pins : List (Addr × Obj)} {s : Shared} {σl : L2.St} {H : Hp} {v : V} {us : List Value} {Qv : VK} (I : Inv X pins σl H s) (rv : Vals [v] us)
    {R : Addr → Prop} {H0 : Hp} {σ : Sg} {σv : L2.St} {x : D} {G : DH} {Q : QD} (rx : Rp X.K H x v) (sr : SR X.K R H0 σ G σv H) (k : bi1 b x G Q) (out : Out X.K R H0 σ σv H Q Qv) :
    wpAny (model X.prog X.w) X.A (call b.val us) (EP X pins σl Qv) X.xe s := by
  have ok : ∀ {d : D} {v : V}, Q d G → Rp X.K H d v → Qv v H := fun q r => out.now q r sr
  cases b with
  | len =>
    cases x with
    | tup ds =>
      obtain ⟨a, ws, e1, q1, r1⟩ := rx
      exact call_len pins s σl H _ us Qv I rv ⟨v, ws.length, rfl, by rw [e1]; exact .inr ⟨ws, q1, rfl⟩, ok k (by rw [r1.length]; rfl)⟩
    | ref a =>
      cases e2 : sqAt G a with
      | some ds =>
        have q : Q (.int ds.length) G := by
          have k' : (match sqAt G a with
            | some ds => Q (.int ds.length) G
            | none => ∃ kvs, G a = some (.dct kvs) ∧ Q (.int kvs.length) G) := k
          rw [e2] at k'; exact k'
        obtain ⟨ws, q1, r1⟩ := sr.sqL e2
        exact call_len pins s σl H _ us Qv I rv ⟨v, ws.length, rfl, by rw [show v = V.ref a from rx]; exact .inl ⟨ws, q1, rfl⟩, ok q (by rw [r1.length]; rfl)⟩
      | none =>
        have q : ∃ kvs, G a = some (.dct kvs) ∧ Q (.int kvs.length) G := by
          have k' : (match sqAt G a with
            | some ds => Q (.int ds.length) G
            | none => ∃ kvs, G a = some (.dct kvs) ∧ Q (.int kvs.length) G) := k
          rw [e2] at k'; exact k'
        obtain ⟨kvs, hg, q⟩ := q
        obtain ⟨ws, e1, r1⟩ := sr.gr a _ hg
        exact call_lenD pins s σl H _ us Qv I rv ⟨a, ws, by rw [show v = V.ref a from rx], e1, ok q (by rw [r1.length]; rfl)⟩
    | lsv ds =>
      obtain ⟨a, ws, e1, q1, r1⟩ := rx
      exact call_len pins s σl H _ us Qv I rv ⟨v, ws.length, rfl, by rw [e1]; exact .inl ⟨ws, q1.l, rfl⟩, ok k (by rw [r1.length]; rfl)⟩
    | str z => exact call_len pins s σl H _ us Qv I rv ⟨v, z.length, rfl, by rw [show v = V.str z from rx]; exact ⟨k.1, rfl⟩, ok k.2 rfl⟩
    | _ => exact False.elim k
  | abs =>
    cases x with
    | int i =>
      refine call_abs pins s σl H _ us Qv I rv ⟨i, by rw [show v = V.int i from rx], ok k ?_⟩
      show V.int _ = V.int _
      congr 1
      split <;> omega
    | _ => exact False.elim k
  | int =>
    cases x with
    | int i => exact call_int1 pins s σl H _ us Qv I rv (.inl ⟨i, by rw [show v = V.int i from rx], ok k rfl⟩)
    | bl b => exact call_int1 pins s σl H _ us Qv I rv (.inr ⟨b, by rw [show v = V.bl b from rx], ok k rfl⟩)
    | str z =>
      obtain ⟨n, h1, h2, q⟩ := k
      exact call_int_str pins s σl H _ us Qv I rv ⟨z, n, by rw [show v = V.str z from rx], h1, h2, ok q rfl⟩
    | _ => exact False.elim k
  | str =>
    cases x with
    | int i => exact call_str_int pins s σl H _ us Qv I rv ⟨i, by rw [show v = V.int i from rx], k.1, ok k.2 rfl⟩
    | _ => exact False.elim k
  | sum =>
    cases x with
    | ref a =>
      obtain ⟨ns, e2, q⟩ := k
      obtain ⟨ws, q1, r1⟩ := sr.sqL e2
      rw [r1.ints] at q1
      exact cr_sum hc pins s σl H _ us Qv I rv ⟨a, ns, by rw [show v = V.ref a from rx], q1, ok q rfl⟩
    | _ => exact False.elim k
  | all =>
    cases x with
    | ref a =>
      obtain ⟨ns, e2, q⟩ := k
      obtain ⟨ws, q1, r1⟩ := sr.sqL e2
      rw [r1.bls] at q1
      exact cr_all hc pins s σl H _ us Qv I rv ⟨a, ns, by rw [show v = V.ref a from rx], q1, ok q rfl⟩
    | _ => exact False.elim k
  | any =>
    cases x with
    | ref a =>
      obtain ⟨ns, e2, q⟩ := k
      obtain ⟨ws, q1, r1⟩ := sr.sqL e2
      rw [r1.bls] at q1
      exact cr_any hc pins s σl H _ us Qv I rv ⟨a, ns, by rw [show v = V.ref a from rx], q1, ok q rfl⟩
    | _ => exact False.elim k
  | max =>
    cases x with
    | ref a =>
      obtain ⟨ns, e2, hp, q⟩ := k
      obtain ⟨ws, q1, r1⟩ := sr.sqL e2
      rw [r1.ints] at q1
      exact cr_max hc pins s σl H _ us Qv I rv ⟨a, ns, by rw [show v = V.ref a from rx], q1, hp, fun m h1 h2 => ok (q m h1 h2) rfl⟩
    | _ => exact False.elim k
  | min =>
    cases x with
    | ref a =>
      obtain ⟨ns, e2, hp, q⟩ := k
      obtain ⟨ws, q1, r1⟩ := sr.sqL e2
      rw [r1.ints] at q1
      exact cr_min hc pins s σl H _ us Qv I rv ⟨a, ns, by rw [show v = V.ref a from rx], q1, hp, fun m h1 h2 => ok (q m h1 h2) rfl⟩
    | _ => exact False.elim k
  | list =>
    cases x with
    | tup ds =>
      obtain ⟨a, ws, e1, q1, r1⟩ := rx
      exact call_list_of pins s σl H _ us Qv I rv ⟨a, ws, by rw [e1], .inr q1, out.lst k r1 sr⟩
    | ref a =>
      obtain ⟨ds, e2, q⟩ := k
      obtain ⟨ws, q1, r1⟩ := sr.sqL e2
      exact call_list_of pins s σl H _ us Qv I rv ⟨a, ws, by rw [show v = V.ref a from rx], .inl q1, out.lst q r1 sr⟩
    | _ => exact False.elim k
  | tuple =>
    cases x with
    | tup ds =>
      obtain ⟨a, ws, e1, q1, r1⟩ := rx
      exact call_tuple_of pins s σl H _ us Qv I rv ⟨a, ws, by rw [e1], .inr ⟨q1, ok k ⟨a, ws, rfl, q1, r1⟩⟩⟩
    | ref a =>
      obtain ⟨ds, e2, q⟩ := k
      obtain ⟨ws, q1, r1⟩ := sr.sqL e2
      exact call_tuple_of pins s σl H _ us Qv I rv ⟨a, ws, by rw [show v = V.ref a from rx], .inl ⟨q1, out.tup q r1 sr⟩⟩
    | _ => exact False.elim k
  | gcd => exact False.elim k
  | comb => exact False.elim k
def rComb : List V → Hp → VK → Prop := fun vs H Q => ∃ a b : Int, vs = [.int a, .int b] ∧ 0 ≤ a ∧ 0 ≤ b ∧ a ≤ 9000 ∧ Q (.int (PySem.W.mcComb a b)) H
theorem cr_comb : CallR X (.builtin "math.comb") rComb := by
  intro pins s σ H vs us Q I r h
  obtain ⟨a, b, rfl, h1, h2, h3, q⟩ := h
  obtain ⟨t, u, rfl⟩ := Vals.int2 r
  exact PySem.call_function_meets PySem.W.MGF.kind_comb PySem.W.MGF.plain_comb PySem.W.MGF.entry_comb (PySem.W.MGF.args_comb _ _) (PySem.W.mc_gives_comb t u h1 h2 (by omega) (.inr (by omega))).meets ⟨.int _, H, I.tok _, ⟨_, rfl⟩, q⟩
theorem bi2_ok (hc : X.calm = true) (b : BI) {pins : List (Addr × Obj)} {s : Shared} {σl : L2.St} {H : Hp} {v w : V} {us : List Value} {Qv : VK} (I : Inv X pins σl H s) (rv : Vals [v, w] us)
    {R : Addr → Prop} {H0 : Hp} {σ : Sg} {σv : L2.St} {x y : D} {G : DH} {Q : QD} (rx : Rp X.K H x v) (ry : Rp X.K H y w) (sr : SR X.K R H0 σ G σv H) (k : bi2 b x y G Q) (out : Out X.K R H0 σ σv H Q Qv) :
    wpAny (model X.prog X.w) X.A (call b.val us) (EP X pins σl Qv) X.xe s := by
  have ok : ∀ {d : D} {v : V}, Q d G → Rp X.K H d v → Qv v H := fun q r => out.now q r sr
  cases b with
  | max =>
    cases x with
    | int i =>
      cases y with
      | int j =>
        refine call_max2 hc pins s σl H _ us Qv I rv ⟨i, j, by rw [show v = V.int i from rx, show w = V.int j from ry], ok k ?_⟩
        show V.int _ = V.int _
        congr 1
        split <;> omega
      | _ => exact False.elim k
    | _ => exact False.elim k
  | min =>
    cases x with
    | int i =>
      cases y with
      | int j =>
        refine call_min2 hc pins s σl H _ us Qv I rv ⟨i, j, by rw [show v = V.int i from rx, show w = V.int j from ry], ok k ?_⟩
        show V.int _ = V.int _
        congr 1
        split <;> omega
      | _ => exact False.elim k
    | _ => exact False.elim k
  | gcd =>
    cases x with
    | int i =>
      cases y with
      | int j => exact cr_gcd pins s σl H _ us Qv I rv ⟨i, j, by rw [show v = V.int i from rx, show w = V.int j from ry], ok k rfl⟩
      | _ => exact False.elim k
    | _ => exact False.elim k
  | comb =>
    cases x with
    | int i =>
      cases y with
      | int j => exact cr_comb pins s σl H _ us Qv I rv ⟨i, j, by rw [show v = V.int i from rx, show w = V.int j from ry], k.1, k.2.1, k.2.2.1, ok k.2.2.2 rfl⟩
      | _ => exact False.elim k
    | _ => exact False.elim k
  | _ => exact False.elim k
theorem bi_ok (hc : X.calm = true) (b : BI) : CallR X b.val (RC X.K (biD b)) := by
  intro pins s σl H vs us Qv I rv h
  obtain ⟨R, H0, σ, σv, xs, G, Q, rx, sr, k, out⟩ := h
  cases xs with
  | nil => exact False.elim k
  | cons x xs =>
    cases xs with
    | nil =>
      obtain ⟨v, e, r⟩ := rps1 rx
      subst e
      exact bi1_ok hc b I rv r sr k out
    | cons y xs =>
      cases xs with
      | nil =>
        obtain ⟨v, w, e, r1, r2⟩ := rps2 rx
        subst e
        exact bi2_ok hc b I rv r1 r2 sr k out
      | cons z xs => exact False.elim k
end

/-! ### isinstance -/
inductive Ty where
  | none | bool | int | str | list | tuple | dict
  deriving DecidableEq
def Ty.s : Ty → String
  | .none => "NoneType" | .bool => "bool" | .int => "int" | .str => "str" | .list => "list" | .tuple => "tuple" | .dict => "dict"
def Ty.sub : Ty → Ty → Bool
  | .bool, .int => true
  | a, b => decide (a = b)
theorem ty_kit : ∀ a b : Ty, kitB a.s b.s = some (Ty.sub a b) := by
  intro a b
  cases a <;> cases b <;> decide +kernel
def tyD (G : DH) : D → Option Ty
  | .non => some .none
  | .bl _ => some .bool
  | .int _ => some .int
  | .str _ => some .str
  | .tup _ => some .tuple
  | .lsv _ => some .list
  | .ref a => match G a with
    | some (.lst _) => some .list
    | some (.dct _) => some .dict
    | none => none
theorem tyX_of {K : PySem.W.Frag} {R : Addr → Prop} {H0 H : Hp} {σ : Sg} {G : DH} {σv : L2.St} {x : D} {v : V} {t : Ty} (sr : SR K R H0 σ G σv H) (rx : Rp K H x v) (h : tyD G x = some t) : TyX K H v (.type t.s) := by
  cases x with
  | non => cases h; rw [show v = V.non from rx]; exact .base .non
  | bl b => cases h; rw [show v = V.bl b from rx]; exact .base (.bl b)
  | int b => cases h; rw [show v = V.int b from rx]; exact .base (.int b)
  | str b => cases h; rw [show v = V.str b from rx]; exact .base (.str b)
  | tup ds =>
    cases h
    obtain ⟨a, vs, e1, q1, r1⟩ := rx
    rw [e1]
    rcases q1 with (q1 | ⟨o, q1⟩) | ⟨o, its, n, hk, hc, _⟩
    · exact .base (.tup q1)
    · exact .fTuple q1
    · exact .kTuple hk hc
  | lsv ds =>
    cases h
    obtain ⟨a, vs, e1, q1, r1⟩ := rx
    rw [e1]
    rcases q1 with ⟨o, q1⟩ | ⟨o, its, n, hk, hc, _⟩
    · exact .base (.frz q1)
    · exact .kList hk hc
  | ref a =>
    rw [show v = V.ref a from rx]
    simp only [tyD] at h
    cases e : G a with
    | none => rw [e] at h; cases h
    | some o =>
      rw [e] at h
      have z := sr.gr a o e
      cases o with
      | lst ds => cases h; obtain ⟨vs, e1, _⟩ := z; exact .base (.lst e1)
      | dct kvs => cases h; obtain ⟨ws, e1, _⟩ := z; exact .base (.dK e1)
theorem isi_ok {X : Cx} {R : Addr → Prop} {H0 H : Hp} {σ : Sg} {G : DH} {σv : L2.St} {x : D} {v : V} {t u : Ty} {Q : QD} {Qv : VK} (sr : SR X.K R H0 σ G σv H) (rx : Rp X.K H x v) (h : tyD G x = some t)
    (q : Q (.bl (Ty.sub t u)) G) (out : Out X.K R H0 σ σv H Q Qv) : rIsi X.K [v, .ty u.s] H Qv :=
  ⟨v, .ty u.s, .type t.s, .type u.s, Ty.sub t u, rfl, .ty _, tyX_of sr rx h, kit_ty (ty_kit t u), out.now q rfl sr⟩

/-! ### methods -/
inductive MT where
  | append | extend | pop | popAt | reverse | clear | partition
  deriving DecidableEq
@[simp] def MT.T : MT → String
  | .partition => "str" | _ => "list"
def MT.name : MT → Str
  | .append => "append" | .extend => "extend" | .pop => "pop" | .popAt => "pop" | .reverse => "reverse" | .clear => "clear" | .partition => "partition"
def MT.id : MT → String
  | .append => "list.append" | .extend => "list.extend" | .pop => "list.pop" | .popAt => "list.pop" | .reverse => "list.reverse" | .clear => "list.clear" | .partition => "str.partition"
/-- how many arguments -/
def MT.many : MT → Nat
  | .append => 1 | .extend => 1 | .pop => 0 | .popAt => 1 | .reverse => 0 | .clear => 0 | .partition => 1
theorem MT.pa : ∀ m : MT, PlainAttrs m.T
  | .append => F.plainAttrs_list | .extend => F.plainAttrs_list | .pop => F.plainAttrs_list | .popAt => F.plainAttrs_list | .reverse => F.plainAttrs_list | .clear => F.plainAttrs_list | .partition => F.plainAttrs_str
theorem MT.slot : ∀ m : MT, Slot m.T m.name m.id
  | .append => F.slot_list_append | .extend => F.slot_list_extend | .pop => F.slot_list_pop | .popAt => F.slot_list_pop | .reverse => F.slot_list_reverse | .clear => F.slot_list_clear | .partition => F.slot_str_partition
theorem MT.ty : ∀ m : MT, typeOf (.builtin m.id) = pure (.type "method_descriptor")
  | .append => F.type_list_append | .extend => F.type_list_extend | .pop => F.type_list_pop | .popAt => F.type_list_pop | .reverse => F.type_list_reverse | .clear => F.type_list_clear | .partition => F.type_str_partition
/-- the receiver is of the method's type -/
def rcD (m : MT) (G : DH) : D → Prop
  | .str _ => m.T = "str"
  | .ref a => m.T = "list" ∧ ∃ ds, sqAt G a = some ds
  | _ => False
def mt0 : MT → Addr → DH → QD → Prop
  | .pop => fun a G Q => ∃ ds d, G a = some (.lst ds) ∧ ds[ds.length - 1]? = some d ∧ Q d (put G a (.lst ds.dropLast))
  | .reverse => fun a G Q => ∃ ds, G a = some (.lst ds) ∧ Q .non (put G a (.lst ds.reverse))
  | .clear => fun a G Q => ∃ ds, G a = some (.lst ds) ∧ Q .non (put G a (.lst []))
  | _ => fun _ _ _ => False
def mt1 : MT → Addr → D → DH → QD → Prop
  | .append => fun a d G Q => ∃ ds, G a = some (.lst ds) ∧ ds.length < sizeLine ∧ Q .non (put G a (.lst (ds ++ [d])))
  | .extend => fun a d G Q => match d with
    | .ref b => ∃ ds es, G a = some (.lst ds) ∧ G b = some (.lst es) ∧ ds.length + es.length ≤ sizeLine ∧ Q .non (put G a (.lst (ds ++ es)))
    | _ => False
  | .popAt => fun a d G Q => match d with
    | .int i => ∃ ds k d, G a = some (.lst ds) ∧ -(2 ^ 63) ≤ i ∧ i < 2 ^ 63 ∧ seqIndex? i ds.length = some k ∧ ds[k]? = some d ∧ Q d (put G a (.lst (ds.eraseIdx k)))
    | _ => False
  | _ => fun _ _ _ _ => False
def mts1 : MT → Str → D → DH → QD → Prop
  | .partition => fun a d G Q => match d with
    | .str b => (b.length == 0) = false ∧ a.length ≤ sizeLine ∧ Q (.tup [.str (Txt.partition a b).1, .str (Txt.partition a b).2.1, .str (Txt.partition a b).2.2]) G
    | _ => False
  | _ => fun _ _ _ _ => False
def mtD (m : MT) (x : D) (xs : List D) (G : DH) (Q : QD) : Prop := match xs with
  | [] => match x with
    | .ref a => mt0 m a G Q
    | _ => False
  | [d] => match x with
    | .ref a => mt1 m a d G Q
    | .str z => mts1 m z d G Q
    | _ => False
  | _ => False
theorem Rps.dropLast {K : PySem.W.Frag} {H : Hp} {ds : List D} {vs : List V} (r : Rps K H ds vs) : Rps K H ds.dropLast vs.dropLast := by
  rw [List.dropLast_eq_take, List.dropLast_eq_take, r.length]
  exact r.take _
theorem Rps.erase {K : PySem.W.Frag} {H : Hp} {ds : List D} {vs : List V} (r : Rps K H ds vs) (k : Nat) : Rps K H (ds.eraseIdx k) (vs.eraseIdx k) := by
  rw [List.eraseIdx_eq_take_drop_succ, List.eraseIdx_eq_take_drop_succ]
  exact (r.take _).append (r.drop _)
section
variable {X : Cx}
/-- a list of ours is written -/
theorem Out.wr {K : PySem.W.Frag} {R : Addr → Prop} {H0 H : Hp} {σ : Sg} {G : DH} {σv : L2.St} {Q : QD} {Qv : VK} (o : Out K R H0 σ σv H Q Qv) {a : Addr} {ds es : List D} {us vs : List V} {d : D} {v : V} (hg : G a = some (.lst ds)) (hh : H a = some (.lst us))
    (q : Q d (put G a (.lst es))) (r : Rps K H es vs) (rd : Rp K H d v) (s : SR K R H0 σ G σv H) : Qv v (upd H a (.lst vs)) := by
  have h1 : ∀ xs, H a ≠ some (.tup xs) := fun xs e => by rw [hh] at e; cases e
  have h2 : ∀ o u, H a ≠ some (.frz o u) := fun o u e => by rw [hh] at e; cases e
  have k : Keep R H (upd H a (.lst vs)) := s.wkeep hg h1 h2
  exact o _ _ _ _ q (rd.keep k) (s.write hg h1 h2 ⟨vs, upd_same, r.keep k⟩) k
theorem mt_ok (m : MT) : MtR X m.id (RM X.K (mtD m)) := by
  intro pins s σl H v vs v' us Qv I rv rvs h
  obtain ⟨R, H0, σ, σv, x, xs, G, Q, rx, rxs, sr, k, out⟩ := h
  cases xs with
  | nil =>
    cases x with
    | ref a =>
      cases m with
      | pop =>
        obtain ⟨ds, d, e, hd, q⟩ := k
        obtain ⟨ws, e1, r2⟩ := sr.gr a _ e
        obtain ⟨w, e2, r3⟩ := r2.get hd
        exact mt_pop pins s σl H v vs v' us Qv I rv rvs ⟨a, ws, w, rx, rxs, e1, by rw [r2.length]; exact e2, out.wr e e1 q r2.dropLast r3 sr⟩
      | reverse =>
        obtain ⟨ds, e, q⟩ := k
        obtain ⟨ws, e1, r2⟩ := sr.gr a _ e
        exact mt_reverse pins s σl H v vs v' us Qv I rv rvs ⟨a, ws, rx, rxs, e1, out.wr e e1 q r2.reverse rfl sr⟩
      | clear =>
        obtain ⟨ds, e, q⟩ := k
        obtain ⟨ws, e1, r2⟩ := sr.gr a _ e
        exact mt_clear pins s σl H v vs v' us Qv I rv rvs ⟨a, ws, rx, rxs, e1, out.wr e e1 (vs := []) q rfl rfl sr⟩
      | _ => exact False.elim k
    | _ => exact False.elim k
  | cons d xs =>
    cases xs with
    | nil =>
      obtain ⟨w, ew, r1⟩ := rps1 rxs
      cases x with
      | ref a =>
        cases m with
        | append =>
          obtain ⟨ds, e, hl, q⟩ := k
          obtain ⟨ws, e1, r2⟩ := sr.gr a _ e
          exact mt_append pins s σl H v vs v' us Qv I rv rvs ⟨a, ws, w, rx, ew, e1, by rw [r2.length]; exact hl, out.wr e e1 q (r2.append (Rps.one r1)) rfl sr⟩
        | extend =>
          cases d with
          | ref b =>
            obtain ⟨ds, es, e, e', hl, q⟩ := k
            obtain ⟨ws, e1, r2⟩ := sr.gr a _ e
            obtain ⟨zs, e3, r3⟩ := sr.gr b _ e'
            exact mt_extend pins s σl H v vs v' us Qv I rv rvs ⟨a, b, ws, zs, rx, by rw [ew, show w = V.ref b from r1], e1, e3, by rw [r2.length, r3.length]; exact hl, out.wr e e1 q (r2.append r3) rfl sr⟩
          | _ => exact False.elim k
        | popAt =>
          cases d with
          | int i =>
            obtain ⟨ds, j, d, e, h1, h2, h3, hd, q⟩ := k
            obtain ⟨ws, e1, r2⟩ := sr.gr a _ e
            obtain ⟨z, e2, r3⟩ := r2.get hd
            exact mt_popAt pins s σl H v vs v' us Qv I rv rvs ⟨a, ws, i, j, z, rx, by rw [ew, show w = V.int i from r1], e1, h1, h2, by rw [r2.length]; exact h3, e2, out.wr e e1 q (r2.erase j) r3 sr⟩
          | _ => exact False.elim k
        | _ => exact False.elim k
      | str a =>
        cases m with
        | partition =>
          cases d with
          | str b =>
            obtain ⟨hb, hl, q⟩ := k
            exact mt_partition pins s σl H v vs v' us Qv I rv rvs ⟨a, b, rx, by rw [ew, show w = V.str b from r1], hb, hl, out.tup q ⟨_, _, rfl, rfl, _, _, rfl, rfl, _, _, rfl, rfl, rfl⟩ sr⟩
          | _ => exact False.elim k
        | _ => exact False.elim k
      | _ => exact False.elim k
    | cons _ _ => exact False.elim k
theorem rc_ty {K : PySem.W.Frag} {R : Addr → Prop} {H0 H : Hp} {σ : Sg} {G : DH} {σv : L2.St} {m : MT} {x : D} {v : V} (sr : SR K R H0 σ G σv H) (rx : Rp K H x v) (h : rcD m G x) : tyV K m.T v H := by
  cases x with
  | str z => rw [show v = V.str z from rx]; exact h
  | ref a =>
    rw [show v = V.ref a from rx]
    obtain ⟨h1, ds, e⟩ := h
    obtain ⟨ws, q1, r1⟩ := sr.sqL e
    exact .inl ⟨h1, ws, q1⟩
  | _ => exact False.elim h
end

/-! ### o[i] = v; o[i] read for o[i] op= v -/
def setD : D → D → D → DH → (DH → Prop) → Prop
  | .ref a, .int i, d, G, Q => ∃ ds j, G a = some (.lst ds) ∧ ixN ds.length i = some j ∧ Q (put G a (.lst (ds.set j d)))
  | _, _, _, _, _ => False
def RSet (K : PySem.W.Frag) : V → V → V → Hp → (Hp → Prop) → Prop := fun o i v H Qv => ∃ R H0 σ σv x y d G Q, Rp K H x o ∧ Rp K H y i ∧ Rp K H d v ∧ SR K R H0 σ G σv H ∧ setD x y d G Q ∧
  ∀ G' H', Q G' → SR K R H0 σ G' σv H' → Keep R H H' → Qv H'
section
variable {X : Cx}
theorem set_D : PSet X (RSet X.K) := by
  intro pins s σl H o i v ov iv u Qv I ro ri rv h
  obtain ⟨R, H0, σ, σv, x, y, d, G, Q, rx, ry, rd, sr, k, out⟩ := h
  cases x with
  | ref a =>
   cases y with
   | int n =>
    obtain ⟨ds, j, e, hj, q⟩ := k
    obtain ⟨ws, e1, r1⟩ := sr.gr a _ e
    have h1 : ∀ xs, H a ≠ some (.tup xs) := fun xs e => by rw [e1] at e; cases e
    have h2 : ∀ o u, H a ≠ some (.frz o u) := fun o u e => by rw [e1] at e; cases e
    have kp : Keep R H (upd H a (.lst (ws.set j v))) := sr.wkeep e h1 h2
    exact set_list pins s σl H o i v ov iv u Qv I ro ri rv ⟨a, ws, n, j, rx, ry, e1, by rw [r1.length]; exact hj, out _ _ q (sr.write e h1 h2 ⟨_, upd_same, (r1.set rd j).keep kp⟩) kp⟩
   | _ => exact False.elim k
  | _ => exact False.elim k
theorem get_D : PGet X (fun o i H Q => RB X.K ixD o i H Q ∧ ∃ a, o = .ref a ∧ ∃ xs, SqL X.K H a xs) := by
  intro pins s σl H v w v' w' Qv I rv rw' h
  obtain ⟨⟨R, H0, σ, σv, x, y, G, Q, rx, ry, sr, k, out⟩, a, ea, zs, hz⟩ := h
  cases x with
  | ref a' =>
   cases y with
   | int i =>
    obtain ⟨ds, d, e0, e, q⟩ := k
    obtain ⟨vs, q1, r1⟩ := sr.sqL e0
    obtain ⟨z, e2, r2⟩ := r1.atI e
    have e1 : v = .ref a' := rx
    have e1' : w = .int i := ry
    subst e1 e1'
    cases rv
    obtain ⟨t, rfl⟩ := rw'
    obtain ⟨its, r, pl, hsz⟩ := I.list q1
    obtain ⟨j, h1, h2, h3, h4, h5⟩ := atI_get e2
    obtain ⟨u, eu, ru⟩ := r.get h2
    have hl := r.length
    have hn := line63
    have fin : EP X pins σl Qv u s := ⟨z, H, I, ru, out.now q r2 sr⟩
    by_cases h0 : 0 ≤ i
    · have hj : i.toNat = j := by
        rw [seqIndex_of h0 h5] at h1
        exact Option.some.inj h1
      exact wpAny_getItem_list pl.isList h0 (by omega) (by rw [hj]; simpa using eu) fin
    · have hj : (i + (its.toArray.size : Int)).toNat = j := by
        rw [seqIndex_neg (by omega) h4] at h1
        rw [List.size_toArray, ← hl]
        exact Option.some.inj h1
      exact wpAny_getItem_list_neg pl.isList (by omega) (by rw [List.size_toArray] <;> omega) (by omega) (by rw [hj]; simpa using eu) fin
   | _ => exact False.elim k
  | tup _ =>
    obtain ⟨a2, vs, e1, q1, r1⟩ := rx
    rw [e1] at ea
    cases ea
    obtain ⟨its, r, ⟨o, n, ho, hc, _⟩, _⟩ := I.list hz
    obtain ⟨its2, r2, ⟨o2, ho2, hc2, _⟩, _⟩ := I.tuple q1
    rw [ho] at ho2; cases ho2
    rw [hc] at hc2
    exact absurd hc2 (by decide)
  | str _ => rw [show v = _ from rx] at ea; cases ea
  | lsv ds =>
   cases y with
   | int i =>
    obtain ⟨d, e, q⟩ := k
    obtain ⟨a', vs, e1, q1, r1⟩ := rx
    obtain ⟨z, e2, r2⟩ := r1.atI e
    have e1' : w = .int i := ry
    subst e1 e1'
    cases rv
    obtain ⟨t, rfl⟩ := rw'
    obtain ⟨its, r, pl, hsz⟩ := I.list q1.l
    obtain ⟨j, h1, h2, h3, h4, h5⟩ := atI_get e2
    obtain ⟨u, eu, ru⟩ := r.get h2
    have hl := r.length
    have hn := line63
    have fin : EP X pins σl Qv u s := ⟨z, H, I, ru, out.now q r2 sr⟩
    by_cases h0 : 0 ≤ i
    · have hj : i.toNat = j := by
        rw [seqIndex_of h0 h5] at h1
        exact Option.some.inj h1
      exact wpAny_getItem_list pl.isList h0 (by omega) (by rw [hj]; simpa using eu) fin
    · have hj : (i + (its.toArray.size : Int)).toNat = j := by
        rw [seqIndex_neg (by omega) h4] at h1
        rw [List.size_toArray, ← hl]
        exact Option.some.inj h1
      exact wpAny_getItem_list_neg pl.isList (by omega) (by rw [List.size_toArray] <;> omega) (by omega) (by rw [hj]; simpa using eu) fin
   | _ => exact False.elim k
  | _ => exact False.elim k
/-- a op= b -/
def augD : Operator → D → D → DH → QD → Prop
  | .Add, .int i, .int j, G, Q => Q (.int (i + j)) G
  | .Add, .str i, .str j, G, Q => i.length + j.length ≤ sizeLine ∧ Q (.str (i ++ j)) G
  | .Sub, .int i, .int j, G, Q => Q (.int (i - j)) G
  | .Mult, .int i, .int j, G, Q => IntMulOk i j ∧ Q (.int (i * j)) G
  | _, _, _, _, _ => False
theorem aug_D (op : Operator) : PIp X op (RB X.K (augD op)) := by
  intro pins s σl H v w v' w' Qv I rv rw' h
  obtain ⟨R, H0, σ, σv, x, y, G, Q, rx, ry, sr, k, out⟩ := h
  cases op with
  | Add =>
    cases x with
    | int i =>
      cases y with
      | int j => exact iop_add pins s σl H v w v' w' Qv I rv rw' ⟨i, j, rx, ry, out.now (G := G) k rfl sr⟩
      | _ => exact False.elim k
    | str i =>
      cases y with
      | str j => exact iop_add_str pins s σl H v w v' w' Qv I rv rw' ⟨i, j, rx, ry, k.1, out.now (G := G) k.2 rfl sr⟩
      | _ => exact False.elim k
    | _ => exact False.elim k
  | Sub =>
    cases x with
    | int i =>
      cases y with
      | int j => exact iop_sub pins s σl H v w v' w' Qv I rv rw' ⟨i, j, rx, ry, out.now (G := G) k rfl sr⟩
      | _ => exact False.elim k
    | _ => exact False.elim k
  | Mult =>
    cases x with
    | int i =>
      cases y with
      | int j =>
        have o : OpR X (inplaceOp .Mult) (rI IntMulOk fun i j => .int (i * j)) := opI fun _ _ _ _ _ _ _ hc q => imul_int q hc
        exact o pins s σl H v w v' w' Qv I rv rw' ⟨i, j, rx, ry, k.1, out.now (G := G) k.2 rfl sr⟩
      | _ => exact False.elim k
    | _ => exact False.elim k
  | _ => cases x <;> cases y <;> exact False.elim k
end
end DL

set_option Elab.async false
set_option linter.all false
set_option maxRecDepth 100000
set_option maxHeartbeats 4000000
/-! DL4: the small language and its weakest preconditions over plain values. -/
namespace DL
open PySem PySem.Spec PyProof.Rows L2
mutual
inductive ME where
  | var (i : Nat) | non | bl (b : Bool) | int (i : Int) | str (s : Str)
  | bin (op : Operator) (a b : ME) | neg (a : ME)
  | cmp (op : CmpOp) (a b : ME) | chain (op op' : CmpOp) (a b c : ME)
  | and (es : MEs) | or (es : MEs) | not (a : ME) | ifx (c a b : ME)
  | tup (es : MEs) | lst (es : MEs) | dct0
  | ix (a i : ME) | slc (a : ME) (lo hi : MO) | revl (a : ME)
  | call (f : Str) (es : MEs) | callk (f : Str) (es : MEs) (ks : List Str) (kes : MEs)
  | bi (b : BI) (es : MEs) | isi (a : ME) (t : Ty) | meth (m : MT) (o : ME) (es : MEs)
  | lc (own : List (Str × Nat)) (g : MG) (it : MI) (c : MO) (e : ME)
  | glob (x : Str) | fstr (es : MEs) | fmt (a : ME)
  | exf (i : Nat) (f : Str) | exi (i : Nat) (x : Str) | stup (z : MZ) | slst (z : MZ)
inductive MZ where
  | nil | one (e : ME) (z : MZ) | star (e : ME) (z : MZ)
inductive MEs where
  | nil | cons (e : ME) (es : MEs)
inductive MO where
  | none | some (e : ME)
inductive MG where
  | name (i : Nat) | tup (gs : MGs) | sub (o i : ME)
inductive MGs where
  | nil | cons (g : MG) (gs : MGs)
inductive MI where
  | seq (e : ME) | range (es : MEs) | enum (e : ME) | zip (a b : ME) | rev (e : ME)
end
/-- how many items a written list has -/
@[simp] def MEs.n : MEs → Nat
  | .nil => 0
  | .cons _ es => es.n + 1
/-- how many targets -/
@[simp] def MGs.n : MGs → Nat
  | .nil => 0
  | .cons _ gs => gs.n + 1
/-- an except clause: its class, the name's slot, what it returns -/
structure MH where
  cls : Str
  as : Option Nat
  ret : ME
mutual
inductive MS where
  | expr (e : ME) | ret (e : ME) | retN | par2 (i j : Nat) (es : MEs) | par3 (i j l : Nat) (es : MEs) | asg (g : MG) (e : ME) | aug (i : Nat) (op : Operator) (e : ME) | augS (o i : ME) (op : Operator) (e : ME)
  | ifs (c : ME) (a b : MSs) | whl (c : ME) (b : MSs) | forr (g : MG) (it : MI) (b : MSs)
  | raise (x : Str) (es : MEs) | tryy (b : MSs) (hs : List MH) | pass | brk | cont
inductive MSs where
  | nil | cons (s : MS) (ss : MSs)
  | zlc (i : Nat) (a b : ME) (j : Nat) (own : List (Str × Nat)) (g : MG) (el : ME) (ss : MSs)
end
/-- a def as the caller sees it: its parameters, its promise, the keyword calls that are bound: positional ones, names, places -/
structure FI where
  ps : List Str
  sp : DSp
  kws : List (Nat × List Str × List Nat) := []
  dfl : List D := []
/-- the places of a call with so many arguments by position and these by name -/
def kwF : List (Nat × List Str × List Nat) → Nat → List Str → Option (List Nat)
  | [], _, _ => none
  | (n0, k0, p0) :: l, n, ks => if n0 = n ∧ k0 = ks then some p0 else kwF l n ks
theorem kwF_mem : ∀ {kws : List (Nat × List Str × List Nat)} {n : Nat} {ks : List Str} {p : List Nat}, kwF kws n ks = some p → (n, ks, p) ∈ kws
  | [], _, _, _, h => by cases h
  | (n0, k0, p0) :: l, n, ks, p, h => by
    unfold kwF at h
    split at h
    · rename_i q
      obtain ⟨rfl, rfl⟩ := q
      cases h
      exact List.mem_cons_self
    · exact List.mem_cons_of_mem _ (kwF_mem h)
/-- what the module's names stand for -/
structure GE where
  fn : Str → Option FI
  con : Str → Option D
  exc : Str → Option (List Str)
  exb : Str → Bool
  exm : Str → Str → Option Bool
  cur : Option (Addr × XD) := none
  exi : Str → Str → Option Bool := fun _ _ => none
def permL {α : Type} (p : List Nat) (l : List α) : List α := p.filterMap fun i => l[i]?
def nowish : WD := fun _ _ _ => False
/-- the numbers of a range -/
def rangeL (lo : Int) (n : Nat) (c : Int) : List D := (List.range n).map fun i => .int (lo + (i : Nat) * c)
def enumL : Nat → List D → List D
  | _, [] => []
  | i, d :: ds => .tup [.int i, d] :: enumL (i + 1) ds
def zipL : List D → List D → List D
  | x :: xs, y :: ys => .tup [x, y] :: zipL xs ys
  | _, _ => []
/-- what is walked stands as it stood -/
def srcOk (src : List (Addr × List D)) (G : DH) : Prop := ∀ p ∈ src, sqAt G p.1 = some p.2
abbrev IK := List D → List (Addr × List D) → DH → Prop
def chars (z : Str) : List D := z.cps.toList.map fun c => .str ⟨#[c]⟩
def itSeq (x : D) (G : DH) (Q : IK) : Prop := match x with
  | .str z => Q (chars z) [] G
  | .tup ds => Q ds [] G
  | .lsv ds => Q ds [] G
  | .ref a => ∃ ds, sqAt G a = some ds ∧ Q ds [(a, ds)] G
  | _ => False
def itEnum (x : D) (G : DH) (Q : IK) : Prop := match x with
  | .tup ds => Q (enumL 0 ds) [] G
  | .ref a => ∃ ds, sqAt G a = some ds ∧ Q (enumL 0 ds) [(a, ds)] G
  | _ => False
def itRev (x : D) (G : DH) (Q : IK) : Prop := match x with
  | .tup ds => Q ds.reverse [] G
  | .lsv ds => Q ds.reverse [] G
  | .ref a => ∃ ds, sqAt G a = some ds ∧ Q ds.reverse [(a, ds)] G
  | _ => False
def itZip (x y : D) (G : DH) (Q : IK) : Prop := match x, y with
  | .tup ds, .tup es => Q (zipL ds es) [] G
  | .ref a, .ref b => ∃ ds es, sqAt G a = some ds ∧ sqAt G b = some es ∧ Q (zipL ds es) [(a, ds), (b, es)] G
  | _, _ => False
def itRange (ds : List D) (G : DH) (Q : IK) : Prop := match ds with
  | [.int j] => -(2 ^ 62) ≤ j ∧ j < 2 ^ 62 ∧ Q (rangeL 0 j.toNat 1) [] G
  | [.int i, .int j] => (-(2 ^ 62) ≤ i ∧ i < 2 ^ 62 ∧ -(2 ^ 62) ≤ j ∧ j < 2 ^ 62) ∧ Q (rangeL i (j - i).toNat 1) [] G
  | [.int i, .int j, .int c] => ∃ n, RgC i j c n ∧ Q (rangeL i n c) [] G
  | _ => False
/-- a for -/
def loopD (src : List (Addr × List D)) (g : D → Sg → DH → (Sg → DH → Prop) → Prop) (b : DEnds → Sg → DH → Prop) (D : DEnds) : List DL.D → Sg → DH → Prop
  | [], σ, G => srcOk src G ∧ D.nx σ G
  | d :: ds, σ, G => srcOk src G ∧ g d σ G fun σ1 G1 => b { D with nx := loopD src g b D ds, ct := loopD src g b D ds, bk := D.nx } σ1 G1
def ofTup (d : D) (G : DH) (k : List D → Prop) : Prop := match d with
  | .tup ds => k ds
  | .ref a => ∃ ds, sqAt G a = some ds ∧ k ds
  | _ => False
def ofCons (ds : List D) (k : D → List D → Prop) : Prop := match ds with
  | d :: r => k d r
  | [] => False
def two (ds : List D) (k : D → D → Prop) : Prop := match ds with
  | [x, y] => k x y
  | _ => False
def three (ds : List D) (k : D → D → D → Prop) : Prop := match ds with
  | [x, y, z] => k x y z
  | _ => False
/-- a list comprehension -/
def lcD (src : List (Addr × List D)) (g : D → Sg → DH → (Sg → DH → Prop) → Prop) (t : Sg → DH → (Bool → DH → Prop) → Prop) (e : Sg → DH → QD → Prop) (Q : List D → DH → Prop) (σ : Sg) : List D → List D → DH → Prop
  | [], acc, G => srcOk src G ∧ Q acc G
  | d :: ds, acc, G => srcOk src G ∧ g d σ G fun σ1 G1 => t σ1 G1 fun b G2 => if b = true then e σ1 G2 fun y G3 => lcD src g t e Q σ ds (acc ++ [y]) G3 else lcD src g t e Q σ ds acc G2
/-- a while, by so many turns at most -/
def whD (c : Sg → DH → (Bool → DH → Prop) → Prop) (b : DEnds → Sg → DH → Prop) (D : DEnds) : Nat → Sg → DH → Prop
  | 0, _, _ => False
  | n + 1, σ, G => c σ G fun t G1 => if t = true then b { D with nx := whD c b D n, ct := whD c b D n, bk := D.nx } σ G1 else D.nx σ G1
@[simp] def wipeD : Sg → List (Str × Nat) → Sg
  | σ, [] => σ
  | σ, (_, i) :: r => st (wipeD σ r) i none
def strD : D → DH → (Str → DH → Prop) → Prop
  | .str z, G, Q => Q z G
  | _, _, _ => False
def fmtD : D → DH → QD → Prop
  | .str z, G, Q => z.length ≤ sizeLine ∧ Q (.str z) G
  | .int i, G, Q => i.natAbs.log2 < 1920 ∧ Q (.str (intS i)) G
  | _, _, _ => False
/-- the bounds of a slice -/
def partD : D → DH → (Option Int → DH → Prop) → Prop
  | .int i, G, Q => Q (some i) G
  | _, _, _ => False
def revD : D → DH → QD → Prop
  | .tup ds, G, Q => Q (.tup ds.reverse) G
  | .ref a, G, Q => ∃ ds, sqAt G a = some ds ∧ ∀ p, G p = none → Q (.ref p) (put G p (.lst ds.reverse))
  | _, _, _ => False

mutual
def wpE (Γ : GE) : ME → DE
  | .var i => fun _ σ G Q => ∃ d, gt σ i = some d ∧ Q d G
  | .non => fun _ _ G Q => Q .non G
  | .bl b => fun _ _ G Q => Q (.bl b) G
  | .int i => fun _ _ G Q => Q (.int i) G
  | .str s => fun _ _ G Q => Q (.str s) G
  | .bin op a b => fun W σ G Q => wpE Γ a W σ G fun x G1 => wpE Γ b W σ G1 fun y G2 => binD op x y G2 Q
  | .neg a => fun W σ G Q => wpE Γ a W σ G fun x G1 => negD x G1 Q
  | .cmp op a b => fun W σ G Q => wpE Γ a W σ G fun x G1 => wpE Γ b W σ G1 fun y G2 => cmpD op x y G2 Q
  | .chain op op' a b c => fun W σ G Q => wpE Γ a W σ G fun x G1 => wpE Γ b W σ G1 fun y G2 => cmpD op x y G2 fun z G3 => ∃ k, z = .bl k ∧ if k = true then wpE Γ c W σ G3 fun w G4 => cmpD op' y w G4 Q else Q (.bl false) G3
  | .and es => fun W σ G Q => wpAnd Γ es W σ G Q
  | .or es => fun W σ G Q => wpOr Γ es W σ G Q
  | .not a => fun W σ G Q => wpE Γ a W σ G fun x G1 => truD x G1 fun b G2 => Q (.bl (!b)) G2
  | .ifx c a b => fun W σ G Q => wpT Γ c W σ G fun t G1 => if t = true then wpE Γ a W σ G1 Q else wpE Γ b W σ G1 Q
  | .tup es => fun W σ G Q => wpEs Γ es W σ G fun ds G1 => Q (.tup ds) G1
  | .lst es => fun W σ G Q => wpEs Γ es W σ G fun ds G1 => ∀ p, G1 p = none → Q (.ref p) (put G1 p (.lst ds))
  | .dct0 => fun _ _ G Q => ∀ p, G p = none → Q (.ref p) (put G p (.dct []))
  | .ix a i => fun W σ G Q => wpE Γ a W σ G fun x G1 => wpE Γ i W σ G1 fun y G2 => ixD x y G2 Q
  | .slc a lo hi => fun W σ G Q => wpE Γ a W σ G fun x G1 => wpO Γ lo W σ G1 fun l G2 => wpO Γ hi W σ G2 fun h G3 => slD l h x G3 Q
  | .revl a => fun W σ G Q => wpE Γ a W σ G fun x G1 => revD x G1 Q
  | .call f es => fun W σ G Q => ∃ fi, Γ.fn f = some fi ∧ wpEs Γ es W σ G fun ds G1 => ds.length = fi.ps.length ∧ fi.sp ds G1 Q fun xd G2 => W xd σ G2
  | .callk f es ks kes => fun W σ G Q => ∃ fi, Γ.fn f = some fi ∧ ∃ p, kwF fi.kws es.n ks = some p ∧ wpEs Γ es W σ G fun ds G1 => wpEs Γ kes W σ G1 fun zs G2 => ds.length = es.n ∧ zs.length = ks.length ∧ (permL p (ds ++ zs ++ fi.dfl)).length = fi.ps.length ∧ fi.sp (permL p (ds ++ zs ++ fi.dfl)) G2 Q fun xd G3 => W xd σ G3
  | .bi b es => fun W σ G Q => wpEs Γ es W σ G fun ds G1 => biD b ds G1 Q
  | .isi a t => fun W σ G Q => wpE Γ a W σ G fun x G1 => ∃ u, tyD G1 x = some u ∧ Q (.bl (u.sub t)) G1
  | .meth m o es => fun W σ G Q => wpE Γ o W σ G fun x G1 => rcD m G1 x ∧ wpEs Γ es W σ G1 fun ds G2 => mtD m x ds G2 Q
  | .lc own g it c e => fun W σ G Q => wpI Γ it W σ G fun ds src G1 => ds.length ≤ sizeLine ∧
      lcD src (fun d σ1 G2 K => wpG Γ g d nowish σ1 G2 K) (fun σ1 G2 K => wpC Γ c nowish σ1 G2 K) (fun σ1 G2 K => wpE Γ e nowish σ1 G2 K) (fun acc G2 => ∀ p, G2 p = none → Q (.ref p) (put G2 p (.lst acc))) (wipeD σ own) ds [] G1
  | .glob x => fun _ _ G Q => ∃ d, Γ.con x = some d ∧ Q d G
  | .fstr es => fun W σ G Q => wpJ Γ es W Str.empty σ G fun z G1 => Q (.str z) G1
  | .fmt a => fun W σ G Q => wpE Γ a W σ G fun x G1 => fmtD x G1 Q
  | .exf i f => fun _ σ G Q => ∃ a xd d, gt σ i = some (.ref a) ∧ Γ.cur = some (a, xd) ∧ xd.fs.lookup f = some d ∧ Q d G
  | .exi i x => fun _ σ G Q => ∃ a xd b, gt σ i = some (.ref a) ∧ Γ.cur = some (a, xd) ∧ xd.fs ≠ [] ∧ Γ.exi xd.cls x = some b ∧ Q (.bl b) G
  | .stup z => fun W σ G Q => wpZ Γ z W σ G fun ds G1 => ds.length ≤ sizeLine ∧ Q (.tup ds) G1
  | .slst z => fun W σ G Q => wpZ Γ z W σ G fun ds G1 => ds.length ≤ sizeLine ∧ ∀ p, G1 p = none → Q (.ref p) (put G1 p (.lst ds))
def wpZ (Γ : GE) : MZ → DA
  | .nil => fun _ _ G Q => Q [] G
  | .one e z => fun W σ G Q => wpE Γ e W σ G fun x G1 => wpZ Γ z W σ G1 fun ds G2 => Q (x :: ds) G2
  | .star e z => fun W σ G Q => wpE Γ e W σ G fun x G1 => ofTup x G1 fun xs => wpZ Γ z W σ G1 fun ds G2 => Q (xs ++ ds) G2
def wpT (Γ : GE) : ME → DT
  | .cmp op a b => fun W σ G Q => wpE Γ a W σ G fun x G1 => wpE Γ b W σ G1 fun y G2 => cmpD op x y G2 fun z G3 => ∃ k, z = .bl k ∧ Q k G3
  | .chain op op' a b c => fun W σ G Q => wpE Γ a W σ G fun x G1 => wpE Γ b W σ G1 fun y G2 => cmpD op x y G2 fun z G3 => ∃ k, z = .bl k ∧ if k = true then wpE Γ c W σ G3 fun w G4 => cmpD op' y w G4 fun z' G5 => ∃ k', z' = .bl k' ∧ Q k' G5 else Q false G3
  | .and es => fun W σ G Q => wpTAnd Γ es W σ G Q
  | .or es => fun W σ G Q => wpTOr Γ es W σ G Q
  | .not a => fun W σ G Q => wpT Γ a W σ G fun b G1 => Q (!b) G1
  | .ifx c a b => fun W σ G Q => wpT Γ c W σ G fun t G1 => if t = true then wpT Γ a W σ G1 Q else wpT Γ b W σ G1 Q
  | .var i => fun _ σ G Q => ∃ d, gt σ i = some d ∧ truD d G Q
  | .bl b => fun _ _ G Q => Q b G
  | .ix a i => fun W σ G Q => wpE Γ a W σ G fun x G1 => wpE Γ i W σ G1 fun y G2 => ixD x y G2 fun z G3 => truD z G3 Q
  | .call f es => fun W σ G Q => ∃ fi, Γ.fn f = some fi ∧ wpEs Γ es W σ G fun ds G1 => ds.length = fi.ps.length ∧ fi.sp ds G1 (fun z G2 => truD z G2 Q) fun xd G2 => W xd σ G2
  | .callk f es ks kes => fun W σ G Q => ∃ fi, Γ.fn f = some fi ∧ ∃ p, kwF fi.kws es.n ks = some p ∧ wpEs Γ es W σ G fun ds G1 => wpEs Γ kes W σ G1 fun zs G2 => ds.length = es.n ∧ zs.length = ks.length ∧ (permL p (ds ++ zs ++ fi.dfl)).length = fi.ps.length ∧ fi.sp (permL p (ds ++ zs ++ fi.dfl)) G2 (fun z G3 => truD z G3 Q) fun xd G3 => W xd σ G3
  | .bi b es => fun W σ G Q => wpEs Γ es W σ G fun ds G1 => biD b ds G1 fun z G2 => truD z G2 Q
  | .isi a t => fun W σ G Q => wpE Γ a W σ G fun x G1 => ∃ u, tyD G1 x = some u ∧ Q (u.sub t) G1
  | .bin op a b => fun W σ G Q => wpE Γ a W σ G fun x G1 => wpE Γ b W σ G1 fun y G2 => binD op x y G2 fun z G3 => truD z G3 Q
  | _ => fun _ _ _ _ => False
def wpAnd (Γ : GE) : MEs → DE
  | .nil => fun _ _ _ _ => False
  | .cons e .nil => fun W σ G Q => wpE Γ e W σ G Q
  | .cons e es => fun W σ G Q => wpE Γ e W σ G fun x G1 => truD x G1 fun b G2 => G2 = G1 ∧ if b = true then wpAnd Γ es W σ G1 Q else Q x G1
def wpOr (Γ : GE) : MEs → DE
  | .nil => fun _ _ _ _ => False
  | .cons e .nil => fun W σ G Q => wpE Γ e W σ G Q
  | .cons e es => fun W σ G Q => wpE Γ e W σ G fun x G1 => truD x G1 fun b G2 => G2 = G1 ∧ if b = true then Q x G1 else wpOr Γ es W σ G1 Q
def wpTAnd (Γ : GE) : MEs → DT
  | .nil => fun _ _ _ _ => False
  | .cons e .nil => fun W σ G Q => wpT Γ e W σ G Q
  | .cons e es => fun W σ G Q => wpT Γ e W σ G fun b G1 => if b = true then wpTAnd Γ es W σ G1 Q else Q false G1
def wpTOr (Γ : GE) : MEs → DT
  | .nil => fun _ _ _ _ => False
  | .cons e .nil => fun W σ G Q => wpT Γ e W σ G Q
  | .cons e es => fun W σ G Q => wpT Γ e W σ G fun b G1 => if b = true then Q true G1 else wpTOr Γ es W σ G1 Q
def wpEs (Γ : GE) : MEs → DA
  | .nil => fun _ _ G Q => Q [] G
  | .cons e es => fun W σ G Q => wpE Γ e W σ G fun x G1 => wpEs Γ es W σ G1 fun ds G2 => Q (x :: ds) G2
def wpJ (Γ : GE) : MEs → WD → Str → Sg → DH → (Str → DH → Prop) → Prop
  | .nil => fun _ acc _ G Q => Q acc G
  | .cons e es => fun W acc σ G Q => wpE Γ e W σ G fun x G1 => strD x G1 fun y G2 => (acc ++ y).length ≤ sizeLine ∧ wpJ Γ es W (acc ++ y) σ G2 Q
def wpO (Γ : GE) : MO → WD → Sg → DH → (Option Int → DH → Prop) → Prop
  | .none => fun _ _ G Q => Q none G
  | .some e => fun W σ G Q => wpE Γ e W σ G fun x G1 => partD x G1 Q
def wpC (Γ : GE) : MO → DT
  | .none => fun _ _ G Q => Q true G
  | .some e => fun W σ G Q => wpT Γ e W σ G Q
def wpG (Γ : GE) : MG → D → WD → Sg → DH → (Sg → DH → Prop) → Prop
  | .name i => fun d _ σ G Q => Q (st σ i (some d)) G
  | .tup gs => fun d W σ G Q => ofTup d G fun ds => ds.length = gs.n ∧ wpGs Γ gs ds W σ G Q
  | .sub o i => fun d W σ G Q => wpE Γ o W σ G fun x G1 => wpE Γ i W σ G1 fun y G2 => setD x y d G2 fun G3 => Q σ G3
def wpGs (Γ : GE) : MGs → List D → WD → Sg → DH → (Sg → DH → Prop) → Prop
  | .nil => fun ds _ σ G Q => ds = [] ∧ Q σ G
  | .cons g gs => fun ds W σ G Q => ofCons ds fun d r => wpG Γ g d W σ G fun σ1 G1 => wpGs Γ gs r W σ1 G1 Q
def wpI (Γ : GE) : MI → WD → Sg → DH → IK → Prop
  | .seq e => fun W σ G Q => wpE Γ e W σ G fun x G1 => itSeq x G1 Q
  | .enum e => fun W σ G Q => wpE Γ e W σ G fun x G1 => itEnum x G1 Q
  | .rev e => fun W σ G Q => wpE Γ e W σ G fun x G1 => itRev x G1 Q
  | .zip a b => fun W σ G Q => wpE Γ a W σ G fun x G1 => wpE Γ b W σ G1 fun y G2 => itZip x y G2 Q
  | .range es => fun W σ G Q => wpEs Γ es W σ G fun ds G1 => itRange ds G1 Q
end
/-- the clauses, one behind another -/
def wpH (Γ : GE) (W : WD) (D : DEnds) : List MH → WD
  | [] => W
  | h :: hs => fun xd σ G => ∃ m, Γ.exm xd.cls h.cls = some m ∧ (m = true → ∀ a, G a = none → wpE { Γ with cur := some (a, xd) } h.ret nowish (match h.as with | none => σ | some i => st σ i (some (.ref a))) G D.rt) ∧ (m = false → wpH Γ W D hs xd σ G)
mutual
def wpS (Γ : GE) : MS → DS
  | .par2 i j es => fun W D σ G => wpEs Γ es W σ G fun ds G1 => two ds fun x y => D.nx (st (st σ i (some x)) j (some y)) G1
  | .par3 i j l es => fun W D σ G => wpEs Γ es W σ G fun ds G1 => three ds fun x y z => D.nx (st (st (st σ i (some x)) j (some y)) l (some z)) G1
  | .expr e => fun W D σ G => wpE Γ e W σ G fun _ G1 => D.nx σ G1
  | .ret e => fun W D σ G => wpE Γ e W σ G D.rt
  | .retN => fun _ D _ G => D.rt .non G
  | .asg g e => fun W D σ G => wpE Γ e W σ G fun x G1 => wpG Γ g x W σ G1 D.nx
  | .aug i op e => fun W D σ G => ∃ x, gt σ i = some x ∧ wpE Γ e W σ G fun y G1 => augD op x y G1 fun z G2 => D.nx (st σ i (some z)) G2
  | .augS o i op e => fun W D σ G => wpE Γ o W σ G fun a G1 => wpE Γ i W σ G1 fun k G2 => ∃ l, a = .ref l ∧ ixD (.ref l) k G2 fun x G3 => wpE Γ e W σ G3 fun y G4 => augD op x y G4 fun z G5 => setD (.ref l) k z G5 fun G6 => D.nx σ G6
  | .ifs c a b => fun W D σ G => wpT Γ c W σ G fun t G1 => if t = true then wpSs Γ a W D σ G1 else wpSs Γ b W D σ G1
  | .whl c b => fun W D σ G => ∃ n, whD (fun σ G Q => wpT Γ c W σ G Q) (fun D σ G => wpSs Γ b W D σ G) D n σ G
  | .forr g it b => fun W D σ G => wpI Γ it W σ G fun ds src G1 => loopD src (fun d σ G Q => wpG Γ g d W σ G Q) (fun D σ G => wpSs Γ b W D σ G) D ds σ G1
  | .raise x es => fun W _ σ G => ∃ fs, Γ.exc x = some fs ∧ fs.length = es.n ∧ wpEs Γ es W σ G fun ds G1 => W ⟨x, fs.zip ds⟩ σ G1
  | .tryy b hs => fun W D σ G => (hs.all fun h => Γ.exb h.cls) = true ∧ wpSs Γ b (wpH Γ W D hs) D σ G
  | .pass => fun _ D σ G => D.nx σ G
  | .brk => fun _ D σ G => D.bk σ G
  | .cont => fun _ D σ G => D.ct σ G
def wpSs (Γ : GE) : MSs → DS
  | .nil => fun _ D σ G => D.nx σ G
  | .cons s ss => fun W D σ G => wpS Γ s W { D with nx := fun σ' G' => wpSs Γ ss W D σ' G' } σ G
  | .zlc i a b j own g el ss => fun W D σ G => wpE Γ a W σ G fun x G1 => wpE Γ b W σ G1 fun y G2 => ∃ p q ds es, x = .ref p ∧ y = .ref q ∧ sqAt G2 p = some ds ∧ sqAt G2 q = some es ∧ (zipL ds es).length ≤ sizeLine ∧
      lcD [(p, ds), (q, es)] (fun d σ1 G3 K => wpG Γ g d nowish σ1 G3 K) (fun σ1 G3 K => wpC Γ .none nowish σ1 G3 K) (fun σ1 G3 K => wpE Γ el nowish σ1 G3 K) (fun acc G3 => ∀ r, G3 r = none → wpSs Γ ss W D (st (st σ i none) j (some (.ref r))) (put G3 r (.lst acc))) (wipeD (st σ i none) own) (zipL ds es) [] G2
end
end DL

set_option Elab.async false
set_option linter.all false
set_option maxRecDepth 100000
set_option maxHeartbeats 4000000
/-! DL5: the checker: is a piece of the program's syntax tree the piece of the small language? -/
namespace DL
open PySem PySem.Spec PyProof.Rows L2
def noStar : Expr → Bool
  | .Starred _ _ => false
  | _ => true
def noSet : Expr → Bool
  | .Set _ _ _ => false
  | _ => true
def noSlice : Expr → Bool
  | .Slice _ _ _ _ => false
  | _ => true
def noComp : Expr → Bool
  | .ListComp _ _ _ _ => false
  | .SetComp _ _ _ _ => false
  | .DictComp _ _ _ _ _ => false
  | _ => true
def plainBase : Expr → Bool
  | .Call _ _ _ _ => false
  | _ => true
def plainT : Expr → Bool
  | .Name _ _ => true
  | .Constant _ _ _ => true
  | .Subscript _ _ _ => true
  | .Call _ _ _ _ => true
  | .BinOp _ _ _ _ => true
  | _ => false
section
variable {e : Expr} {es : List Expr} {env : Env}
theorem star1 (h : noStar e = true) : starEach (e :: es) env = (false, eval e env) :: starEach es env := by
  cases e <;> first | rfl | exact absurd (show false = true from h) Bool.false_ne_true
theorem star_any (pos : Pos) : ∀ {es : List Expr}, es.all noStar = true → (backTo pos (starEach es env)).any (·.1) = false
  | [], _ => rfl
  | e :: es, h => by
    rw [List.all_cons, Bool.and_eq_true] at h
    rw [star1 h.1]
    have := star_any pos (es := es) h.2
    show (false || (backTo pos (starEach es env)).any (·.1)) = false
    rw [this]; rfl
theorem star_all (pos : Pos) : ∀ {es : List Expr}, es.all noStar = true → (backTo pos (starEach es env)).all (fun x => !x.1) = true
  | [], _ => rfl
  | e :: es, h => by
    rw [List.all_cons, Bool.and_eq_true] at h
    rw [star1 h.1]
    have := star_all pos (es := es) h.2
    show (true && (backTo pos (starEach es env)).all (fun x => !x.1)) = true
    rw [this]; rfl
theorem true_plain (h : plainT e = true) : ∀ whole, isTrue e env whole = (do let v ← whole; standAt e.pos; holding [v] (truthy v)) := by
  intro w
  cases e <;> first | rfl | exact absurd (show false = true from h) Bool.false_ne_true
theorem ix_plain (h : noSlice e = true) : PlainIx e := by
  intro o i
  cases e <;> first | rfl | exact absurd (show false = true from h) Bool.false_ne_true
theorem base_plain {x : Str} {whole : Sem Value} (h : plainBase e = true) : attributeBase e x env whole = whole := by
  cases e <;> first | rfl | exact absurd (show false = true from h) Bool.false_ne_true
theorem set_plain (h : noSet e = true) : ∀ x, foldedSetIterable e env x = pure x := by
  intro x
  cases e <;> first | rfl | exact absurd (show false = true from h) Bool.false_ne_true
theorem mark_plain {op : CmpOp} (h : noSet e = true) : behindInMarks op e = false := by
  cases e <;> first | rfl | exact absurd (show false = true from h) Bool.false_ne_true
theorem marks_plain {op op' : CmpOp} {b : Expr} (h : noSet e = true) : lastMarks [op, op'] [b, e] = false := mark_plain (op := op') h
theorem sw_plain {t : Option Expr} {l : Nat} (h : noComp e = true) : swapsWith e t l env = pure false := by
  cases e <;> first | rfl | exact absurd (show false = true from h) Bool.false_ne_true
theorem asgE1 (h : noStar e = true) : (assignEach (e :: es) env).map (·.2) = assign e env :: (assignEach es env).map (·.2) := by
  cases e <;> first | rfl | exact absurd (show false = true from h) Bool.false_ne_true
theorem asgE_len : ∀ {es : List Expr}, es.all noStar = true → (assignEach es env).length = es.length ∧ (assignEach es env).findIdx? (·.1) = none
  | [], _ => ⟨rfl, rfl⟩
  | e :: es, h => by
    rw [List.all_cons, Bool.and_eq_true] at h
    have e1 : assignEach (e :: es) env = (false, assign e env) :: assignEach es env := by
      cases e <;> first | rfl | exact absurd (show false = true from h.1) Bool.false_ne_true
    obtain ⟨h1, h2⟩ := asgE_len (es := es) h.2
    rw [e1]
    refine ⟨by rw [List.length_cons, List.length_cons, h1], ?_⟩
    rw [List.findIdx?_cons, h2]
    rfl
theorem asgSub {o i : Expr} {pos : Pos} (h : noSlice i = true) : ∀ v, assign (.Subscript o i pos) env v = (do
      let ov ← holding [v] (eval o env)
      let iv ← holding [v, ov] (eval i env)
      standAt pos
      holding [v, ov, iv] (setItem ov iv v)
      release [v, ov, iv] []) := by
  intro v
  cases i <;> first | rfl | exact absurd (show false = true from h) Bool.false_ne_true
theorem augSub {i : Expr} (h : noSlice i = true) : ∀ ov iv new, augStore i ov iv new = (do holding [new, ov, iv] (setItem ov iv new); release [new, ov, iv] []; pure .next) := by
  intro ov iv new
  cases i <;> first | rfl | exact absurd (show false = true from h) Bool.false_ne_true
end
/-- where a piece of text stands: the names by slot, the scope that runs, the scope as written, within an except suite or not -/
structure CT where
  N : List Str
  sc : Scope
  raw : Scope
  su : Bool
  gcd : Nat
def modOk (b : BI) (n : Nat) : Bool := match b with
  | .gcd => decide (1 ≤ n)
  | .comb => decide (2 ≤ n)
  | _ => true
def visB (sc : Scope) (x : Str) : Bool := match sc.names.lookup x with
  | some .local => true | some .cell => true | some .free => true | _ => false
def locB (c : CT) (x : Str) : Bool := match c.sc.names.lookup x, c.raw.names.lookup x with
  | some .local, _ => true
  | some .cell, some .cell => true
  | _, _ => false
def glB (sc : Scope) (x : Str) : Bool := match sc.names.lookup x with
  | some .globalImplicit => true | _ => false
def okName (x : Str) : Bool := !(x == ("__debug__" : Str)) && !(x == ("__classdict__" : Str)) && !(x == ("__name__" : Str))
def atN (c : CT) (i : Nat) (x : Str) : Bool := match c.N[i]? with
  | some y => decide (y = x)
  | none => false
mutual
def chE (c : CT) : ME → Expr → Bool
  | .var i => fun e => match e with | .Name x _ => atN c i x && visB c.sc x && okName x | _ => false
  | .non => fun e => match e with | .Constant .none _ _ => true | _ => false
  | .bl b => fun e => match e with | .Constant (.bool b') _ _ => b == b' | _ => false
  | .int i => fun e => match e with | .Constant (.int i') _ _ => decide (i = i') | _ => false
  | .str s => fun e => match e with | .Constant (.str s') _ _ => decide (s = s') | _ => false
  | .bin op a b => fun e => match e with | .BinOp x op' y _ => decide (op = op') && (chE c a x && chE c b y) | _ => false
  | .neg a => fun e => match e with | .UnaryOp .USub x _ => chE c a x | _ => false
  | .cmp op a b => fun e => match e with | .Compare x [op'] [y] _ => decide (op = op') && noSet y && (chE c a x && chE c b y) | _ => false
  | .chain op op' a b d => fun e => match e with | .Compare x [o1, o2] [y, z] _ => decide (op = o1) && decide (op' = o2) && noSet z && (chE c a x && chE c b y && chE c d z) | _ => false
  | .and es => fun e => match e with | .BoolOp .And vs _ => chEs c es vs | _ => false
  | .or es => fun e => match e with | .BoolOp .Or vs _ => chEs c es vs | _ => false
  | .not a => fun e => match e with | .UnaryOp .Not x _ => chE c a x | _ => false
  | .ifx t a b => fun e => match e with | .IfExp u x y _ => chE c t u && chE c a x && chE c b y | _ => false
  | .tup es => fun e => match e with | .Tuple vs _ _ => decide (vs.length ≤ 1000) && chEs c es vs | _ => false
  | .lst es => fun e => match e with | .List vs _ => decide (vs.length ≤ 1000) && chEs c es vs | _ => false
  | .dct0 => fun e => match e with | .Dict [] [] _ => true | _ => false
  | .ix a i => fun e => match e with | .Subscript x y _ => noSlice y && (chE c a x && chE c i y) | _ => false
  | .slc a lo hi => fun e => match e with | .Subscript x (.Slice l h none _) _ => chE c a x && chO c lo l && chO c hi h | _ => false
  | .revl a => fun e => match e with | .Subscript x (.Slice none none (some (.UnaryOp .USub (.Constant (.int i) _ _) _)) _) _ => decide (i = 1) && chE c a x | _ => false
  | .call f es => fun e => match e with | .Call (.Name x _) args [] _ => decide (x = f) && !c.su && glB c.sc x && okName x && args.all noStar && chEs c es args | _ => false
  | .callk f es ks kes => fun e => match e with | .Call (.Name x _) args kws _ => decide (x = f) && !c.su && glB c.sc x && okName x && args.all noStar && chEs c es args && chK c ks kes kws | _ => false
  | .bi b es => fun e => match e with | .Call (.Name x _) args [] _ => decide (x = b.name) && modOk b c.gcd && !c.su && glB c.sc x && args.all noStar && chEs c es args | _ => false
  | .isi a t => fun e => match e with | .Call (.Name x _) [u, .Name y _] [] _ => decide (x = "isinstance" ∧ t ≠ .none) && decide (y = Str.ofString t.s) && glB c.sc x && glB c.sc y && noStar u && chE c a u | _ => false
  | .meth m o es => fun e => match e with | .Call (.Attribute u x ap) args [] cp => decide (x = m.name) && !c.su && decide (args.length = m.many) && (ap.endLine == cp.line) && plainBase u && args.all noStar && chE c o u && chEs c es args | _ => false
  | .lc own g it t el => fun e => match e with | .ListComp x [⟨tg, iter, ifs, 0⟩] scope _ => !c.su && blkC c.N c.sc scope own && chI c it iter tg && chG ⟨c.N, relS scope c.sc, scope, false, c.gcd⟩ g tg && ownB own g && chC ⟨c.N, relS scope c.sc, scope, false, c.gcd⟩ t ifs && chE ⟨c.N, relS scope c.sc, scope, false, c.gcd⟩ el x | _ => false
  | .glob x => fun e => match e with | .Name y _ => decide (x = y) && glB c.sc x && okName x | _ => false
  | .fstr es => fun e => match e with | .JoinedStr vs _ => decide (2 ≤ vs.length) && chEs c es vs | _ => false
  | .fmt a => fun e => match e with | .FormattedValue x i none _ => decide (i = -1) && chE c a x | _ => false
  | .exf i f => fun e => match e with | .Attribute (.Name x _) f' _ => c.su && decide (f = f') && atN c i x && visB c.sc x && okName x | _ => false
  | .exi i y => fun e => match e with | .Call (.Name g _) [.Name x _, .Name z _] [] _ => decide (g = "isinstance") && decide (y = z) && c.su && atN c i x && visB c.sc x && okName x && glB c.sc g && glB c.sc z && okName z | _ => false
  | .stup z => fun e => match e with | .Tuple vs _ _ => chZ c z vs | _ => false
  | .slst z => fun e => match e with | .List vs _ => chZ c z vs | _ => false
def chZ (c : CT) : MZ → List Expr → Bool
  | .nil => fun es => match es with | [] => true | _ => false
  | .one m z => fun es => match es with | e :: es => noStar e && chE c m e && chZ c z es | [] => false
  | .star m z => fun es => match es with | .Starred e _ :: es => chE c m e && chZ c z es | _ => false
def chEs (c : CT) : MEs → List Expr → Bool
  | .nil => fun es => match es with | [] => true | _ => false
  | .cons m ms => fun es => match es with | e :: es => noStar e && chE c m e && chEs c ms es | [] => false
def chK (c : CT) : List Str → MEs → List Keyword → Bool
  | ks, .nil, kws => match ks, kws with | [], [] => true | _, _ => false
  | ks, .cons m ms, kws => match ks, kws with | k :: ks, ⟨some x, e, _⟩ :: kws => decide (k = x) && chE c m e && chK c ks ms kws | _, _ => false
def chO (c : CT) : MO → Option Expr → Bool
  | .none => fun o => match o with | none => true | _ => false
  | .some m => fun o => match o with | some e => chE c m e | none => false
def chC (c : CT) : MO → List Expr → Bool
  | .none => fun o => match o with | [] => true | _ => false
  | .some m => fun o => match o with | [e] => chE c m e | _ => false
def chG (c : CT) : MG → Expr → Bool
  | .name i => fun e => match e with | .Name x _ => atN c i x && locB c x | _ => false
  | .tup gs => fun e => match e with | .Tuple es _ _ => !c.su && es.all noStar && chGs c gs es | _ => false
  | .sub o i => fun e => match e with | .Subscript x y _ => noSlice y && chE c o x && chE c i y | _ => false
def chGs (c : CT) : MGs → List Expr → Bool
  | .nil => fun es => match es with | [] => true | _ => false
  | .cons g gs => fun es => match es with | e :: es => chG c g e && chGs c gs es | [] => false
/-- what is walked, and the target that takes it -/
def chI (c : CT) : MI → Expr → Expr → Bool
  | .seq m => fun e _ => noSet e && chE c m e
  | .range ms => fun e _ => match e with | .Call (.Name x _) args [] _ => decide (x = "range" ∧ args.length ≤ 3) && !c.su && glB c.sc x && args.all noStar && chEs c ms args | _ => false
  | .enum m => fun e tg => match e with | .Call (.Name x _) [a] [] _ => decide (x = "enumerate") && !c.su && glB c.sc x && noStar a && isTup tg && chE c m a | _ => false
  | .rev m => fun e _ => match e with | .Call (.Name x _) [a] [] _ => decide (x = "reversed") && !c.su && glB c.sc x && noStar a && chE c m a | _ => false
  | .zip m n => fun e tg => match e with | .Call (.Name x _) [a, b] [] _ => decide (x = "zip") && !c.su && glB c.sc x && noStar a && noStar b && isTup tg && chE c m a && chE c n b | _ => false
def isTup : Expr → Bool
  | .Tuple _ _ _ => true
  | _ => false
/-- the target's slots are the block's own -/
def ownB (own : List (Str × Nat)) : MG → Bool
  | .name i => (own.map (·.2)).contains i
  | .tup gs => ownBs own gs
  | .sub _ _ => false
def ownBs (own : List (Str × Nat)) : MGs → Bool
  | .nil => true
  | .cons g gs => ownB own g && ownBs own gs
end
end DL

set_option Elab.async false
set_option linter.all false
set_option maxRecDepth 100000
set_option maxHeartbeats 4000000
/-! DL6: the setting of a piece of text; what the module's names are; promises of defs lifted; what is walked. -/
namespace DL
open PySem PySem.Spec PyProof.Rows L2
def RFs (K : PySem.W.Frag) (H : Hp) : List (Str × D) → List (Str × V) → Prop
  | [], vs => vs = []
  | (f, d) :: r, vs => ∃ v ws, vs = (f, v) :: ws ∧ Rp K H d v ∧ RFs K H r ws
theorem RFs.keep {R : Addr → Prop} {H H' : Hp} {K : PySem.W.Frag} (k : Keep R H H') : ∀ {ds : List (Str × D)} {vs : List (Str × V)}, RFs K H ds vs → RFs K H' ds vs
  | [], _, h => h
  | (x, d) :: ds, vs, h => by
    obtain ⟨v, ws, e, q, r⟩ := h
    exact ⟨v, ws, e, Rp.keep k q, RFs.keep k r⟩
theorem RFs.get {K : PySem.W.Frag} {H : Hp} {f : Str} {d : D} : ∀ {ds : List (Str × D)} {vs : List (Str × V)}, RFs K H ds vs → ds.lookup f = some d → ∃ v, vs.lookup f = some v ∧ Rp K H d v
  | [], _, _, e => by cases e
  | (x, d') :: ds, vs, h, e => by
    obtain ⟨v, ws, e1, q, r⟩ := h
    subst e1
    rw [List.lookup_cons] at e ⊢
    cases hb : f == x with
    | true =>
      rw [hb] at e
      cases e
      exact ⟨v, rfl, q⟩
    | false =>
      rw [hb] at e
      exact RFs.get r e
/-- an exception in the air -/
def RX (K : PySem.W.Frag) (mg : Str → Option Value) (H : Hp) (xd : XD) (cls : Value) (d : Option Addr) : Prop :=
  ∃ C, mg xd.cls = some (.ref C) ∧ cls = .ref C ∧ (xd.fs = [] ∨ (XfC K C ∧ ∀ p ∈ xd.fs, PySem.W.findIn K (.ref C) p.1 = some none) ∧ ∃ dd fvs, d = some dd ∧ H dd = some (.xd fvs) ∧ RFs K H xd.fs fvs)
def GR (K : PySem.W.Frag) (R : Addr → Prop) (G : DH) (H : Hp) : Prop := (∀ a o, G a = some o → RO K H a o) ∧ ∀ a, R a → G a = none
/-- what a callee leaves alone -/
def Rs (H : Hp) (G : DH) : Addr → Prop := fun a => H a ≠ none ∧ G a = none
/-- a promise over plain values, as one of the layer's -/
def toSp (K : PySem.W.Frag) (mg : Str → Option Value) (n : Nat) (S : DSp) : Sp := fun vs H Q E => ∃ ds G Qd Ed, ds.length = n ∧ Rps K H ds vs ∧ (∀ a o, G a = some o → RO K H a o) ∧ S ds G Qd Ed ∧
  (∀ d G' v H', Qd d G' → Rp K H' d v → GR K (Rs H G) G' H' → Keep (Rs H G) H H' → Q v H') ∧
  (∀ xd G' cls dd H', Ed xd G' → RX K mg H' xd cls dd → GR K (Rs H G) G' H' → Keep (Rs H G) H H' → E cls dd H')
/-- how a call with keywords binds -/
def KBd (K : PySem.W.Frag) (fd : FuncData) (ps : List Str) (n : Nat) (ks : List Str) (p : List Nat) (dfl : List D) : Prop :=
  ∃ (dv : List Value) (vd : List V), Vals vd dv ∧ (∀ H, Rps K H dfl vd) ∧ ∀ (s : Shared) (us ws : List Value), K.In s.heap → us.length = n → ws.length = ks.length → BindsTo s fd ⟨us, ks.zip ws⟩ (ps.zip (permL p (us ++ ws ++ dv)))
/-- the promise of an own exception's __init__ -/
def spInit (K : PySem.W.Frag) (C : Addr) (f : Str) : Sp := fun vs H Q _ => ∃ a v, vs = [.ref a, v] ∧ OexC K C ∧ PySem.W.findIn K (.ref C) f = some none ∧ H a = some (exo a C none) ∧
  ∀ dx, H dx = none → dx ≠ a → Q .non (upd (upd H dx (exd dx [(f, v)])) a (exo a C (some dx)))
def veB : List Value := [.type "ValueError", .type "Exception", .type "BaseException", .type "object"]
/-- what is known of an own exception class -/
def ExOk (P : Program) (w : World) (K : PySem.W.Frag) (mg : Str → Option Value) (base : Heap) (x : Str) (fs : List Str) : Prop := match fs with
  | [] => ∃ C, mg x = some (.ref C) ∧ PySem.W.excIn K C veB "ValueError.__new__" = true ∧ PySem.W.keepIn K (.ref C) = true ∧ PySem.W.subIn K (.ref C) (.type "BaseException") = some true ∧ PySem.W.typeIn K (.ref C) = some (.type "type")
  | [f] => ∃ C fI fd, mg x = some (.ref C) ∧ OexC K C ∧ PySem.W.findIn K (.ref C) "__init__" = some (some (.ref fI)) ∧ PySem.W.typeIn K (.ref fI) = some (.type "function") ∧
      FnOk P w K mg base (L2.CX P w) 1 fI fd ["self", f] (spInit K C f) ∧ Binds K fd ["self", f] [] ∧ PySem.W.findIn K (.ref C) f = some none ∧ XfC K C
  | _ => False
def bNames : List Str := ["len", "abs", "int", "str", "sum", "max", "min", "all", "any", "list", "tuple", "bool", "dict", "isinstance", "range", "enumerate", "zip", "reversed"]
/-- what isinstance asks of an exception's class -/
structure XisC (K : PySem.W.Frag) (C : Addr) : Prop where
  cl : (PySem.W.clsIn K C).isSome = true
  ga : PySem.W.findIn K (.ref C) "__getattribute__" = some (some (.builtin "BaseException.__getattribute__"))
  gg : PySem.W.findIn K (.ref C) "__getattr__" = some none
  ex : PySem.W.subIn K (.ref C) (.type "BaseException") = some true
  ca : PySem.W.findIn K (.ref C) "__class__" = some (some (.builtin "object.__class__"))
  cn : PySem.W.specialIn K (.builtin "object.__class__") "__get__" = some (some (.builtin "getset_descriptor.__get__"))
  ct : PySem.W.takesIn K (.builtin "object.__class__") = some true
  mo : PySem.W.mroIn K C (.type "object") = some true
structure GOk (Γ : GE) (k : Nat) (g : Nat) (P : Program) (w : World) (K : PySem.W.Frag) (mg : Str → Option Value) (base : Heap) : Prop where
  fn : ∀ f fi, Γ.fn f = some fi → ∃ a fd, mg f = some (.ref a) ∧ PySem.W.keepIn K (.ref a) = true ∧ FnOk P w K mg base (L2.CX P w) k a fd fi.ps (toSp K mg fi.ps.length fi.sp) ∧ Binds K fd fi.ps [] ∧ ∀ q ∈ fi.kws, KBd K fd fi.ps q.1 q.2.1 q.2.2 fi.dfl
  bt : ∀ x ∈ bNames, mg x = none
  gcd : 1 ≤ g → mg "gcd" = some (.builtin "math.gcd")
  cmb : 2 ≤ g → mg "comb" = some (.builtin "math.comb")
  con : ∀ x d, Γ.con x = some d → ∃ u v, mg x = some u ∧ RelV v u ∧ ∀ H, Rp K H d v
  exc : ∀ x fs, Γ.exc x = some fs → ExOk P w K mg base x fs
  exb : ∀ x, Γ.exb x = true → (x == ("__debug__" : Str)) = false ∧ ∃ C, mg x = some (.ref C)
  exm : ∀ x y m, Γ.exm x y = some m → ∃ Cx Cy, mg x = some (.ref Cx) ∧ mg y = some (.ref Cy) ∧ PySem.W.exmOne K (.ref Cx) (.ref Cy) = some m
  exi : ∀ x y m, Γ.exi x y = some m → ∃ Cx Cy, mg x = some (.ref Cx) ∧ mg y = some (.ref Cy) ∧ XisC K Cx ∧ PySem.W.kitOne K (.ref Cx) (.ref Cy) = some m
  ns : base.NoSeer
  tr : P.given.tree = none
/-- the wish for exceptions, lifted -/
def lW (K : PySem.W.Frag) (mg : Str → Option Value) (R : Addr → Prop) (H0 : Hp) (W : WD) : WX := fun cls d σv H => ∃ xd σ G, W xd σ G ∧ RX K mg H xd cls d ∧ SR K R H0 σ G σv H
/-- the exception that an except suite holds -/
def CurOk (R : Addr → Prop) (H0 : Hp) (X : Cx) (a : Addr) (xd : XD) : Prop :=
  ∃ (Y : Cx) (oe : Obj) (pn : List (Addr × Obj)) (cls : Value) (d : Option Addr) (C : Addr), X = Y.suite a ((a, oe) :: pn) ∧ Zc cls d oe ∧ (∃ vs, oe.data = .fields vs) ∧ X.mg xd.cls = some (.ref C) ∧ cls = .ref C ∧
    (∀ f v, xd.fs.lookup f = some v → XfC X.K C ∧ PySem.W.findIn X.K (.ref C) f = some none) ∧ (xd.fs = [] ∨ ∃ dd fvs, d = some dd ∧ R dd ∧ H0 dd = some (.xd fvs) ∧ RFs X.K H0 xd.fs fvs)
/-- what the pylong way asks of the place -/
structure PH (X : Cx) : Prop where
  tr : X.prog.given.tree = none
  dp : X.A.depth + 100 < recursionLimit
  fr : ∃ env l, X.stack = env :: l ∧ env.scope.isGenerator = false ∧ env.scope.isCoroutine = false ∧ env.builtins = builtinsNs ∧ env.globals = mainGlobals
  ns : X.base.NoSeer
theorem PH.room {X : Cx} (h : PH X) : PlR X := fun pins s σ H I => by
  obtain ⟨env, l, f1, f2, f3, f4, f5⟩ := h.fr
  exact PySem.PylongRoom.of I.nolimit h.dp (PySem.SeerAt.of (h.ns.keeps I.bk) h.tr (by rw [I.ok.frames, f1]) f2 f3 f4 f5)
structure SX (Γ : GE) (k : Nat) (c : CT) (R : Addr → Prop) (H0 : Hp) (W : WD) (X : Cx) : Prop where
  N : X.N = c.N
  nd : c.N.Nodup
  sc : X.env.scope = c.sc
  fk : c.sc.kind = .function
  fn : ∀ x, c.raw.names.lookup x = some .cell → X.fn x = true
  un : X.A.units + 64 < cLine
  k2 : 2 ≤ k
  rm : c.su = false → Room k X.A
  cm : c.su = false → X.calm = true
  ok : GOk Γ k c.gcd X.prog X.w X.K X.mg X.base
  tk : Takes X (lW X.K X.mg R H0 W)
  cu : c.su = true → ∃ a xd, Γ.cur = some (a, xd) ∧ CurOk R H0 X a xd
  ph : PH X

/-- which slots a target may touch -/
def Ow (o : Option (List (Str × Nat))) (a b : L2.St) : Prop := match o with
  | none => True
  | some own => wipe b (own.map (·.2)) = wipe a (own.map (·.2))
theorem Ow.refl {o : Option (List (Str × Nat))} {a : L2.St} : Ow o a a := by cases o <;> trivial
theorem Ow.trans {o : Option (List (Str × Nat))} {a b c : L2.St} (h : Ow o a b) (h' : Ow o b c) : Ow o a c := by
  cases o with
  | none => trivial
  | some own => exact Eq.trans (show wipe c _ = wipe b _ from h') h
theorem wipe_set {σ : L2.St} {i : Nat} {x : Option V} : ∀ {vs : List Nat}, i ∈ vs → wipe (σ.set i x) vs = wipe σ vs
  | [], h => by cases h
  | v :: vs, h => by
    unfold wipe
    by_cases hm : i ∈ vs
    · rw [wipe_set hm]
    · have e : i = v := by
        rcases List.mem_cons.mp h with e | e
        · exact e
        · exact absurd e hm
      subst e
      have key : ∀ (ws : List Nat), wipe (σ.set i x) ws = (if i ∈ ws then wipe σ ws else (wipe σ ws).set i x) := by
        intro ws
        induction ws with
        | nil => rw [if_neg (by simp)]; rfl
        | cons w ws ih =>
          unfold wipe
          rw [ih]
          by_cases h1 : i ∈ ws
          · rw [if_pos h1, if_pos (List.mem_cons_of_mem _ h1)]
          · rw [if_neg h1]
            by_cases h2 : i = w
            · subst h2
              rw [if_pos (List.mem_cons_self), List.set_set]
            · rw [if_neg (by simp [h1, h2]), List.set_comm _ _ h2]
      rw [key vs, if_neg hm, List.set_set]
theorem Ow.set {o : Option (List (Str × Nat))} {σ : L2.St} {i : Nat} {x : Option V} (h : ∀ own, o = some own → (own.map (·.2)).contains i = true) : Ow o σ (σ.set i x) := by
  cases o with
  | none => trivial
  | some own => exact wipe_set (by simpa using h own rfl)
def lG (K : PySem.W.Frag) (R : Addr → Prop) (H0 : Hp) (W : WD) (o : Option (List (Str × Nat))) (g : D → WD → Sg → DH → (Sg → DH → Prop) → Prop) : TG := fun v σv H Qv => ∃ d σ G Q, Rp K H d v ∧ SR K R H0 σ G σv H ∧ g d W σ G Q ∧
  ∀ σ' G' σv' H', Q σ' G' → SR K R H0 σ' G' σv' H' → Keep R H H' → Ow o σv σv' → Qv σv' H'
def lGs (K : PySem.W.Frag) (R : Addr → Prop) (H0 : Hp) (W : WD) (o : Option (List (Str × Nat))) (g : List D → WD → Sg → DH → (Sg → DH → Prop) → Prop) : TGs := fun vs σv H Qv => ∃ ds σ G Q, Rps K H ds vs ∧ SR K R H0 σ G σv H ∧ g ds W σ G Q ∧
  ∀ σ' G' σv' H', Q σ' G' → SR K R H0 σ' G' σv' H' → Keep R H H' → Ow o σv σv' → Qv σv' H'
def lO (K : PySem.W.Frag) (R : Addr → Prop) (H0 : Hp) (W : WD) (t : WD → Sg → DH → (Option Int → DH → Prop) → Prop) : TO := fun σv H Qv => ∃ σ G Q, SR K R H0 σ G σv H ∧ t W σ G Q ∧ ∀ o G' H', Q o G' → SR K R H0 σ G' σv H' → Keep R H H' → Qv o H'
/-- what is walked, whatever else is told: only the tuples' and locked things' staying is used -/
def KeepT : Hp → Hp → Prop := Keep fun _ => False
theorem Keep.t {R : Addr → Prop} {H H' : Hp} (k : Keep R H H') : KeepT H H' := ⟨k.tup, k.frz, fun _ z => z.elim⟩
structure WkD (K : PySem.W.Frag) (J : It) (ds : List D) (src : List (Addr × List D)) (Hs : Hp) : Prop where
  go : ∀ (i : Nat) (G : DH) (H : Hp), i < ds.length → (∀ a o, G a = some o → RO K H a o) → srcOk src G → KeepT Hs H → J.go i H
  stop : ∀ (G : DH) (H : Hp), (∀ a o, G a = some o → RO K H a o) → srcOk src G → KeepT Hs H → J.stop ds.length H
  yld : ∀ (i : Nat) (d : D) (G : DH) (H : Hp) (x : V) (H' : Hp), ds[i]? = some d → (∀ a o, G a = some o → RO K H a o) → srcOk src G → KeepT Hs H → J.yld i H x H' →
    (H' = H ∧ Rp K H d x) ∨ ∃ T xs es, H T = none ∧ H' = upd H T (.tup xs) ∧ x = .ref T ∧ d = .tup es ∧ Rps K H es xs
def lI (K : PySem.W.Frag) (R : Addr → Prop) (H0 : Hp) (W : WD) (t : WD → Sg → DH → IK → Prop) : TI := fun σv H Rr => ∃ σ G Q, SR K R H0 σ G σv H ∧ t W σ G Q ∧
  ∀ ds src G' H' J, Q ds src G' → WkD K J ds src H' → SR K R H0 σ G' σv H' → Keep R H H' → Rr J H'
/-- the yield in a state -/
theorem WkD.next {K : PySem.W.Frag} {J : It} {ds : List D} {src : List (Addr × List D)} {Hs : Hp} (w : WkD K J ds src Hs) {R : Addr → Prop} {H0 H H' : Hp} {σ : Sg} {G : DH} {σv : L2.St} {i : Nat} {d : D} {x : V} (hd : ds[i]? = some d)
    (s : SR K R H0 σ G σv H) (hs : srcOk src G) (k : KeepT Hs H) (y : J.yld i H x H') : SR K R H0 σ G σv H' ∧ Rp K H' d x ∧ Keep R H H' := by
  rcases w.yld i d G H x H' hd s.gr hs k y with ⟨e, r⟩ | ⟨T, xs, es, hT, e, ex, ed, r⟩
  · subst e
    exact ⟨s, r, .refl⟩
  · have kp : Keep R H (upd H T (.tup xs)) := Keep.new hT s.nres
    subst e ex ed
    exact ⟨s.hid hT, ⟨T, xs, rfl, SqT.of upd_same, r.keep kp⟩, kp⟩
section
variable {K : PySem.W.Frag} {Hs : Hp}
theorem sqL_of {H : Hp} {G : DH} (gr : ∀ a o, G a = some o → RO K H a o) {a : Addr} {ds : List D} (h : sqAt G a = some ds) : ∃ vs, SqL K H a vs ∧ Rps K H ds vs := by
  unfold sqAt at h
  cases e : G a with
  | none => rw [e] at h; cases h
  | some o =>
    rw [e] at h
    have z := gr a o e
    cases o with
    | lst xs =>
      cases h
      obtain ⟨vs, e1, q⟩ := z
      exact ⟨vs, SqL.of e1, q⟩
    | dct _ => cases h
theorem wk_lst {a : Addr} {ds : List D} : WkD K (Itl K a) ds [(a, ds)] Hs where
  go := fun i G H hi gr hs _ => by
    obtain ⟨vs, q, r⟩ := sqL_of gr (show sqAt G a = some ds from hs (a, ds) (by simp))
    have hl := r.length
    exact ⟨vs, vs[i], q, by simp [show i < vs.length by omega]⟩
  stop := fun G H gr hs _ => by
    obtain ⟨vs, q, r⟩ := sqL_of gr (show sqAt G a = some ds from hs (a, ds) (by simp))
    exact ⟨vs, q, Nat.le_of_eq r.length⟩
  yld := fun i d G H x H' hd gr hs _ y => by
    obtain ⟨vs, q, r⟩ := sqL_of gr (show sqAt G a = some ds from hs (a, ds) (by simp))
    obtain ⟨v, e, rv⟩ := r.get hd
    have e2 := y.2 vs q
    rw [e] at e2; cases e2
    exact .inl ⟨y.1, rv⟩
theorem wk_tup {a : Addr} {ds : List D} {vs : List V} (q : SqT K Hs a vs) (r : Rps K Hs ds vs) : WkD K (Itt K a) ds [] Hs where
  go := fun i G H hi gr hs k => by
    have hl := r.length
    exact ⟨vs, vs[i], k.sqT q, by simp [show i < vs.length by omega]⟩
  stop := fun G H gr hs k => ⟨vs, k.sqT q, Nat.le_of_eq r.length⟩
  yld := fun i d G H x H' hd gr hs k y => by
    obtain ⟨v, e, rv⟩ := r.get hd
    have e2 := y.2 vs (k.sqT q)
    rw [e] at e2; cases e2
    exact .inl ⟨y.1, rv.keep k⟩
theorem wk_lsv {a : Addr} {ds : List D} {vs : List V} (q : SqV K Hs a vs) (r : Rps K Hs ds vs) : WkD K (Itl K a) ds [] Hs where
  go := fun i G H hi gr hs k => by
    have hl := r.length
    exact ⟨vs, vs[i], (k.sqV q).l, by simp [show i < vs.length by omega]⟩
  stop := fun G H gr hs k => ⟨vs, (k.sqV q).l, Nat.le_of_eq r.length⟩
  yld := fun i d G H x H' hd gr hs k y => by
    obtain ⟨v, e, rv⟩ := r.get hd
    have e2 := y.2 vs (k.sqV q).l
    rw [e] at e2; cases e2
    exact .inl ⟨y.1, rv.keep k⟩
theorem rangeL_get {lo c : Int} {n i : Nat} {d : D} (h : (rangeL lo n c)[i]? = some d) : i < n ∧ d = .int (lo + (i : Nat) * c) := by
  unfold rangeL at h
  rw [List.getElem?_map] at h
  by_cases hi : i < n
  · rw [List.getElem?_range hi] at h
    exact ⟨hi, (Option.some.inj h).symm⟩
  · rw [List.getElem?_eq_none (by rw [List.length_range]; omega)] at h; cases h
theorem rangeL_length (lo c : Int) (n : Nat) : (rangeL lo n c).length = n := by unfold rangeL; rw [List.length_map, List.length_range]
theorem wk_range {lo : Int} {n : Nat} : WkD K (Itr lo n) (rangeL lo n 1) [] Hs where
  go := fun i G H hi _ _ _ => by rw [rangeL_length] at hi; exact hi
  stop := fun G H _ _ _ => by rw [rangeL_length]; exact Nat.le_refl _
  yld := fun i d G H x H' hd _ _ _ y => by
    obtain ⟨h1, h2⟩ := rangeL_get hd
    obtain ⟨e1, e2⟩ := y
    subst h2
    exact .inl ⟨e1, by rw [e2]; show V.int _ = V.int _; rw [Int.mul_one]⟩
theorem wk_rangeC {lo c : Int} {n : Nat} : WkD K (Itc lo c n) (rangeL lo n c) [] Hs where
  go := fun i G H hi _ _ _ => by rw [rangeL_length] at hi; exact hi
  stop := fun G H _ _ _ => by rw [rangeL_length]; exact Nat.le_refl _
  yld := fun i d G H x H' hd _ _ _ y => by
    obtain ⟨h1, h2⟩ := rangeL_get hd
    obtain ⟨e1, e2⟩ := y
    subst h2
    exact .inl ⟨e1, e2⟩
theorem enumL_get : ∀ {ds : List D} {j i : Nat} {d : D}, (enumL j ds)[i]? = some d → ∃ e, ds[i]? = some e ∧ d = .tup [.int ((j + i : Nat) : Int), e]
  | [], _, _, _, h => by simp [enumL] at h
  | x :: ds, j, 0, d, h => by
    have h' : D.tup [.int (j : Nat), x] = d := by simpa [enumL] using h
    exact ⟨x, rfl, h'.symm⟩
  | x :: ds, j, i + 1, d, h => by
    have h' : (enumL (j + 1) ds)[i]? = some d := by simpa [enumL] using h
    obtain ⟨e, h1, h2⟩ := enumL_get h'
    exact ⟨e, by simpa using h1, by rw [h2, show j + 1 + i = j + (i + 1) by omega]⟩
theorem enumL_length : ∀ (ds : List D) (j : Nat), (enumL j ds).length = ds.length
  | [], _ => rfl
  | x :: ds, j => by
    show (enumL (j + 1) ds).length + 1 = _
    rw [enumL_length ds]; rfl
theorem wk_enum {a : Addr} {ds : List D} : WkD K (Ite K a) (enumL 0 ds) [(a, ds)] Hs where
  go := fun i G H hi gr hs _ => by
    rw [enumL_length] at hi
    obtain ⟨vs, q, r⟩ := sqL_of gr (show sqAt G a = some ds from hs (a, ds) (by simp))
    have hl := r.length
    exact ⟨vs, vs[i], q, by simp [show i < vs.length by omega]⟩
  stop := fun G H gr hs _ => by
    rw [enumL_length]
    obtain ⟨vs, q, r⟩ := sqL_of gr (show sqAt G a = some ds from hs (a, ds) (by simp))
    exact ⟨vs, q, Nat.le_of_eq r.length⟩
  yld := fun i d G H x H' hd gr hs _ y => by
    obtain ⟨vs, q, r⟩ := sqL_of gr (show sqAt G a = some ds from hs (a, ds) (by simp))
    obtain ⟨e, h1, h2⟩ := enumL_get hd
    obtain ⟨v, e1, rv⟩ := r.get h1
    obtain ⟨T, z, ex, hT, eH, hz⟩ := y
    have e2 := hz vs q
    rw [e1] at e2; cases e2
    refine .inr ⟨T, _, _, hT, eH, ex, h2, .int (i : Nat), [v], rfl, ?_, v, [], rfl, rv, rfl⟩
    show V.int _ = V.int _
    rw [Nat.zero_add]
theorem wk_enumT {a : Addr} {ds : List D} {vs : List V} (q : SqT K Hs a vs) (r : Rps K Hs ds vs) : WkD K (IteT K a) (enumL 0 ds) [] Hs where
  go := fun i G H hi gr hs k => by
    rw [enumL_length] at hi
    have hl := r.length
    exact ⟨vs, vs[i], k.sqT q, by simp [show i < vs.length by omega]⟩
  stop := fun G H gr hs k => by
    rw [enumL_length]
    exact ⟨vs, k.sqT q, Nat.le_of_eq r.length⟩
  yld := fun i d G H x H' hd gr hs k y => by
    obtain ⟨e, h1, h2⟩ := enumL_get hd
    obtain ⟨v, e1, rv⟩ := r.get h1
    obtain ⟨T, z, ex, hT, eH, hz⟩ := y
    have e2 := hz vs (k.sqT q)
    rw [e1] at e2; cases e2
    refine .inr ⟨T, _, _, hT, eH, ex, h2, .int (i : Nat), [v], rfl, ?_, v, [], rfl, rv.keep k, rfl⟩
    show V.int _ = V.int _
    rw [Nat.zero_add]
theorem zipL_get : ∀ {ds es : List D} {i : Nat} {d : D}, (zipL ds es)[i]? = some d → ∃ x y, ds[i]? = some x ∧ es[i]? = some y ∧ d = .tup [x, y]
  | [], _, _, _, h => by simp [zipL] at h
  | _ :: _, [], _, _, h => by simp [zipL] at h
  | x :: ds, y :: es, 0, d, h => by
    have h' : D.tup [x, y] = d := by simpa [zipL] using h
    exact ⟨x, y, rfl, rfl, h'.symm⟩
  | x :: ds, y :: es, i + 1, d, h => by
    have h' : (zipL ds es)[i]? = some d := by simpa [zipL] using h
    obtain ⟨x', y', h1, h2, h3⟩ := zipL_get h'
    exact ⟨x', y', by simpa using h1, by simpa using h2, h3⟩
theorem zipL_length : ∀ (ds es : List D), (zipL ds es).length = min ds.length es.length
  | [], _ => by simp [zipL]
  | _ :: _, [] => by simp [zipL]
  | x :: ds, y :: es => by
    show (zipL ds es).length + 1 = _
    rw [zipL_length ds es, List.length_cons, List.length_cons]; omega
theorem wk_zip {a b : Addr} {ds es : List D} : WkD K (Itz K a b) (zipL ds es) [(a, ds), (b, es)] Hs where
  go := fun i G H hi gr hs _ => by
    rw [zipL_length] at hi
    obtain ⟨vs, q, r⟩ := sqL_of gr (show sqAt G a = some ds from hs (a, ds) (by simp))
    obtain ⟨ws, q2, r2⟩ := sqL_of gr (show sqAt G b = some es from hs (b, es) (by simp))
    have hl := r.length
    have hl2 := r2.length
    exact ⟨vs, ws, vs[i], ws[i], q, q2, by simp [show i < vs.length by omega], by simp [show i < ws.length by omega]⟩
  stop := fun G H gr hs _ => by
    rw [zipL_length]
    obtain ⟨vs, q, r⟩ := sqL_of gr (show sqAt G a = some ds from hs (a, ds) (by simp))
    obtain ⟨ws, q2, r2⟩ := sqL_of gr (show sqAt G b = some es from hs (b, es) (by simp))
    have hl := r.length
    have hl2 := r2.length
    exact ⟨vs, ws, q, q2, by omega⟩
  yld := fun i d G H x H' hd gr hs _ y => by
    obtain ⟨vs, q, r⟩ := sqL_of gr (show sqAt G a = some ds from hs (a, ds) (by simp))
    obtain ⟨ws, q2, r2⟩ := sqL_of gr (show sqAt G b = some es from hs (b, es) (by simp))
    obtain ⟨x1, y1, h1, h2, h3⟩ := zipL_get hd
    obtain ⟨v, e1, rv⟩ := r.get h1
    obtain ⟨u, e2, ru⟩ := r2.get h2
    obtain ⟨T, z, z', ex, hT, eH, hz, hz'⟩ := y
    have e3 := hz vs q
    rw [e1] at e3; cases e3
    have e4 := hz' ws q2
    rw [e2] at e4; cases e4
    exact .inr ⟨T, _, _, hT, eH, ex, h3, v, [u], rfl, rv, u, [], rfl, ru, rfl⟩
theorem wk_zipT {a b : Addr} {ds es : List D} {vs ws : List V} (q : SqT K Hs a vs) (r : Rps K Hs ds vs) (q2 : SqT K Hs b ws) (r2 : Rps K Hs es ws) : WkD K (RZ.ItzT K a b) (zipL ds es) [] Hs where
  go := fun i G H hi gr hs k => by
    rw [zipL_length] at hi
    have hl := r.length
    have hl2 := r2.length
    exact ⟨vs, ws, vs[i], ws[i], k.sqT q, k.sqT q2, by simp [show i < vs.length by omega], by simp [show i < ws.length by omega]⟩
  stop := fun G H gr hs k => by
    rw [zipL_length]
    have hl := r.length
    have hl2 := r2.length
    exact ⟨vs, ws, k.sqT q, k.sqT q2, by omega⟩
  yld := fun i d G H x H' hd gr hs k y => by
    obtain ⟨x1, y1, h1, h2, h3⟩ := zipL_get hd
    obtain ⟨v, e1, rv⟩ := r.get h1
    obtain ⟨u, e2, ru⟩ := r2.get h2
    obtain ⟨T, z, z', ex, hT, eH, hz, hz'⟩ := y
    have e3 := hz vs (k.sqT q)
    rw [e1] at e3; cases e3
    have e4 := hz' ws (k.sqT q2)
    rw [e2] at e4; cases e4
    exact .inr ⟨T, _, _, hT, eH, ex, h3, v, [u], rfl, rv.keep k, u, [], rfl, ru.keep k, rfl⟩
theorem get_rev {α : Type} {xs : List α} {i : Nat} {d : α} (h : xs.reverse[i]? = some d) : i < xs.length ∧ xs[xs.length - 1 - i]? = some d := by
  have hi : i < xs.length := by
    by_cases hi : i < xs.length
    · exact hi
    · rw [List.getElem?_eq_none (by rw [List.length_reverse]; omega)] at h; cases h
  rw [List.getElem?_reverse hi] at h
  exact ⟨hi, h⟩
theorem wk_rev {a : Addr} {ds : List D} {n : Nat} (hn : n = ds.length) : WkD K (Itv K a n) ds.reverse [(a, ds)] Hs where
  go := fun i G H hi gr hs _ => by
    rw [List.length_reverse] at hi
    obtain ⟨vs, q, r⟩ := sqL_of gr (show sqAt G a = some ds from hs (a, ds) (by simp))
    have hl := r.length
    exact ⟨by omega, vs, vs[n - 1 - i], q, by simp [show n - 1 - i < vs.length by omega]⟩
  stop := fun G H gr hs _ => by rw [List.length_reverse, hn]; exact Nat.le_refl _
  yld := fun i d G H x H' hd gr hs _ y => by
    obtain ⟨hi, e⟩ := get_rev hd
    obtain ⟨vs, q, r⟩ := sqL_of gr (show sqAt G a = some ds from hs (a, ds) (by simp))
    obtain ⟨v, e1, rv⟩ := r.get e
    have e2 := y.2 vs q
    rw [hn, e1] at e2; cases e2
    exact .inl ⟨y.1, rv⟩
theorem wk_revT {a : Addr} {ds : List D} {vs : List V} {n : Nat} (q : SqT K Hs a vs) (r : Rps K Hs ds vs) (hn : n = ds.length) : WkD K (RT.ItvT K a n) ds.reverse [] Hs where
  go := fun i G H hi gr hs k => by
    rw [List.length_reverse] at hi
    have hl := r.length
    exact ⟨by omega, vs, vs[n - 1 - i], k.sqT q, by simp [show n - 1 - i < vs.length by omega]⟩
  stop := fun G H gr hs _ => by rw [List.length_reverse, hn]; exact Nat.le_refl _
  yld := fun i d G H x H' hd gr hs k y => by
    obtain ⟨hi, e⟩ := get_rev hd
    obtain ⟨v, e1, rv⟩ := r.get e
    have e2 := y.2 vs (k.sqT q)
    rw [hn, e1] at e2; cases e2
    exact .inl ⟨y.1, rv.keep k⟩
theorem wk_revV {a : Addr} {ds : List D} {vs : List V} {n : Nat} (q : SqV K Hs a vs) (r : Rps K Hs ds vs) (hn : n = ds.length) : WkD K (Itv K a n) ds.reverse [] Hs where
  go := fun i G H hi gr hs k => by
    rw [List.length_reverse] at hi
    have hl := r.length
    exact ⟨by omega, vs, vs[n - 1 - i], (k.sqV q).l, by simp [show n - 1 - i < vs.length by omega]⟩
  stop := fun G H gr hs _ => by rw [List.length_reverse, hn]; exact Nat.le_refl _
  yld := fun i d G H x H' hd gr hs k y => by
    obtain ⟨hi, e⟩ := get_rev hd
    obtain ⟨v, e1, rv⟩ := r.get e
    have e2 := y.2 vs (k.sqV q).l
    rw [hn, e1] at e2; cases e2
    exact .inl ⟨y.1, rv.keep k⟩
theorem wk_str {z : Str} : WkD K (Its z) (chars z) [] Hs where
  go := fun i G H hi _ _ _ => by
    unfold chars at hi
    rw [List.length_map, Array.length_toList] at hi
    exact hi
  stop := fun G H _ _ _ => by
    unfold chars
    rw [List.length_map, Array.length_toList]
    exact Nat.le_refl _
  yld := fun i d G H x H' hd _ _ _ y => by
    obtain ⟨e, c, hc, ex⟩ := y
    unfold chars at hd
    rw [List.getElem?_map, Array.getElem?_toList, hc] at hd
    cases hd
    exact .inl ⟨e, ex⟩
end
end DL

set_option Elab.async false
set_option linter.all false
set_option maxRecDepth 100000
set_option maxHeartbeats 4000000
/-! DL7: what the layer's rules say of the small language's expressions, one lemma for each form. -/
namespace DL
open PySem PySem.Spec PyProof.Rows L2
theorem PEi {X : Cx} {e : Expr} {t t' : TE} (h : PE X e t) (f : ∀ σ H Q, t' σ H Q → t σ H Q) : PE X e t' := ⟨fun pins s σ H Q I k => h.run pins s σ H Q I (f _ _ _ k)⟩
theorem PTi {X : Cx} {e : Expr} {t t' : TT} (h : PT X e t) (f : ∀ σ H Q, t' σ H Q → t σ H Q) : PT X e t' := ⟨fun pins s σ H Q I k => h.run pins s σ H Q I (f _ _ _ k)⟩
theorem PAi {X : Cx} {e : List Expr} {t t' : TA} (h : PA X e t) (f : ∀ σ H Q, t' σ H Q → t σ H Q) : PA X e t' := ⟨fun pos pins s σ H Q I k => h.run pos pins s σ H Q I (f _ _ _ k)⟩
theorem PGi {X : Cx} {e : Expr} {t t' : TG} (h : PG X e t) (f : ∀ v σ H Q, t' v σ H Q → t v σ H Q) : PG X e t' := ⟨fun pins s σ H v u Q I r k => h.run pins s σ H v u Q I r (f _ _ _ _ k)⟩
theorem PII {X : Cx} {g e : Expr} {t t' : TI} (h : PI X g e t) (f : ∀ σ H Q, t' σ H Q → t σ H Q) : PI X g e t' := ⟨fun pins s σ H Q I k => h.run pins s σ H Q I (f _ _ _ k)⟩
/-- by cases of what holds -/
theorem PEc {X : Cx} {e : Expr} {t : TE} {α : Type} {p : α → Prop} {t' : TE} (hx : ∀ σ H Q, t' σ H Q → ∃ a, p a ∧ t σ H Q) (h : ∀ a, p a → PE X e t) : PE X e t' := ⟨fun pins s σ H Q I k => by
  obtain ⟨a, pa, z⟩ := hx _ _ _ k
  exact (h a pa).run pins s σ H Q I z⟩
section
variable {K : PySem.W.Frag} {R R' : Addr → Prop} {H0 H0' H H' H1 H2 : Hp} {σ σ' : Sg} {G G' : DH} {σv σv' : L2.St}
theorem Keep.mono (k : Keep R' H H') (h : ∀ a, R a → R' a) : Keep R H H' := ⟨k.tup, k.frz, fun a r => k.res a (h a r)⟩
/-- behind a piece that has its own slots -/
theorem SR.after (s : SR K R H0 σ G σv H) (g : GR K R' G' H') (k : Keep R' H H') (hR : ∀ a, R a → R' a) : SR K R H0 σ G' σv H' := by
  refine ⟨s.len, fun i d e => ?_, g.1, fun a r => ⟨?_, g.2 a (hR a r)⟩, s.kp.trans (k.mono hR)⟩
  · obtain ⟨v, e1, q⟩ := s.sl i d e
    exact ⟨v, e1, q.keep k⟩
  · rw [k.res a (hR a r)]; exact (s.rs a r).1
theorem SR.gR (s : SR K R H0 σ G σv H) : GR K R G H := ⟨s.gr, fun a r => (s.rs a r).2⟩
/-- more is reserved -/
theorem SR.resv (s : SR K R H0 σ G σv H) (h : ∀ a, R' a → H a ≠ none ∧ G a = none) : SR K R' H σ G σv H := ⟨s.len, s.sl, s.gr, h, .refl⟩
/-- an object that is not told is written -/
theorem SR.hidw (s : SR K R H0 σ G σv H) {p : Addr} {o o' : HO} (hp : H p = some o') (hg : G p = none) (hr : ¬ R p) (hm : ∀ xs, o' ≠ .tup xs) (hf : ∀ b u, o' ≠ .frz b u) : SR K R H0 σ G σv (upd H p o) ∧ Keep R H (upd H p o) := by
  have k : Keep R H (upd H p o) := ⟨fun a xs e => by rw [upd_ne fun z => by rw [z, hp] at e; exact hm xs (Option.some.inj e)]; exact e,
    fun a b u e => by rw [upd_ne fun z => by rw [z, hp] at e; exact hf b u (Option.some.inj e)]; exact e, fun a r => upd_ne fun (z : a = p) => hr (by rw [← z]; exact r)⟩
  refine ⟨⟨s.len, fun i d e => ?_, fun a u e => ?_, fun a r => ⟨?_, (s.rs a r).2⟩, s.kp.trans k⟩, k⟩
  · obtain ⟨v, e1, q⟩ := s.sl i d e
    exact ⟨v, e1, q.keep k⟩
  · have z := s.gr a u e
    have hne : a ≠ p := fun q => by rw [q, hg] at e; cases e
    cases u with
    | lst ds => obtain ⟨vs, e1, q⟩ := z; exact ⟨vs, by rw [upd_ne hne]; exact e1, q.keep k⟩
    | dct kvs => obtain ⟨ws, e1, q⟩ := z; exact ⟨ws, by rw [upd_ne hne]; exact e1, q.keep k⟩
  · rw [k.res a r]; exact (s.rs a r).1
/-- an object that was not told is told -/
theorem SR.shown (s : SR K R H0 σ G σv H) {p : Addr} {u : DO} (hu : RO K H p u) (hr : ¬ R p) : SR K R H0 σ (put G p u) σv H := by
  refine ⟨s.len, s.sl, fun a w e => ?_, fun a r => ⟨(s.rs a r).1, ?_⟩, s.kp⟩
  · by_cases h : a = p
    · subst h
      rw [put_same] at e; cases e
      exact hu
    · rw [put_ne h] at e
      exact s.gr a w e
  · rw [put_ne fun (z : a = p) => hr (by rw [← z]; exact r)]
    exact (s.rs a r).2
theorem SR.wiped (s : SR K R H0 σ G σv H) : ∀ own : List (Str × Nat), SR K R H0 (wipeD σ own) G (wipe σv (own.map (·.2))) H
  | [] => s
  | (_, i) :: r => (SR.wiped s r).unslot i none
/-- the caller's own things behind a call -/
theorem SR.rsOf (s : SR K R H0 σ G σv H) : ∀ a, R a → Rs H G a := fun a r => s.rs a r
end
section
variable {Γ : GE} {k : Nat} {c : CT} {R : Addr → Prop} {H0 : Hp} {W : WD} {X : Cx}
theorem SX.gl (S : SX Γ k c R H0 W X) {x : Str} (h : glB c.sc x = true) : Gl X x := by
  unfold glB at h
  show X.env.scope.names.lookup x = _
  rw [S.sc]
  cases e : c.sc.names.lookup x with
  | none => rw [e] at h; cases h
  | some k =>
    rw [e] at h
    cases k <;> first | rfl | cases h
theorem SX.vis (S : SX Γ k c R H0 W X) {x : Str} (h : visB c.sc x = true) : Vis X.env.scope x := by
  unfold visB at h
  unfold Vis
  rw [S.sc]
  cases e : c.sc.names.lookup x with
  | none => rw [e] at h; cases h
  | some k =>
    rw [e] at h
    cases k <;> first | exact .inl rfl | exact .inr (.inl rfl) | exact .inr (.inr rfl) | cases h
theorem SX.loc (S : SX Γ k c R H0 W X) {x : Str} (h : locB c x = true) : L2.Loc X.env.scope x ∧ (X.fn x = true ∨ X.env.scope.names.lookup x = some .local) := by
  unfold locB at h
  unfold L2.Loc
  rw [S.sc]
  cases e : c.sc.names.lookup x with
  | none => rw [e] at h; cases h
  | some k =>
    rw [e] at h
    cases k with
    | «local» => exact ⟨.inl rfl, .inr rfl⟩
    | cell =>
      refine ⟨.inr rfl, .inl (S.fn x ?_)⟩
      cases e2 : c.raw.names.lookup x with
      | none => rw [e2] at h; cases h
      | some k2 =>
        rw [e2] at h
        cases k2 <;> first | rfl | cases h
    | _ => cases h
theorem SX.at (S : SX Γ k c R H0 W X) {x : Str} {i : Nat} (h : atN c i x = true) : X.N[i]? = some x := by
  unfold atN at h
  rw [S.N]
  cases e : c.N[i]? with
  | none => rw [e] at h; cases h
  | some y => rw [e] at h; rw [of_decide_eq_true h]
theorem ok_d {x : Str} (h : okName x = true) : (x == ("__debug__" : Str)) = false ∧ (x == ("__classdict__" : Str)) = false ∧ x ≠ "__name__" := by
  unfold okName at h
  simp only [Bool.and_eq_true, Bool.not_eq_true'] at h
  exact ⟨h.1.1, h.1.2, fun z => by rw [z] at h; exact absurd h.2 (by decide)⟩
theorem SX.var (S : SX Γ k c R H0 W X) {x : Str} {i : Nat} {pos : Pos} (h1 : atN c i x = true) (h2 : visB c.sc x = true) (h3 : okName x = true) : PE X (.Name x pos) (lE X.K R H0 W fun _ σ G Q => ∃ d, gt σ i = some d ∧ Q d G) :=
  PEi (pe_var (S.at h1) (S.vis h2) (ok_d h3).1 (ok_d h3).2.1) fun σv H Qv ⟨σ, G, Q, sr, ⟨d, e, q⟩, out⟩ => by
    obtain ⟨v, e1, r⟩ := sr.sl i d (gt_some.mp e)
    exact ⟨v, e1, out.now q r sr⟩
theorem SX.suB (S : SX Γ k c R H0 W X) (h : (!c.su) = true) : c.su = false := by simpa using h
end
section
variable {X : Cx} {R : Addr → Prop} {H0 : Hp} {W : WD} {σv : L2.St} {H : Hp} {Qv : VK}
/-- two expressions in a row, then an operation -/
theorem lE2 {ta tb : DE} {k : D → D → DH → QD → Prop} (h : lE X.K R H0 W (fun W σ G Q => ta W σ G fun x G1 => tb W σ G1 fun y G2 => k x y G2 Q) σv H Qv) : tOp (RB X.K k) (lE X.K R H0 W ta) (lE X.K R H0 W tb) σv H Qv := by
  obtain ⟨σ, G, Q, sr, t, out⟩ := h
  exact ⟨σ, G, _, sr, t, fun x G1 v H1 q r s1 k1 => ⟨σ, G1, _, s1, q, fun y G2 w H2 q2 r2 s2 k2 => ⟨R, H0, σ, σv, x, y, G2, Q, r.keep k2, r2, s2, q2, out.back (k1.trans k2)⟩⟩⟩
theorem lE1 {ta : DE} {k : D → DH → QD → Prop} (h : lE X.K R H0 W (fun W σ G Q => ta W σ G fun x G1 => k x G1 Q) σv H Qv) : tUn (RU X.K k) (lE X.K R H0 W ta) σv H Qv := by
  obtain ⟨σ, G, Q, sr, t, out⟩ := h
  exact ⟨σ, G, _, sr, t, fun x G1 v H1 q r s1 k1 => ⟨R, H0, σ, σv, x, G1, Q, r, s1, q, out.back k1⟩⟩
theorem lA1 {ta : DA} {k : List D → DH → QD → Prop} (h : lE X.K R H0 W (fun W σ G Q => ta W σ G fun x G1 => k x G1 Q) σv H Qv) : tCB (RC X.K k) (lA X.K R H0 W ta) σv H Qv := by
  obtain ⟨σ, G, Q, sr, t, out⟩ := h
  exact ⟨σ, G, _, sr, t, fun xs G1 vs H1 q r s1 k1 => ⟨R, H0, σ, σv, xs, G1, Q, r, s1, q, out.back k1⟩⟩
end
/-! ### what is to be shown -/
section
variable (Γ : GE) (k : Nat)
def OkE (m : ME) : Prop := ∀ {c : CT} {R : Addr → Prop} {H0 : Hp} {W : WD} {X : Cx}, SX Γ k c R H0 W X → ∀ {e : Expr}, chE c m e = true → PE X e (lE X.K R H0 W (wpE Γ m))
def OkT (m : ME) : Prop := ∀ {c : CT} {R : Addr → Prop} {H0 : Hp} {W : WD} {X : Cx}, SX Γ k c R H0 W X → ∀ {e : Expr}, chE c m e = true → PT X e (lT X.K R H0 W (wpT Γ m))
def OkA (ms : MEs) : Prop := ∀ {c : CT} {R : Addr → Prop} {H0 : Hp} {W : WD} {X : Cx}, SX Γ k c R H0 W X → ∀ {es : List Expr}, chEs c ms es = true → PA X es (lA X.K R H0 W (wpEs Γ ms))
def OkK (ms : MEs) : Prop := ∀ {c : CT} {R : Addr → Prop} {H0 : Hp} {W : WD} {X : Cx}, SX Γ k c R H0 W X → ∀ {ks : List Str} {kws : List Keyword}, chK c ks ms kws = true → PK X kws (lA X.K R H0 W (wpEs Γ ms))
def OkO (m : MO) : Prop := ∀ {c : CT} {R : Addr → Prop} {H0 : Hp} {W : WD} {X : Cx}, SX Γ k c R H0 W X → ∀ {e : Option Expr}, chO c m e = true → PO X e (lO X.K R H0 W (wpO Γ m))
def OkC (m : MO) : Prop := ∀ {c : CT} {R : Addr → Prop} {H0 : Hp} {W : WD} {X : Cx}, SX Γ k c R H0 W X → ∀ {es : List Expr}, chC c m es = true → PTs X es (lT X.K R H0 W (wpC Γ m))
def OkG (m : MG) : Prop := ∀ {c : CT} {R : Addr → Prop} {H0 : Hp} {W : WD} {X : Cx}, SX Γ k c R H0 W X → ∀ {o : Option (List (Str × Nat))}, (∀ own, o = some own → ownB own m = true) → ∀ {e : Expr}, chG c m e = true → PG X e (lG X.K R H0 W o (wpG Γ m))
def OkGs (m : MGs) : Prop := ∀ {c : CT} {R : Addr → Prop} {H0 : Hp} {W : WD} {X : Cx}, SX Γ k c R H0 W X → ∀ {o : Option (List (Str × Nat))}, (∀ own, o = some own → ownBs own m = true) → ∀ {es : List Expr}, es.all noStar = true → chGs c m es = true → PGs X es (lGs X.K R H0 W o (wpGs Γ m))
def OkI (m : MI) : Prop := ∀ {c : CT} {R : Addr → Prop} {H0 : Hp} {W : WD} {X : Cx}, SX Γ k c R H0 W X → ∀ {tg e : Expr}, chI c m e tg = true → PI X tg e (lI X.K R H0 W (wpI Γ m))
end
end DL

set_option Elab.async false
set_option linter.all false
set_option maxRecDepth 100000
set_option maxHeartbeats 4000000
/-! DL8: the forms of expressions, one by one. -/
namespace DL
open PySem PySem.Spec PyProof.Rows L2
section
variable {Γ : GE} {k : Nat}
theorem and3 {a b : Bool} (h : (a && b) = true) : a = true ∧ b = true := by simpa using h
/-! ### plain -/
theorem e_var (i : Nat) : OkE Γ k (.var i) := by
  intro c R H0 W X S e h
  cases e <;> first | exact absurd h Bool.false_ne_true | skip
  rename_i x pos
  obtain ⟨h, h3⟩ := and3 h
  obtain ⟨h1, h2⟩ := and3 h
  exact S.var h1 h2 h3
theorem e_non : OkE Γ k .non := by
  intro c R H0 W X S e h
  cases e <;> first | exact absurd h Bool.false_ne_true | skip
  rename_i a j pos
  cases a <;> first | exact absurd h Bool.false_ne_true | skip
  exact PEi pe_non fun σv H Qv ⟨σ, G, Q, sr, q, out⟩ => out.now q rfl sr
theorem e_bl (b : Bool) : OkE Γ k (.bl b) := by
  intro c R H0 W X S e h
  cases e <;> first | exact absurd h Bool.false_ne_true | skip
  rename_i a j pos
  cases a <;> first | exact absurd h Bool.false_ne_true | skip
  rename_i b'
  have e1 : b = b' := by simpa [chE] using h
  subst e1
  exact PEi pe_bl fun σv H Qv ⟨σ, G, Q, sr, q, out⟩ => out.now q rfl sr
theorem e_int (b : Int) : OkE Γ k (.int b) := by
  intro c R H0 W X S e h
  cases e <;> first | exact absurd h Bool.false_ne_true | skip
  rename_i a j pos
  cases a <;> first | exact absurd h Bool.false_ne_true | skip
  rename_i b'
  have e1 : b = b' := of_decide_eq_true h
  subst e1
  exact PEi pe_int fun σv H Qv ⟨σ, G, Q, sr, q, out⟩ => out.now q rfl sr
theorem e_str (b : Str) : OkE Γ k (.str b) := by
  intro c R H0 W X S e h
  cases e <;> first | exact absurd h Bool.false_ne_true | skip
  rename_i a j pos
  cases a <;> first | exact absurd h Bool.false_ne_true | skip
  rename_i b'
  have e1 : b = b' := of_decide_eq_true h
  subst e1
  exact PEi pe_str fun σv H Qv ⟨σ, G, Q, sr, q, out⟩ => out.now q rfl sr
theorem e_glob (x : Str) : OkE Γ k (.glob x) := by
  intro c R H0 W X S e h
  cases e <;> first | exact absurd h Bool.false_ne_true | skip
  rename_i y pos
  obtain ⟨h, h3⟩ := and3 h
  obtain ⟨h1, h2⟩ := and3 h
  have e1 := of_decide_eq_true h1
  subst e1
  refine ⟨fun pins s σv H Qv I ⟨σ, G, Q, sr, ⟨d, hd, q⟩, out⟩ => ?_⟩
  obtain ⟨u, v, hm, r, rd⟩ := S.ok.con x d hd
  exact (pe_glob (S.gl h2) hm r (ok_d h3).1).run pins s σv H Qv I (out.now q (rd H) sr)
/-! ### operators -/
theorem e_bin (op : Operator) {a b : ME} (ha : OkE Γ k a) (hb : OkE Γ k b) : OkE Γ k (.bin op a b) := by
  intro c R H0 W X S e h
  cases e <;> first | exact absurd h Bool.false_ne_true | skip
  rename_i x op' y pos
  obtain ⟨h1, h2⟩ := and3 h
  obtain ⟨h2, h3⟩ := and3 h2
  have e1 := of_decide_eq_true h1
  subst e1
  exact PEi (pe_op (op_binD S.ph.room op) (ha S h2) (hb S h3)) fun _ _ _ z => lE2 z
theorem e_neg {a : ME} (ha : OkE Γ k a) : OkE Γ k (.neg a) := by
  intro c R H0 W X S e h
  cases e <;> first | exact absurd h Bool.false_ne_true | skip
  rename_i op x pos
  cases op <;> first | exact absurd h Bool.false_ne_true | skip
  exact PEi (pe_un un_negD (ha S h)) fun _ _ _ z => lE1 z
theorem e_cmp (op : CmpOp) {a b : ME} (ha : OkE Γ k a) (hb : OkE Γ k b) : OkE Γ k (.cmp op a b) ∧ OkT Γ k (.cmp op a b) := by
  have key : ∀ {c : CT} {e : Expr}, chE c (.cmp op a b) e = true → ∃ x y pos, e = .Compare x [op] [y] pos ∧ noSet y = true ∧ chE c a x = true ∧ chE c b y = true := by
    intro c e h
    cases e <;> first | exact absurd h Bool.false_ne_true | skip
    rename_i x ops ys pos
    cases ops with
    | nil => exact absurd h Bool.false_ne_true
    | cons op' ops =>
      cases ops with
      | cons _ _ => exact absurd h Bool.false_ne_true
      | nil =>
        cases ys with
        | nil => exact absurd h Bool.false_ne_true
        | cons y ys =>
          cases ys with
          | cons _ _ => exact absurd h Bool.false_ne_true
          | nil =>
            obtain ⟨hh, h2⟩ := and3 h
            obtain ⟨h0, h1⟩ := and3 hh
            obtain ⟨h2, h3⟩ := and3 h2
            have e1 := of_decide_eq_true h0
            subst e1
            exact ⟨x, y, pos, rfl, h1, h2, h3⟩
  constructor
  · intro c R H0 W X S e h
    obtain ⟨x, y, pos, rfl, h1, h2, h3⟩ := key h
    exact PEi (pe_cmpR (op_cmpD S.un op) (ha S h2) (hb S h3) (mark_plain h1)) fun _ _ _ z => lE2 z
  · intro c R H0 W X S e h
    obtain ⟨x, y, pos, rfl, h1, h2, h3⟩ := key h
    refine PTi (pt_cmpR (op_cmpD S.un op) (ha S h2) (hb S h3) (mark_plain h1)) fun σv H Qv z => ?_
    obtain ⟨σ, G, Q, sr, t, out⟩ := z
    refine ⟨σ, G, _, sr, t, fun x G1 v H1 q r s1 k1 => ⟨σ, G1, _, s1, q, fun y G2 w H2 q2 r2 s2 k2 => ⟨R, H0, σ, σv, x, y, G2, _, r.keep k2, r2, s2, q2, fun d G3 u H3 q3 r3 s3 k3 => ?_⟩⟩⟩
    obtain ⟨b, e1, q3⟩ := q3
    subst e1
    exact ⟨b, r3, out b G3 H3 q3 s3 ((k1.trans k2).trans k3)⟩
theorem e_chain (op op' : CmpOp) {a b d : ME} (ha : OkE Γ k a) (hb : OkE Γ k b) (hd : OkE Γ k d) : OkE Γ k (.chain op op' a b d) ∧ OkT Γ k (.chain op op' a b d) := by
  have key : ∀ {c : CT} {e : Expr}, chE c (.chain op op' a b d) e = true → ∃ x y z pos, e = .Compare x [op, op'] [y, z] pos ∧ noSet z = true ∧ chE c a x = true ∧ chE c b y = true ∧ chE c d z = true := by
    intro c e h
    cases e <;> first | exact absurd h Bool.false_ne_true | skip
    rename_i x ops ys pos
    rcases ops with _ | ⟨o1, _ | ⟨o2, _ | ⟨o3, ops⟩⟩⟩ <;> first | exact absurd h Bool.false_ne_true | skip
    rcases ys with _ | ⟨y, _ | ⟨z, _ | ⟨z3, ys⟩⟩⟩ <;> first | exact absurd h Bool.false_ne_true | skip
    obtain ⟨hh, h2⟩ := and3 h
    obtain ⟨h0, h1⟩ := and3 hh
    obtain ⟨h00, h01⟩ := and3 h0
    obtain ⟨h2, h3⟩ := and3 h2
    obtain ⟨h2, h4⟩ := and3 h2
    have e1 := of_decide_eq_true h00
    have e2 := of_decide_eq_true h01
    subst e1 e2
    exact ⟨x, y, z, pos, rfl, h1, h2, h4, h3⟩
  constructor
  · intro c R H0 W X S e h
    obtain ⟨x, y, z, pos, rfl, h1, h2, h3, h4⟩ := key h
    refine PEi (pe_chain (op_cmpD S.un op) (op_cmpD S.un op') (ha S h2) (hb S h3) (hd S h4) (marks_plain h1)) fun σv H Qv z => ?_
    obtain ⟨σ, G, Q, sr, t, out⟩ := z
    refine ⟨σ, G, _, sr, t, fun x G1 v H1 q r s1 k1 => ⟨σ, G1, _, s1, q, fun y G2 w H2 q2 r2 s2 k2 => ⟨R, H0, σ, σv, x, y, G2, _, r.keep k2, r2, s2, q2, fun d3 G3 u H3 q3 r3 s3 k3 => ?_⟩⟩⟩
    obtain ⟨b, e1, q3⟩ := q3
    subst e1
    refine ⟨b, r3, ?_⟩
    cases b with
    | true => exact ⟨σ, G3, _, s3, q3, fun z G4 w4 H4 q4 r4 s4 k4 => ⟨R, H0, σ, σv, y, z, G4, Q, (r2.keep k3).keep k4, r4, s4, q4, out.back (((k1.trans k2).trans k3).trans k4)⟩⟩
    | false => exact (out.back ((k1.trans k2).trans k3)).now q3 rfl s3
  · intro c R H0 W X S e h
    obtain ⟨x, y, z, pos, rfl, h1, h2, h3, h4⟩ := key h
    refine PTi (pt_chain (op_cmpD S.un op) (op_cmpD S.un op') (ha S h2) (hb S h3) (hd S h4) (marks_plain h1)) fun σv H Qv z => ?_
    obtain ⟨σ, G, Q, sr, t, out⟩ := z
    refine ⟨σ, G, _, sr, t, fun x G1 v H1 q r s1 k1 => ⟨σ, G1, _, s1, q, fun y G2 w H2 q2 r2 s2 k2 => ⟨R, H0, σ, σv, x, y, G2, _, r.keep k2, r2, s2, q2, fun d3 G3 u H3 q3 r3 s3 k3 => ?_⟩⟩⟩
    obtain ⟨b, e1, q3⟩ := q3
    subst e1
    refine ⟨b, r3, ?_⟩
    cases b with
    | true =>
      refine ⟨σ, G3, _, s3, q3, fun z G4 w4 H4 q4 r4 s4 k4 => ⟨R, H0, σ, σv, y, z, G4, _, (r2.keep k3).keep k4, r4, s4, q4, fun d5 G5 u5 H5 q5 r5 s5 k5 => ?_⟩⟩
      obtain ⟨b', e5, q5⟩ := q5
      subst e5
      exact ⟨b', r5, out b' G5 H5 q5 s5 ((((k1.trans k2).trans k3).trans k4).trans k5)⟩
    | false => exact ⟨false, rfl, out false G3 H3 q3 s3 ((k1.trans k2).trans k3)⟩
theorem e_not {a : ME} (ha : OkT Γ k a) : OkT Γ k (.not a) := by
  intro c R H0 W X S e h
  cases e <;> first | exact absurd h Bool.false_ne_true | skip
  rename_i op x pos
  cases op <;> first | exact absurd h Bool.false_ne_true | skip
  exact PTi (pt_not (ha S h)) fun σv H Qv ⟨σ, G, Q, sr, t, out⟩ => ⟨σ, G, _, sr, t, fun b G1 H1 q s1 k1 => out _ G1 H1 q s1 k1⟩
theorem e_ifT {t a b : ME} (ht : OkT Γ k t) (ha : OkT Γ k a) (hb : OkT Γ k b) : OkT Γ k (.ifx t a b) := by
  intro c R H0 W X S e h
  cases e <;> first | exact absurd h Bool.false_ne_true | skip
  rename_i u x y pos
  obtain ⟨h1, h3⟩ := and3 h
  obtain ⟨h1, h2⟩ := and3 h1
  refine ⟨fun pins s σv H Qv I ⟨σ, G, Q, sr, t', out⟩ => isTrue_IfExp (thn ((ht S h1).run pins s σv H _ I ⟨σ, G, _, sr, t', fun b G1 H1 q s1 k1 => (⟨G1, q, s1, k1⟩ : ∃ G1, (if b = true then wpT Γ a W σ G1 Q else wpT Γ _ W σ G1 Q) ∧ SR X.K R H0 σ G1 σv H1 ∧ Keep R H H1)⟩) fun d s1 ⟨H1, I1, G1, q, sr1, k1⟩ => ?_)⟩
  cases d with
  | true => exact (ha S h2).run pins s1 σv H1 Qv I1 ⟨σ, G1, Q, sr1, q, fun b G2 H2 q2 s2 k2 => out b G2 H2 q2 s2 (k1.trans k2)⟩
  | false => exact (hb S h3).run pins s1 σv H1 Qv I1 ⟨σ, G1, Q, sr1, q, fun b G2 H2 q2 s2 k2 => out b G2 H2 q2 s2 (k1.trans k2)⟩
theorem e_ifE {t a b : ME} (ht : OkT Γ k t) (ha : OkE Γ k a) (hb : OkE Γ k b) : OkE Γ k (.ifx t a b) := by
  intro c R H0 W X S e h
  cases e <;> first | exact absurd h Bool.false_ne_true | skip
  rename_i u x y pos
  obtain ⟨h1, h3⟩ := and3 h
  obtain ⟨h1, h2⟩ := and3 h1
  refine PEi (pe_ifExp (ht S h1) (ha S h2) (hb S h3)) fun σv H Qv ⟨σ, G, Q, sr, t', out⟩ => ⟨σ, G, _, sr, t', fun b G1 H1 q s1 k1 => ?_⟩
  cases b with
  | true => exact ⟨σ, G1, Q, s1, q, out.back k1⟩
  | false => exact ⟨σ, G1, Q, s1, q, out.back k1⟩
theorem e_bl_T (b : Bool) : OkT Γ k (.bl b) := by
  intro c R H0 W X S e h
  cases e <;> first | exact absurd h Bool.false_ne_true | skip
  rename_i a j pos
  cases a <;> first | exact absurd h Bool.false_ne_true | skip
  rename_i b'
  have e1 : b = b' := by simpa [chE] using h
  subst e1
  exact PTi (pt_val pe_bl) fun σv H Qv ⟨σ, G, Q, sr, q, out⟩ => ⟨b, rfl, out b G H q sr .refl⟩
/-- a test by the value's truth -/
theorem lTr {X : Cx} {R : Addr → Prop} {H0 : Hp} {W : WD} {e : Expr} {te : DE} {tt : DT} (he : PE X e (lE X.K R H0 W te)) (hp : plainT e = true) (h : ∀ σ G Q, tt W σ G Q → te W σ G fun x G1 => truD x G1 Q) : PT X e (lT X.K R H0 W tt) :=
  PTi (pt_truth he (true_plain hp)) fun σv H Qv ⟨σ, G, Q, sr, t, out⟩ => ⟨σ, G, _, sr, h _ _ _ t, fun d G1 v H1 q r s1 k1 => by
    obtain ⟨b, tv, q1⟩ := tru_D s1 r q
    exact ⟨b, tv, out b G1 H1 q1 s1 k1⟩⟩
theorem t_var (i : Nat) : OkT Γ k (.var i) := by
  intro c R H0 W X S e h
  have := e_var i S h
  cases e <;> first | exact absurd h Bool.false_ne_true | skip
  exact lTr this rfl fun _ _ _ z => z
/-! ### and, or -/
theorem a_nilE : OkA Γ k .nil := by
  intro c R H0 W X S es h
  cases es with
  | cons _ _ => exact absurd h Bool.false_ne_true
  | nil => exact PAi pa_nil fun σv H Qv ⟨σ, G, Q, sr, q, out⟩ => out [] G [] H q rfl sr .refl
theorem ch_cons {c : CT} {m : ME} {ms : MEs} {es : List Expr} (h : chEs c (.cons m ms) es = true) : ∃ e r, es = e :: r ∧ noStar e = true ∧ chE c m e = true ∧ chEs c ms r = true := by
  cases es with
  | nil => exact absurd h Bool.false_ne_true
  | cons e r =>
    obtain ⟨h1, h3⟩ := and3 h
    obtain ⟨h1, h2⟩ := and3 h1
    exact ⟨e, r, rfl, h1, h2, h3⟩
theorem ch_star {c : CT} : ∀ {ms : MEs} {es : List Expr}, chEs c ms es = true → es.all noStar = true
  | .nil, [], _ => rfl
  | .nil, _ :: _, h => absurd h Bool.false_ne_true
  | .cons m ms, es, h => by
    obtain ⟨e, r, rfl, h1, h2, h3⟩ := ch_cons h
    rw [List.all_cons, h1, ch_star h3]; rfl
theorem a_cons {m : ME} {ms : MEs} (hm : OkE Γ k m) (hms : OkA Γ k ms) : OkA Γ k (.cons m ms) := by
  intro c R H0 W X S es h
  obtain ⟨e, r, rfl, h1, h2, h3⟩ := ch_cons h
  refine PAi (pa_cons (hm S h2) (hms S h3) (star1 h1)) fun σv H Qv ⟨σ, G, Q, sr, t, out⟩ => ?_
  exact ⟨σ, G, _, sr, t, fun x G1 v H1 q r s1 k1 => ⟨σ, G1, _, s1, q, fun ds G2 vs H2 q2 r2 s2 k2 => out (x :: ds) G2 (v :: vs) H2 q2 ⟨v, vs, rfl, r.keep k2, r2⟩ s2 (k1.trans k2)⟩⟩
theorem k_nil : OkK Γ k .nil := by
  intro c R H0 W X S ks kws h
  cases ks with
  | cons _ _ => exact absurd h (by simp [chK])
  | nil =>
    cases kws with
    | cons _ _ => exact absurd h (by simp [chK])
    | nil => exact ⟨fun pos pins s σv H Qv I ⟨σ, G, Q, sr, q, out⟩ => pk_nil.run pos pins s σv H Qv I (out [] G [] H q rfl sr .refl)⟩
theorem ck_cons {c : CT} {m : ME} {ms : MEs} {ks : List Str} {kws : List Keyword} (h : chK c ks (.cons m ms) kws = true) : ∃ x e p kr r, ks = x :: kr ∧ kws = ⟨some x, e, p⟩ :: r ∧ chE c m e = true ∧ chK c kr ms r = true := by
  cases ks with
  | nil => exact absurd h (by simp [chK])
  | cons x kr =>
    cases kws with
    | nil => exact absurd h (by simp [chK])
    | cons kw r =>
      obtain ⟨o, e, p⟩ := kw
      cases o with
      | none => exact absurd h (by simp [chK])
      | some y =>
        obtain ⟨h1, h3⟩ := and3 h
        obtain ⟨h1, h2⟩ := and3 h1
        have e1 := of_decide_eq_true h1
        subst e1
        exact ⟨x, e, p, kr, r, rfl, rfl, h2, h3⟩
theorem k_cons {m : ME} {ms : MEs} (hm : OkE Γ k m) (hms : OkK Γ k ms) : OkK Γ k (.cons m ms) := by
  intro c R H0 W X S ks kws h
  obtain ⟨x, e, p, kr, r, rfl, rfl, h2, h3⟩ := ck_cons h
  refine ⟨fun pos pins s σv H Qv I ⟨σ, G, Q, sr, t, out⟩ => (pk_cons (hm S h2) (hms S h3)).run pos pins s σv H Qv I ?_⟩
  exact ⟨σ, G, _, sr, t, fun x G1 v H1 q r s1 k1 => ⟨σ, G1, _, s1, q, fun ds G2 vs H2 q2 r2 s2 k2 => out (x :: ds) G2 (v :: vs) H2 q2 ⟨v, vs, rfl, r.keep k2, r2⟩ s2 (k1.trans k2)⟩⟩
/-- an and, an or, by values: the chain -/
def OkB (op : BoolOp) (wp : MEs → DE) (ms : MEs) : Prop := ∀ {c : CT} {R : Addr → Prop} {H0 : Hp} {W : WD} {X : Cx}, SX Γ k c R H0 W X → ∀ {es : List Expr} {pos : Pos}, chEs c ms es = true → PE X (.BoolOp op es pos) (lE X.K R H0 W (wp ms))
def OkBT (op : BoolOp) (wp : MEs → DT) (ms : MEs) : Prop := ∀ {c : CT} {R : Addr → Prop} {H0 : Hp} {W : WD} {X : Cx}, SX Γ k c R H0 W X → ∀ {es : List Expr} {pos : Pos}, chEs c ms es = true → PW X (.BoolOp op es pos) (lT X.K R H0 W (wp ms))
theorem PE_never {X : Cx} {e : Expr} {t : TE} (h : ∀ σ H Q, ¬ t σ H Q) : PE X e t := ⟨fun _ _ _ _ _ _ z => absurd z (h _ _ _)⟩
theorem PW_never {X : Cx} {e : Expr} {t : TT} (h : ∀ σ H Q, ¬ t σ H Q) : PW X e t := ⟨fun _ _ _ _ _ _ _ z => absurd z (h _ _ _)⟩
theorem PT_never {X : Cx} {e : Expr} {t : TT} (h : ∀ σ H Q, ¬ t σ H Q) : PT X e t := ⟨fun _ _ _ _ _ _ z => absurd z (h _ _ _)⟩
theorem b_and_nil : OkB (Γ := Γ) (k := k) .And (wpAnd Γ) .nil := fun _ _ _ _ => PE_never fun _ _ _ ⟨_, _, _, _, z, _⟩ => z
theorem b_or_nil : OkB (Γ := Γ) (k := k) .Or (wpOr Γ) .nil := fun _ _ _ _ => PE_never fun _ _ _ ⟨_, _, _, _, z, _⟩ => z
theorem t_and_nil : OkBT (Γ := Γ) (k := k) .And (wpTAnd Γ) .nil := fun _ _ _ _ => PW_never fun _ _ _ ⟨_, _, _, _, z, _⟩ => z
theorem t_or_nil : OkBT (Γ := Γ) (k := k) .Or (wpTOr Γ) .nil := fun _ _ _ _ => PW_never fun _ _ _ ⟨_, _, _, _, z, _⟩ => z
theorem b_and_cons {m : ME} {ms : MEs} (hm : OkE Γ k m) (hms : OkB (Γ := Γ) (k := k) .And (wpAnd Γ) ms) : OkB (Γ := Γ) (k := k) .And (wpAnd Γ) (.cons m ms) := by
  intro c R H0 W X S es pos h
  obtain ⟨e, r, rfl, h1, h2, h3⟩ := ch_cons h
  cases ms with
  | nil =>
    cases r with
    | cons _ _ => exact absurd h3 Bool.false_ne_true
    | nil => exact pe_one (hm S h2)
  | cons m' ms' =>
    obtain ⟨e', r', rfl, _⟩ := ch_cons h3
    refine ⟨fun pins s σv H Qv I ⟨σ, G, Q, sr, t, out⟩ => BoolOp_and (thn ((hm S h2).run pins s σv H _ I (⟨σ, G, _, sr, t, fun x G1 v H1 q r s1 k1 => (⟨G1, x, q, r, s1, k1⟩ : ∃ G1 x, (truD x G1 fun b G2 => G2 = G1 ∧ if b = true then wpAnd Γ (.cons m' ms') W σ G1 Q else Q x G1) ∧ Rp X.K H1 x v ∧ SR X.K R H0 σ G1 σv H1 ∧ Keep R H H1)⟩)) fun u s1 ⟨v, H1, I1, r1, G1, x, q, rx, sr1, k1⟩ => ?_)⟩
    obtain ⟨b, tv, q1, q2⟩ := tru_D sr1 rx q
    refine thn (tru_ok pins s1 σv H1 v u (fun b' H' => b' = b ∧ H' = H1) I1 r1 ⟨b, tv, rfl, rfl⟩) fun b' s2 ⟨H2, I2, e1, e2⟩ => ?_
    subst e1 e2
    cases b' with
    | true => exact (hms S h3).run pins s2 σv H2 Qv I2 ⟨σ, G1, Q, sr1, q2, out.back k1⟩
    | false => exact ⟨v, H2, I2, r1, (out.back k1).now q2 rx sr1⟩
theorem b_or_cons {m : ME} {ms : MEs} (hm : OkE Γ k m) (hms : OkB (Γ := Γ) (k := k) .Or (wpOr Γ) ms) : OkB (Γ := Γ) (k := k) .Or (wpOr Γ) (.cons m ms) := by
  intro c R H0 W X S es pos h
  obtain ⟨e, r, rfl, h1, h2, h3⟩ := ch_cons h
  cases ms with
  | nil =>
    cases r with
    | cons _ _ => exact absurd h3 Bool.false_ne_true
    | nil => exact pe_one (hm S h2)
  | cons m' ms' =>
    obtain ⟨e', r', rfl, _⟩ := ch_cons h3
    refine ⟨fun pins s σv H Qv I ⟨σ, G, Q, sr, t, out⟩ => BoolOp_or (thn ((hm S h2).run pins s σv H _ I (⟨σ, G, _, sr, t, fun x G1 v H1 q r s1 k1 => (⟨G1, x, q, r, s1, k1⟩ : ∃ G1 x, (truD x G1 fun b G2 => G2 = G1 ∧ if b = true then Q x G1 else wpOr Γ (.cons m' ms') W σ G1 Q) ∧ Rp X.K H1 x v ∧ SR X.K R H0 σ G1 σv H1 ∧ Keep R H H1)⟩)) fun u s1 ⟨v, H1, I1, r1, G1, x, q, rx, sr1, k1⟩ => ?_)⟩
    obtain ⟨b, tv, q1, q2⟩ := tru_D sr1 rx q
    refine thn (tru_ok pins s1 σv H1 v u (fun b' H' => b' = b ∧ H' = H1) I1 r1 ⟨b, tv, rfl, rfl⟩) fun b' s2 ⟨H2, I2, e1, e2⟩ => ?_
    subst e1 e2
    cases b' with
    | false => exact (hms S h3).run pins s2 σv H2 Qv I2 ⟨σ, G1, Q, sr1, q2, out.back k1⟩
    | true => exact ⟨v, H2, I2, r1, (out.back k1).now q2 rx sr1⟩
theorem PWi {X : Cx} {e : Expr} {t t' : TT} (h : PW X e t) (f : ∀ σ H Q, t' σ H Q → t σ H Q) : PW X e t' := ⟨fun wh pins s σ H Q I k => h.run wh pins s σ H Q I (f _ _ _ k)⟩
theorem t_and_cons {m : ME} {ms : MEs} (hm : OkT Γ k m) (hms : OkBT (Γ := Γ) (k := k) .And (wpTAnd Γ) ms) : OkBT (Γ := Γ) (k := k) .And (wpTAnd Γ) (.cons m ms) := by
  intro c R H0 W X S es pos h
  obtain ⟨e, r, rfl, h1, h2, h3⟩ := ch_cons h
  cases ms with
  | nil =>
    cases r with
    | cons _ _ => exact absurd h3 Bool.false_ne_true
    | nil => exact pw_and1 (hm S h2)
  | cons m' ms' =>
    obtain ⟨e', r', rfl, _⟩ := ch_cons h3
    refine PWi (pw_and (hm S h2) (hms S h3)) fun σv H Qv ⟨σ, G, Q, sr, t, out⟩ => ⟨σ, G, _, sr, t, fun b G1 H1 q s1 k1 => ?_⟩
    cases b with
    | true => exact ⟨σ, G1, Q, s1, q, fun b' G2 H2 q2 s2 k2 => out b' G2 H2 q2 s2 (k1.trans k2)⟩
    | false => exact out false G1 H1 q s1 k1
theorem t_or_cons {m : ME} {ms : MEs} (hm : OkT Γ k m) (hms : OkBT (Γ := Γ) (k := k) .Or (wpTOr Γ) ms) : OkBT (Γ := Γ) (k := k) .Or (wpTOr Γ) (.cons m ms) := by
  intro c R H0 W X S es pos h
  obtain ⟨e, r, rfl, h1, h2, h3⟩ := ch_cons h
  cases ms with
  | nil =>
    cases r with
    | cons _ _ => exact absurd h3 Bool.false_ne_true
    | nil => exact pw_or1 (hm S h2)
  | cons m' ms' =>
    obtain ⟨e', r', rfl, _⟩ := ch_cons h3
    refine PWi (pw_or (hm S h2) (hms S h3)) fun σv H Qv ⟨σ, G, Q, sr, t, out⟩ => ⟨σ, G, _, sr, t, fun b G1 H1 q s1 k1 => ?_⟩
    cases b with
    | true => exact out true G1 H1 q s1 k1
    | false => exact ⟨σ, G1, Q, s1, q, fun b' G2 H2 q2 s2 k2 => out b' G2 H2 q2 s2 (k1.trans k2)⟩
theorem e_and {ms : MEs} (h : OkB (Γ := Γ) (k := k) .And (wpAnd Γ) ms) : OkE Γ k (.and ms) := by
  intro c R H0 W X S e hc
  cases e <;> first | exact absurd hc Bool.false_ne_true | skip
  rename_i op es pos
  cases op <;> first | exact absurd hc Bool.false_ne_true | skip
  exact h S hc
theorem e_or {ms : MEs} (h : OkB (Γ := Γ) (k := k) .Or (wpOr Γ) ms) : OkE Γ k (.or ms) := by
  intro c R H0 W X S e hc
  cases e <;> first | exact absurd hc Bool.false_ne_true | skip
  rename_i op es pos
  cases op <;> first | exact absurd hc Bool.false_ne_true | skip
  exact h S hc
theorem t_and {ms : MEs} (h : OkBT (Γ := Γ) (k := k) .And (wpTAnd Γ) ms) : OkT Γ k (.and ms) := by
  intro c R H0 W X S e hc
  cases e <;> first | exact absurd hc Bool.false_ne_true | skip
  rename_i op es pos
  cases op <;> first | exact absurd hc Bool.false_ne_true | skip
  exact (h S hc).pt
theorem t_or {ms : MEs} (h : OkBT (Γ := Γ) (k := k) .Or (wpTOr Γ) ms) : OkT Γ k (.or ms) := by
  intro c R H0 W X S e hc
  cases e <;> first | exact absurd hc Bool.false_ne_true | skip
  rename_i op es pos
  cases op <;> first | exact absurd hc Bool.false_ne_true | skip
  exact (h S hc).pt
theorem e_notE {a : ME} (ha : OkE Γ k a) : OkE Γ k (.not a) := by
  intro c R H0 W X S e h
  cases e <;> first | exact absurd h Bool.false_ne_true | skip
  rename_i op x pos
  cases op <;> first | exact absurd h Bool.false_ne_true | skip
  refine ⟨fun pins s σv H Qv I ⟨σ, G, Q, sr, t, out⟩ => UnaryOp_ (thn ((ha S h).run pins s σv H _ I (⟨σ, G, _, sr, t, fun x G1 v H1 q r s1 k1 => (⟨G1, x, q, r, s1, k1⟩ : ∃ G1 x, (truD x G1 fun b G2 => Q (.bl (!b)) G2) ∧ Rp X.K H1 x v ∧ SR X.K R H0 σ G1 σv H1 ∧ Keep R H H1)⟩)) fun u s1 ⟨v, H1, I1, r1, G1, x, q, rx, sr1, k1⟩ => ?_)⟩
  obtain ⟨b, tv, q1⟩ := tru_D sr1 rx q
  refine not_of (thn (tru_ok pins s1 σv H1 v u (fun b' H' => b' = b ∧ H' = H1) I1 r1 ⟨b, tv, rfl, rfl⟩) fun b' s2 ⟨H2, I2, e1, e2⟩ => ?_)
  subst e1 e2
  exact ⟨.bl (!b'), H2, I2, rfl, (out.back k1).now q1 rfl sr1⟩
end
end DL

set_option Elab.async false
set_option linter.all false
set_option maxRecDepth 100000
set_option maxHeartbeats 4000000
/-! DL9: displays, subscripts, calls, methods, f-strings, targets, what is walked. -/
namespace DL
open PySem PySem.Spec PyProof.Rows L2
def lAn (K : PySem.W.Frag) (R : Addr → Prop) (H0 : Hp) (W : WD) (t : DA) (n : Nat) : TA := fun σv H Qv => ∃ σ G Q, SR K R H0 σ G σv H ∧ t W σ G Q ∧ ∀ ds G' vs H', Q ds G' → ds.length = n → Rps K H' ds vs → SR K R H0 σ G' σv H' → Keep R H H' → Qv vs H'
section
variable {Γ : GE} {k : Nat}
theorem chEs_n {c : CT} : ∀ {ms : MEs} {es : List Expr}, chEs c ms es = true → es.length = ms.n
  | .nil, [], _ => rfl
  | .nil, _ :: _, h => absurd h Bool.false_ne_true
  | .cons m ms, es, h => by
    obtain ⟨e, r, rfl, h1, h2, h3⟩ := ch_cons h
    show r.length + 1 = ms.n + 1
    rw [chEs_n h3]
/-- the list, its length known -/
def OkAn (Γ : GE) (k : Nat) (ms : MEs) : Prop := ∀ {c : CT} {R : Addr → Prop} {H0 : Hp} {W : WD} {X : Cx}, SX Γ k c R H0 W X → ∀ {es : List Expr}, chEs c ms es = true → PA X es (lAn X.K R H0 W (wpEs Γ ms) ms.n)
theorem an_nil : OkAn Γ k .nil := by
  intro c R H0 W X S es h
  cases es with
  | cons _ _ => exact absurd h Bool.false_ne_true
  | nil => exact PAi pa_nil fun σv H Qv ⟨σ, G, Q, sr, q, out⟩ => out [] G [] H q rfl rfl sr .refl
theorem an_cons {m : ME} {ms : MEs} (hm : OkE Γ k m) (hms : OkAn Γ k ms) : OkAn Γ k (.cons m ms) := by
  intro c R H0 W X S es h
  obtain ⟨e, r, rfl, h1, h2, h3⟩ := ch_cons h
  refine PAi (pa_cons (hm S h2) (hms S h3) (star1 h1)) fun σv H Qv ⟨σ, G, Q, sr, t, out⟩ => ?_
  exact ⟨σ, G, _, sr, t, fun x G1 v H1 q r s1 k1 => ⟨σ, G1, _, s1, q, fun ds G2 vs H2 q2 hl r2 s2 k2 => out (x :: ds) G2 (v :: vs) H2 q2 (by show ds.length + 1 = ms.n + 1; rw [hl]) ⟨v, vs, rfl, r.keep k2, r2⟩ s2 (k1.trans k2)⟩⟩
theorem OkAn.pl {ms : MEs} (h : OkAn Γ k ms) : OkA Γ k ms := by
  intro c R H0 W X S es hc
  exact PAi (h S hc) fun σv H Qv ⟨σ, G, Q, sr, t, out⟩ => ⟨σ, G, Q, sr, t, fun ds G' vs H' q _ => out ds G' vs H' q⟩
theorem e_tup {ms : MEs} (h : OkAn Γ k ms) : OkE Γ k (.tup ms) := by
  intro c R H0 W X S e hc
  cases e <;> first | exact absurd hc Bool.false_ne_true | skip
  rename_i vs kk pos
  obtain ⟨h1, h2⟩ := and3 hc
  have hl : vs.length ≤ 1000 := of_decide_eq_true h1
  have hn := chEs_n h2
  refine PEi (pe_tup (h S h2)) fun σv H Qv ⟨σ, G, Q, sr, t, out⟩ => ⟨σ, G, _, sr, t, fun ds G1 us H1 q l1 r1 s1 k1 => ⟨?_, ?_⟩⟩
  · rw [r1.length, l1, ← hn, sizeLine_eq]; omega
  · exact (out.back k1).tup q r1 s1
theorem e_lst {ms : MEs} (h : OkAn Γ k ms) : OkE Γ k (.lst ms) := by
  intro c R H0 W X S e hc
  cases e <;> first | exact absurd hc Bool.false_ne_true | skip
  rename_i vs pos
  obtain ⟨h1, h2⟩ := and3 hc
  have hl : vs.length ≤ 1000 := of_decide_eq_true h1
  have hn := chEs_n h2
  refine PEi (pe_lst (h S h2)) fun σv H Qv ⟨σ, G, Q, sr, t, out⟩ => ⟨σ, G, _, sr, t, fun ds G1 us H1 q l1 r1 s1 k1 => ⟨?_, ?_⟩⟩
  · rw [r1.length, l1, ← hn, sizeLine_eq]; omega
  · exact (out.back k1).lst q r1 s1
/-! ### subscripts -/
theorem e_ix {a i : ME} (ha : OkE Γ k a) (hi : OkE Γ k i) : OkE Γ k (.ix a i) := by
  intro c R H0 W X S e h
  cases e <;> first | exact absurd h Bool.false_ne_true | skip
  rename_i x y pos
  obtain ⟨h1, h2⟩ := and3 h
  obtain ⟨h2, h3⟩ := and3 h2
  exact PEi (pe_ix ix_D (ha S h2) (hi S h3) (ix_plain h1)) fun _ _ _ z => lE2 z
theorem t_ix {a i : ME} (ha : OkE Γ k a) (hi : OkE Γ k i) : OkT Γ k (.ix a i) := by
  intro c R H0 W X S e h
  have := e_ix ha hi S h
  cases e <;> first | exact absurd h Bool.false_ne_true | skip
  exact lTr this rfl fun _ _ _ z => z
theorem o_none : OkO Γ k .none := by
  intro c R H0 W X S e h
  cases e with
  | some _ => exact absurd h Bool.false_ne_true
  | none => exact ⟨fun pins s σv H Qv I ⟨σ, G, Q, sr, q, out⟩ => po_none.run pins s σv H Qv I (out none G H q sr .refl)⟩
theorem o_some {m : ME} (hm : OkE Γ k m) : OkO Γ k (.some m) := by
  intro c R H0 W X S e h
  cases e with
  | none => exact absurd h Bool.false_ne_true
  | some e =>
    refine ⟨fun pins s σv H Qv I ⟨σ, G, Q, sr, t, out⟩ => (po_some (hm S h)).run pins s σv H Qv I ⟨σ, G, _, sr, t, fun x G1 v H1 q r s1 k1 => ?_⟩⟩
    cases x with
    | int i => exact ⟨i, r, out (some i) G1 H1 q s1 k1⟩
    | _ => exact False.elim q
theorem e_slc {a : ME} {lo hi : MO} (ha : OkE Γ k a) (hl : OkO Γ k lo) (hh : OkO Γ k hi) : OkE Γ k (.slc a lo hi) := by
  intro c R H0 W X S e h
  cases e <;> first | exact absurd h Bool.false_ne_true | skip
  rename_i x y pos
  cases y <;> first | exact absurd h Bool.false_ne_true | skip
  rename_i l hh' st p2
  cases st with
  | some _ => exact absurd h Bool.false_ne_true
  | none =>
    obtain ⟨h1, h3⟩ := and3 h
    obtain ⟨h1, h2⟩ := and3 h1
    refine PEi (pe_slice sl_D (ha S h1) (hl S h2) (hh S h3)) fun σv H Qv ⟨σ, G, Q, sr, t, out⟩ => ?_
    exact ⟨σ, G, _, sr, t, fun x G1 v H1 q r s1 k1 => ⟨σ, G1, _, s1, q, fun o G2 H2 q2 s2 k2 => ⟨σ, G2, _, s2, q2, fun o' G3 H3 q3 s3 k3 => ⟨R, H0, σ, σv, x, G3, Q, (r.keep k2).keep k3, s3, q3, out.back ((k1.trans k2).trans k3)⟩⟩⟩⟩
theorem e_revl {a : ME} (ha : OkE Γ k a) : OkE Γ k (.revl a) := by
  intro c R H0 W X S e h
  have key : ∃ x j p1 p2 p3 pos, e = .Subscript x (.Slice none none (some (.UnaryOp .USub (.Constant (.int 1) j p1) p2)) p3) pos ∧ chE c a x = true := by
    cases e <;> first | exact absurd h Bool.false_ne_true | skip
    rename_i x y pos
    cases y <;> first | exact absurd h Bool.false_ne_true | skip
    rename_i l u st p3
    cases l <;> first | exact absurd h Bool.false_ne_true | skip
    cases u <;> first | exact absurd h Bool.false_ne_true | skip
    cases st <;> first | exact absurd h Bool.false_ne_true | skip
    rename_i st
    cases st <;> first | exact absurd h Bool.false_ne_true | skip
    rename_i op z p2
    cases op <;> first | exact absurd h Bool.false_ne_true | skip
    cases z <;> first | exact absurd h Bool.false_ne_true | skip
    rename_i cst j p1
    cases cst <;> first | exact absurd h Bool.false_ne_true | skip
    rename_i i
    obtain ⟨h1, h2⟩ := and3 h
    have e1 : i = 1 := of_decide_eq_true h1
    subst e1
    exact ⟨x, j, p1, p2, p3, pos, rfl, h2⟩
  obtain ⟨x, j, p1, p2, p3, pos, rfl, h2⟩ := key
  refine PEi (pe_revA (ha S h2)) fun σv H Qv ⟨σ, G, Q, sr, t, out⟩ => ⟨σ, G, _, sr, t, fun x G1 v H1 q r s1 k1 => ?_⟩
  cases x with
  | ref l =>
    obtain ⟨ds, e1, q1⟩ := q
    obtain ⟨vs, e2, rv⟩ := s1.sqL e1
    exact ⟨l, vs, r, .inl ⟨e2, (out.back k1).lst q1 rv.reverse s1⟩⟩
  | tup ds =>
    obtain ⟨l, vs, e1, e2, rv⟩ := r
    exact ⟨l, vs, e1, .inr ⟨e2, (out.back k1).tup q rv.reverse s1⟩⟩
  | _ => exact False.elim q
/-! ### calls -/
/-- behind the arguments: the callee's promise, as the layer has it -/
theorem toSp_of {X : Cx} {R : Addr → Prop} {H0 H : Hp} {W : WD} {σ : Sg} {G : DH} {σv : L2.St} {Q : QD} {Qv : VK} {n : Nat} {Sd : DSp} {ds : List D} {vs : List V} (sr : SR X.K R H0 σ G σv H) (r : Rps X.K H ds vs) (hl : ds.length = n)
    (h : Sd ds G Q fun xd G2 => W xd σ G2) (out : Out X.K R H0 σ σv H Q Qv) : toSp X.K X.mg n Sd vs H Qv (WE (lW X.K X.mg R H0 W) σv) := by
  refine ⟨ds, G, Q, _, hl, r, sr.gr, h, fun d G' v H' q rd g kp => ?_, fun xd G' cls dd H' w rx g kp => ?_⟩
  · exact out d G' v H' q rd (sr.after g kp sr.rsOf) (kp.mono sr.rsOf)
  · exact ⟨xd, σ, G', w, rx, sr.after g kp sr.rsOf⟩
theorem star_hd {e : Expr} {es : List Expr} (h : (e :: es).all noStar = true) : noStar e = true ∧ es.all noStar = true := by
  rw [List.all_cons] at h; exact and3 h
theorem e_call {f : Str} {ms : MEs} (hm : OkAn Γ k ms) : OkE Γ k (.call f ms) := by
  intro c R H0 W X S e h
  cases e <;> first | exact absurd h Bool.false_ne_true | skip
  rename_i g args kws pos
  cases g <;> first | exact absurd h Bool.false_ne_true | skip
  rename_i x px
  cases kws with
  | cons _ _ => exact absurd h Bool.false_ne_true
  | nil =>
    obtain ⟨h, h6⟩ := and3 h
    obtain ⟨h, h5⟩ := and3 h
    obtain ⟨h, h4⟩ := and3 h
    obtain ⟨h, h3⟩ := and3 h
    obtain ⟨h1, h2⟩ := and3 h
    have e1 := of_decide_eq_true h1
    subst e1
    refine ⟨fun pins s σv H Qv I ⟨σ, G, Q, sr, ⟨fi, hf, t⟩, out⟩ => ?_⟩
    obtain ⟨a, fd, mg, kp, F, B, _⟩ := S.ok.fn _ fi hf
    refine wpAny_Call_Name_kw (ld_glob I (S.gl h3) mg ?_ (ok_d h4).1)
    have fin : ∀ {us : List Value} {s1 : Shared} {vs : List V} {H1 : Hp} {ds : List D} {G1 : DH}, Inv X pins σv H1 s1 → Vals vs us → (ds.length = fi.ps.length ∧ fi.sp ds G1 Q fun xd G2 => W xd σ G2) → Rps X.K H1 ds vs → SR X.K R H0 σ G1 σv H1 → Keep R H H1 →
        wpAny (model X.prog X.w) X.A (PySem.call (.ref a) us) (EP X pins σv Qv) X.xe s1 := fun I1 rv q rd s1 k1 =>
      run_fnS F (S.rm (S.suB h2)) B (passAt S.tk σv) I1 rv (toSp_of s1 rd q.1 q.2 (out.back k1))
    cases args with
    | nil =>
      cases ms with
      | cons _ _ => exact absurd h6 Bool.false_ne_true
      | nil => exact PySem.W.callWith_K0 I.kIn kp (fin I .nil t rfl sr .refl)
    | cons e es =>
      obtain ⟨n1, n2⟩ := star_hd h5
      refine PySem.W.callWith_K (h₀ := X.base) I.ok.mod.kin kp (thn ((hm S h6).run pos pins s σv H (fun vs H1 => ∃ ds G1, (ds.length = fi.ps.length ∧ fi.sp ds G1 Q fun xd G2 => W xd σ G2) ∧ Rps X.K H1 ds vs ∧ SR X.K R H0 σ G1 σv H1 ∧ Keep R H H1) I ⟨σ, G, _, sr, t, fun ds G1 vs H1 q hl r1 s1 k1 => ⟨ds, G1, q, r1, s1, k1⟩⟩) fun us s1 ⟨vs, H1, I1, rv, ds, G1, q, r1, s1, k1⟩ => ⟨I1.kIn, fin I1 rv q r1 s1 k1⟩) (star1 n1) (star_any pos n2)
theorem t_call {f : Str} {ms : MEs} (hm : OkAn Γ k ms) : OkT Γ k (.call f ms) := by
  intro c R H0 W X S e h
  have := e_call hm S h
  cases e <;> first | exact absurd h Bool.false_ne_true | skip
  exact lTr this rfl fun _ _ _ z => z
theorem permL_vals (p : List Nat) {vs : List V} {us : List Value} (r : Vals vs us) : Vals (permL p vs) (permL p us) := by
  induction p with
  | nil => exact .nil
  | cons i p ih =>
    have hl := r.length
    unfold permL at ih ⊢
    rw [List.filterMap_cons, List.filterMap_cons]
    cases e : vs[i]? with
    | none =>
      rw [r.none_of e]
      exact ih
    | some v =>
      obtain ⟨u, e2, r2⟩ := r.get e
      rw [e2]
      exact .cons r2 ih
theorem permL_rps {K : PySem.W.Frag} {H : Hp} (p : List Nat) {ds : List D} {vs : List V} (r : Rps K H ds vs) : Rps K H (permL p ds) (permL p vs) := by
  induction p with
  | nil => rfl
  | cons i p ih =>
    have hl := r.length
    unfold permL at ih ⊢
    rw [List.filterMap_cons, List.filterMap_cons]
    cases e : ds[i]? with
    | none =>
      have : vs[i]? = none := by
        rw [List.getElem?_eq_none_iff] at e ⊢; omega
      rw [this]
      exact ih
    | some d =>
      obtain ⟨v, e2, r2⟩ := r.get e
      rw [e2]
      exact ⟨v, _, rfl, r2, ih⟩
theorem chK_kw {c : CT} {X : Cx} {pos : Pos} : ∀ {ms : MEs} {ks : List Str} {kws : List Keyword}, chK c ks ms kws = true → (backToKw pos (keywordEach kws X.env)).all (·.1.isSome) = true ∧ (backToKw pos (keywordEach kws X.env)).filterMap (·.1) = ks ∧ (backToKw pos (keywordEach kws X.env)).any (·.1.isNone) = false
  | .nil, ks, kws, h => by
    cases ks with
    | cons _ _ => exact absurd h (by simp [chK])
    | nil =>
      cases kws with
      | cons _ _ => exact absurd h (by simp [chK])
      | nil => exact ⟨rfl, rfl, rfl⟩
  | .cons m ms, ks, kws, h => by
    obtain ⟨x, e, p, kr, r, rfl, rfl, h2, h3⟩ := ck_cons h
    obtain ⟨q1, q2, q3⟩ := chK_kw (X := X) (pos := pos) h3
    have e0 : backToKw pos (keywordEach (⟨some x, e, p⟩ :: r) X.env) = (some x, do let v ← eval e X.env; standAt pos; pure v) :: backToKw pos (keywordEach r X.env) := rfl
    rw [e0]
    refine ⟨?_, ?_, ?_⟩
    · rw [List.all_cons, q1]; rfl
    · rw [List.filterMap_cons, q2]
    · rw [List.any_cons, q3]; rfl
/-- a call with keywords, the positional ones first -/
theorem e_callk {f : Str} {ms ks' : MEs} {ks : List Str} (hm : OkAn Γ k ms) (hk : OkK Γ k ks') : OkE Γ k (.callk f ms ks ks') := by
  intro c R H0 W X S e h
  cases e <;> first | exact absurd h Bool.false_ne_true | skip
  rename_i g args kws pos
  cases g <;> first | exact absurd h Bool.false_ne_true | skip
  rename_i x px
  obtain ⟨h, h7⟩ := and3 h
  obtain ⟨h, h6⟩ := and3 h
  obtain ⟨h, h5⟩ := and3 h
  obtain ⟨h, h4⟩ := and3 h
  obtain ⟨h, h3⟩ := and3 h
  obtain ⟨h1, h2⟩ := and3 h
  have e1 := of_decide_eq_true h1
  subst e1
  refine ⟨fun pins s σv H Qv I ⟨σ, G, Q, sr, ⟨fi, hf, p, hkw, t⟩, out⟩ => ?_⟩
  have hin := kwF_mem hkw
  generalize hn0 : ms.n = n at *
  obtain ⟨a, fd, mg, kp, F, B, KB⟩ := S.ok.fn _ fi hf
  obtain ⟨dv, vd, rvd, rdd, kb⟩ : KBd X.K fd fi.ps n ks p fi.dfl := KB _ hin
  obtain ⟨kw1, kw2, kw3⟩ := chK_kw (X := X) (pos := pos) h7
  refine wpAny_Call_Name_kw (ld_glob I (S.gl h3) mg ?_ (ok_d h4).1)
  have fin : ∀ {us ws : List Value} {s1 : Shared} {vs zs : List V} {H1 : Hp} {ds es : List D} {G1 : DH}, Inv X pins σv H1 s1 → Vals vs us → Vals zs ws → (ds.length = n ∧ es.length = ks.length ∧ (permL p (ds ++ es ++ fi.dfl)).length = fi.ps.length ∧ fi.sp (permL p (ds ++ es ++ fi.dfl)) G1 Q fun xd G2 => W xd σ G2) →
      Rps X.K H1 ds vs → Rps X.K H1 es zs → SR X.K R H0 σ G1 σv H1 → Keep R H H1 → wpAny (model X.prog X.w) X.A (PySem.call (.ref a) us (ks.zip ws)) (EP X pins σv Qv) X.xe s1 := by
    intro us ws s1 vs zs H1 ds es G1 I1 rv rz q rd rd2 s1' k1
    obtain ⟨q1, q2, q3, q4⟩ := q
    have b := kb s1 us ws I1.kIn (by rw [← rv.length, rd.length, q1]) (by rw [← rz.length, rd2.length, q2])
    have rp := permL_vals p ((rv.append rz).append rvd)
    have hsp : toSp X.K X.mg fi.ps.length fi.sp (permL p (vs ++ zs ++ vd)) H1 Qv (WE (lW X.K X.mg R H0 W) σv) := toSp_of s1' (permL_rps p ((rd.append rd2).append (rdd _))) q3 q4 (out.back k1)
    refine wpAny_call (codeAny_mono (F.run X.A X.stack s1 H1 ⟨us, ks.zip ws⟩ (permL p (us ++ ws ++ dv)) (permL p (vs ++ zs ++ vd)) Qv _ (S.rm (S.suB h2)) I1.env0 b rp hsp) fun r s' hq => ?_)
    cases r with
    | error e => exact passAt S.tk σv pins H1 s1 e s' I1 hq
    | ok fl =>
      cases fl with
      | ret u => exact I1.after hq
      | next => exact False.elim hq
      | brk => exact False.elim hq
      | cont => exact False.elim hq
  have kwd : ∀ {s1 : Shared} {us : List Value} {vs : List V} {H1 : Hp} {ds : List D} {G1 : DH}, Inv X pins σv H1 s1 → Vals vs us → (wpEs Γ ks' W σ G1 fun zs G2 => ds.length = n ∧ zs.length = ks.length ∧ (permL p (ds ++ zs ++ fi.dfl)).length = fi.ps.length ∧ fi.sp (permL p (ds ++ zs ++ fi.dfl)) G2 Q fun xd G3 => W xd σ G3) →
      Rps X.K H1 ds vs → SR X.K R H0 σ G1 σv H1 → Keep R H H1 →
      wpAny (model X.prog X.w) X.A (evalAll ((backToKw pos (keywordEach kws X.env)).map (·.2))) (fun ws s2 => X.K.In s2.heap ∧ wpAny (model X.prog X.w) X.A (PySem.call (.ref a) us (ks.zip ws)) (EP X pins σv Qv) X.xe s2) X.xe s1 := by
    intro s1 us vs H1 ds G1 I1 rv q rd s1' k1
    refine thn ((hk S h7).run pos pins s1 σv H1 (fun zs H2 => ∃ es G2, (ds.length = n ∧ es.length = ks.length ∧ (permL p (ds ++ es ++ fi.dfl)).length = fi.ps.length ∧ fi.sp (permL p (ds ++ es ++ fi.dfl)) G2 Q fun xd G3 => W xd σ G3) ∧ Rps X.K H2 es zs ∧ SR X.K R H0 σ G2 σv H2 ∧ Keep R H1 H2) I1
      ⟨σ, G1, _, s1', q, fun es G2 zs H2 q2 r2 s2 k2 => ⟨es, G2, q2, r2, s2, k2⟩⟩) fun ws s2 ⟨zs, H2, I2, rz, es, G2, q2, r2, s2', k2⟩ => ⟨I2.kIn, fin I2 rv rz q2 (rd.keep k2) r2 s2' (k1.trans k2)⟩
  cases args with
  | nil =>
    cases ms with
    | cons _ _ => exact absurd h6 Bool.false_ne_true
    | nil =>
      refine PySem.W.callWith_KW0 (h₀ := X.base) I.ok.mod.kin kp kw1 ?_ (by show (false || _) = false; rw [kw3]; rfl)
      rw [kw2]
      exact kwd I .nil t rfl sr .refl
  | cons e es =>
    obtain ⟨n1, n2⟩ := star_hd h5
    refine PySem.W.callWith_KW (h₀ := X.base) I.ok.mod.kin kp kw1 (thn ((hm S h6).run pos pins s σv H (fun vs H1 => ∃ ds G1, (wpEs Γ ks' W σ G1 fun zs G2 => ds.length = n ∧ zs.length = ks.length ∧ (permL p (ds ++ zs ++ fi.dfl)).length = fi.ps.length ∧ fi.sp (permL p (ds ++ zs ++ fi.dfl)) G2 Q fun xd G3 => W xd σ G3) ∧ Rps X.K H1 ds vs ∧ SR X.K R H0 σ G1 σv H1 ∧ Keep R H H1) I
      ⟨σ, G, _, sr, t, fun ds G1 vs H1 q hl r1 s1 k1 => ⟨ds, G1, q, r1, s1, k1⟩⟩) fun us s1 ⟨vs, H1, I1, rv, ds, G1, q, r1, s1', k1⟩ => ?_) ?_ (star1 n1)
    · rw [kw2]
      exact kwd I1 rv q r1 s1' k1
    · rw [star_any pos (es := e :: es) (by rw [List.all_cons, n1, n2]; rfl), kw3]; rfl
theorem t_callk {f : Str} {ms ks' : MEs} {ks : List Str} (hm : OkAn Γ k ms) (hk : OkK Γ k ks') : OkT Γ k (.callk f ms ks ks') := by
  intro c R H0 W X S e h
  have := e_callk hm hk S h
  cases e <;> first | exact absurd h Bool.false_ne_true | skip
  exact lTr this rfl fun _ _ _ z => z
end
end DL

set_option Elab.async false
set_option linter.all false
set_option maxRecDepth 100000
set_option maxHeartbeats 4000000
/-! DL10: built-ins, isinstance, methods, f-strings, targets, what is walked, comprehensions. -/
namespace DL
open PySem PySem.Spec PyProof.Rows L2
section
variable {Γ : GE} {k : Nat}
def BI.all' : List BI := [.len, .abs, .int, .str, .sum, .max, .min, .all, .any, .list, .tuple]
theorem BI.isF (b : BI) (h : b ≠ .gcd ∧ b ≠ .comb) : b.name ∈ bNames ∧ bootBuiltins b.name = some b.val ∧ b.name ≠ "__name__" ∧ (b.name == ("__debug__" : Str)) = false ∧ ((∃ id, b.val = .builtin id) ∨ ∃ T, b.val = .type T) := by
  cases b with
  | gcd => exact absurd rfl h.1
  | comb => exact absurd rfl h.2
  | len => exact ⟨by decide +kernel, boot_len, by decide, by decide, .inl ⟨_, rfl⟩⟩
  | abs => exact ⟨by decide +kernel, boot_abs, by decide, by decide, .inl ⟨_, rfl⟩⟩
  | int => exact ⟨by decide +kernel, boot_int, by decide, by decide, .inr ⟨_, rfl⟩⟩
  | str => exact ⟨by decide +kernel, boot_str, by decide, by decide, .inr ⟨_, rfl⟩⟩
  | sum => exact ⟨by decide +kernel, boot_sum, by decide, by decide, .inl ⟨_, rfl⟩⟩
  | max => exact ⟨by decide +kernel, boot_max, by decide, by decide, .inl ⟨_, rfl⟩⟩
  | min => exact ⟨by decide +kernel, boot_min, by decide, by decide, .inl ⟨_, rfl⟩⟩
  | all => exact ⟨by decide +kernel, boot_all, by decide, by decide, .inl ⟨_, rfl⟩⟩
  | any => exact ⟨by decide +kernel, boot_any, by decide, by decide, .inl ⟨_, rfl⟩⟩
  | list => exact ⟨by decide +kernel, boot_list, by decide, by decide, .inr ⟨_, rfl⟩⟩
  | tuple => exact ⟨by decide +kernel, boot_tuple, by decide, by decide, .inr ⟨_, rfl⟩⟩
theorem e_bi (b : BI) {ms : MEs} (hm : OkA Γ k ms) : OkE Γ k (.bi b ms) := by
  intro c R H0 W X S e h
  cases e <;> first | exact absurd h Bool.false_ne_true | skip
  rename_i g args kws pos
  cases g <;> first | exact absurd h Bool.false_ne_true | skip
  rename_i x px
  cases kws with
  | cons _ _ => exact absurd h Bool.false_ne_true
  | nil =>
    obtain ⟨h, h6⟩ := and3 h
    obtain ⟨h, h5⟩ := and3 h
    obtain ⟨h, h4⟩ := and3 h
    obtain ⟨h, h3⟩ := and3 h
    obtain ⟨h1, h2⟩ := and3 h
    have e1 := of_decide_eq_true h1
    subst e1
    cases args with
    | nil =>
      cases ms with
      | cons _ _ => exact absurd h6 Bool.false_ne_true
      | nil => exact PE_never fun _ _ _ ⟨_, _, _, _, z, _⟩ => z
    | cons e es =>
      obtain ⟨n1, n2⟩ := star_hd h5
      have cr := bi_ok (S.cm (S.suB h3)) b
      by_cases hb : b = .gcd
      · subst hb
        have hg : 1 ≤ c.gcd := of_decide_eq_true h2
        exact PEi (pe_callBfun cr (S.gl h4) (S.ok.gcd hg) (hm S h6) (by decide) (star1 n1) (star_any pos n2)) fun _ _ _ z => lA1 z
      by_cases hb2 : b = .comb
      · subst hb2
        have hg : 2 ≤ c.gcd := of_decide_eq_true h2
        exact PEi (pe_callBfun cr (S.gl h4) (S.ok.cmb hg) (hm S h6) (by decide) (star1 n1) (star_any pos n2)) fun _ _ _ z => lA1 z
      · obtain ⟨b1, b2, b3, b4, b5⟩ := b.isF ⟨hb, hb2⟩
        have hN := S.ok.bt _ b1
        generalize hv : b.val = v at *
        rcases b5 with ⟨id, rfl⟩ | ⟨T, rfl⟩
        · exact PEi (pe_callB cr (S.gl h4) hN b2 (hm S h6) b3 b4 (star1 n1) (star_any pos n2)) fun _ _ _ z => lA1 z
        · exact PEi (pe_callTy cr (S.gl h4) hN b2 (hm S h6) b3 b4 (star1 n1) (star_any pos n2)) fun _ _ _ z => lA1 z
theorem t_bi (b : BI) {ms : MEs} (hm : OkA Γ k ms) : OkT Γ k (.bi b ms) := by
  intro c R H0 W X S e h
  have := e_bi b hm S h
  cases e <;> first | exact absurd h Bool.false_ne_true | skip
  exact lTr this rfl fun _ _ _ z => z
theorem Ty.isT (t : Ty) (h : t ≠ .none) : Str.ofString t.s ∈ bNames ∧ bootBuiltins (Str.ofString t.s) = some (.type t.s) ∧ Str.ofString t.s ≠ "__name__" ∧ (Str.ofString t.s == ("__debug__" : Str)) = false := by
  cases t with
  | none => exact absurd rfl h
  | bool => exact ⟨by decide +kernel, boot_bool, by decide, by decide⟩
  | int => exact ⟨by decide +kernel, boot_int, by decide, by decide⟩
  | str => exact ⟨by decide +kernel, boot_str, by decide, by decide⟩
  | list => exact ⟨by decide +kernel, boot_list, by decide, by decide⟩
  | tuple => exact ⟨by decide +kernel, boot_tuple, by decide, by decide⟩
  | dict => exact ⟨by decide +kernel, boot_dict, by decide, by decide⟩
theorem e_isi {a : ME} (t : Ty) (ha : OkE Γ k a) : OkE Γ k (.isi a t) := by
  intro c R H0 W X S e h
  have key : ∃ u px py pos, e = .Call (.Name "isinstance" px) [u, .Name (Str.ofString t.s) py] [] pos ∧ glB c.sc "isinstance" = true ∧ glB c.sc (Str.ofString t.s) = true ∧ noStar u = true ∧ chE c a u = true ∧ t ≠ .none := by
    cases e <;> first | exact absurd h Bool.false_ne_true | skip
    rename_i g args kws pos
    cases g <;> first | exact absurd h Bool.false_ne_true | skip
    rename_i x px
    rcases args with _ | ⟨u, _ | ⟨v, _ | ⟨v3, args⟩⟩⟩ <;> first | exact absurd h Bool.false_ne_true | skip
    · cases v <;> first | exact absurd h Bool.false_ne_true | skip
      rename_i y py
      cases kws with
      | cons _ _ => exact absurd h Bool.false_ne_true
      | nil =>
        obtain ⟨h, h6⟩ := and3 h
        obtain ⟨h, h5⟩ := and3 h
        obtain ⟨h, h4⟩ := and3 h
        obtain ⟨h, h3⟩ := and3 h
        obtain ⟨h1, h2⟩ := and3 h
        obtain ⟨e1, e0⟩ := of_decide_eq_true h1
        have e2 := of_decide_eq_true h2
        subst e1 e2
        exact ⟨u, px, py, pos, rfl, h3, h4, h5, h6, e0⟩
    · cases v <;> exact absurd h Bool.false_ne_true
  obtain ⟨u, px, py, pos, rfl, h1, h2, h3, h4, ht⟩ := key
  obtain ⟨b1, b2, b3, b4⟩ := t.isT ht
  have hty : PE X (.Name (Str.ofString t.s) py) (tC (.ty t.s)) := pe_bltn (S.gl h2) (S.ok.bt _ b1) b2 rfl b3 b4
  refine PEi (pe_callB call_isi (S.gl h1) (S.ok.bt _ (by decide +kernel)) boot_isinstance (pa_cons (ha S h4) (pa_cons hty pa_nil rfl) (star1 h3)) (by decide) (by decide) (star1 h3) rfl) fun σv H Qv ⟨σ, G, Q, sr, t', out⟩ => ?_
  refine ⟨σ, G, _, sr, t', fun x G1 v H1 q r s1 k1 => ?_⟩
  obtain ⟨w, e1, q1⟩ := q
  exact isi_ok s1 r e1 q1 (out.back k1)
theorem t_isi {a : ME} (t : Ty) (ha : OkE Γ k a) : OkT Γ k (.isi a t) := by
  intro c R H0 W X S e h
  have pe := e_isi t ha S h
  have key : ∃ f args kws pos, e = .Call f args kws pos := by
    cases e <;> first | exact absurd h Bool.false_ne_true | exact ⟨_, _, _, _, rfl⟩
  obtain ⟨f, args, kws, pos, rfl⟩ := key
  refine PTi (pt_truth pe (true_plain rfl)) fun σv H Qv ⟨σ, G, Q, sr, t', out⟩ => ?_
  exact ⟨σ, G, fun d G1 => ∃ b, d = .bl b ∧ Q b G1, sr, by
    have z : (fun (x : D) (G1 : DH) => ∃ u, tyD G1 x = some u ∧ ∃ b, D.bl (u.sub t) = .bl b ∧ Q b G1) = fun x G1 => ∃ u, tyD G1 x = some u ∧ Q (u.sub t) G1 := by
      funext x G1
      apply propext
      constructor
      · rintro ⟨u, e, b, e1, q⟩
        cases e1
        exact ⟨u, e, q⟩
      · rintro ⟨u, e, q⟩
        exact ⟨u, e, _, rfl, q⟩
    show wpE Γ a W σ G fun x G1 => ∃ u, tyD G1 x = some u ∧ ∃ b, D.bl (u.sub t) = .bl b ∧ Q b G1
    rw [z]; exact t', fun d G1 v H1 q r s1 k1 => by
      obtain ⟨b, e1, q⟩ := q
      subst e1
      rw [show v = V.bl b from r]
      exact ⟨b, rfl, out b G1 H1 q s1 k1⟩⟩
/-! ### methods -/
theorem e_meth (m : MT) {o : ME} {ms : MEs} (ho : OkE Γ k o) (hm : OkA Γ k ms) : OkE Γ k (.meth m o ms) := by
  intro c R H0 W X S e h
  cases e <;> first | exact absurd h Bool.false_ne_true | skip
  rename_i g args kws cp
  cases g <;> first | exact absurd h Bool.false_ne_true | skip
  rename_i u x ap
  cases kws with
  | cons _ _ => exact absurd h Bool.false_ne_true
  | nil =>
    obtain ⟨h, h8⟩ := and3 h
    obtain ⟨h, h7⟩ := and3 h
    obtain ⟨h, h6⟩ := and3 h
    obtain ⟨h, h5⟩ := and3 h
    obtain ⟨h, h4⟩ := and3 h
    obtain ⟨h, h3⟩ := and3 h
    obtain ⟨h1, h2⟩ := and3 h
    have e1 := of_decide_eq_true h1
    have e3 := of_decide_eq_true h3
    subst e1
    cases args with
    | nil =>
      cases ms with
      | cons _ _ => exact absurd h8 Bool.false_ne_true
      | nil =>
        refine PEi (pe_bm0 m.pa m.slot m.ty (mt_ok m) (ho S h7) (base_plain h5) h4) fun σv H Qv ⟨σ, G, Q, sr, t, out⟩ => ?_
        exact ⟨σ, G, _, sr, t, fun x G1 v H1 q r s1 k1 => ⟨rc_ty s1 r q.1, R, H0, σ, σv, x, [], G1, Q, r, rfl, s1, q.2, out.back k1⟩⟩
    | cons e es =>
      obtain ⟨n1, n2⟩ := star_hd h6
      have hf : ((backTo cp (starEach (e :: es) X.env)).all (fun x => !x.1) && (backToKw cp (keywordEach [] X.env)).all (fun x => x.1.isSome) && decide ((e :: es).length + ([] : List Keyword).length + (if ([] : List Keyword).isEmpty then 0 else 1) < 30)) = true := by
        rw [star_all cp h6]
        have : (e :: es).length < 2 := by
          rw [e3]; cases m <;> decide
        simp only [Bool.true_and, Bool.and_eq_true, decide_eq_true_eq]
        refine ⟨rfl, ?_⟩
        show (e :: es).length + 0 + 0 < 30
        omega
      refine PEi (pe_bm m.pa m.slot m.ty (mt_ok m) (ho S h7) (hm S h8) (base_plain h5) hf h4 (star1 n1) (star_any cp n2)) fun σv H Qv ⟨σ, G, Q, sr, t, out⟩ => ?_
      exact ⟨σ, G, _, sr, t, fun x G1 v H1 q r s1 k1 => ⟨rc_ty s1 r q.1, σ, G1, _, s1, q.2, fun ds G2 vs H2 q2 r2 s2 k2 => ⟨R, H0, σ, σv, x, ds, G2, Q, r.keep k2, r2, s2, q2, out.back (k1.trans k2)⟩⟩⟩
/-! ### texts -/
theorem e_fmt {a : ME} (ha : OkE Γ k a) : OkE Γ k (.fmt a) := by
  intro c R H0 W X S e h
  cases e <;> first | exact absurd h Bool.false_ne_true | skip
  rename_i x i sp pos
  cases sp with
  | some _ => exact absurd h Bool.false_ne_true
  | none =>
    obtain ⟨h1, h2⟩ := and3 h
    have e1 := of_decide_eq_true h1
    subst e1
    refine PEi (pe_fmt (ha S h2)) fun σv H Qv ⟨σ, G, Q, sr, t, out⟩ => ⟨σ, G, _, sr, t, fun x G1 v H1 q r s1 k1 => ?_⟩
    cases x with
    | str z => exact .inl ⟨z, r, q.1, (out.back k1).now q.2 rfl s1⟩
    | int i => exact .inr ⟨i, r, q.1, (out.back k1).now q.2 rfl s1⟩
    | _ => exact False.elim q
/-- the parts of an f-string -/
def OkJ (Γ : GE) (k : Nat) (ms : MEs) : Prop := ∀ {c : CT} {R : Addr → Prop} {H0 : Hp} {W : WD} {X : Cx}, SX Γ k c R H0 W X → ∀ {es : List Expr}, chEs c ms es = true → ∃ ts, PJ X es ts ∧
  ∀ {σ : Sg} {G : DH} {σv : L2.St} {H : Hp} {acc : Str} {Q : Str → DH → Prop} {Qv : Str → Hp → Prop}, SR X.K R H0 σ G σv H → wpJ Γ ms W acc σ G Q → (∀ z G' H', Q z G' → SR X.K R H0 σ G' σv H' → Keep R H H' → Qv z H') → tJs ts acc σv H Qv
theorem j_nil : OkJ Γ k .nil := by
  intro c R H0 W X S es h
  cases es with
  | cons _ _ => exact absurd h Bool.false_ne_true
  | nil => exact ⟨[], .nil, fun sr q out => out _ _ _ q sr .refl⟩
theorem j_cons {m : ME} {ms : MEs} (hm : OkE Γ k m) (hms : OkJ Γ k ms) : OkJ Γ k (.cons m ms) := by
  intro c R H0 W X S es h
  obtain ⟨e, r, rfl, h1, h2, h3⟩ := ch_cons h
  obtain ⟨ts, pj, tl⟩ := hms S h3
  refine ⟨_ :: ts, .cons (hm S h2) pj, fun {σ G σv H acc Q Qv} sr q out => ?_⟩
  refine ⟨σ, G, _, sr, q, fun x G1 v H1 q r s1 k1 => ?_⟩
  cases x with
  | str z => exact ⟨z, r, q.1, tl s1 q.2 fun z' G2 H2 q2 s2 k2 => out z' G2 H2 q2 s2 (k1.trans k2)⟩
  | _ => exact False.elim q
theorem e_fstr {ms : MEs} (hm : OkJ Γ k ms) : OkE Γ k (.fstr ms) := by
  intro c R H0 W X S e h
  cases e <;> first | exact absurd h Bool.false_ne_true | skip
  rename_i vs pos
  obtain ⟨h1, h2⟩ := and3 h
  have hl : 2 ≤ vs.length := of_decide_eq_true h1
  rcases vs with _ | ⟨v1, _ | ⟨v2, vs⟩⟩
  · exact absurd hl (by simp)
  · exact absurd hl (by simp)
  · obtain ⟨ts, pj, tl⟩ := hm S h2
    refine PEi (pe_joined pj) fun σv H Qv ⟨σ, G, Q, sr, t, out⟩ => tl sr t fun z G1 H1 q s1 k1 => (out.back k1).now q rfl s1
/-! ### targets -/
theorem g_name (i : Nat) : OkG Γ k (.name i) := by
  intro c R H0 W X S o ho e h
  cases e <;> first | exact absurd h Bool.false_ne_true | skip
  rename_i x pos
  obtain ⟨h1, h2⟩ := and3 h
  obtain ⟨l1, l2⟩ := S.loc h2
  refine PGi (pg_name (S.N ▸ S.nd) (S.at h1) l1 l2) fun v σv H Qv ⟨d, σ, G, Q, r, sr, q, out⟩ => ?_
  exact out _ G _ H q (sr.slot i r) .refl (Ow.set fun own e => ho own e)
theorem chGs_n {c : CT} : ∀ {gs : MGs} {es : List Expr}, chGs c gs es = true → es.length = gs.n
  | .nil, [], _ => rfl
  | .nil, _ :: _, h => absurd h Bool.false_ne_true
  | .cons _ _, [], h => absurd h Bool.false_ne_true
  | .cons g gs, e :: es, h => by
    show es.length + 1 = gs.n + 1
    rw [chGs_n (and3 h).2]
theorem g_tup {gs : MGs} (hg : OkGs Γ k gs) : OkG Γ k (.tup gs) := by
  intro c R H0 W X S o ho e h
  cases e <;> first | exact absurd h Bool.false_ne_true | skip
  rename_i es kk pos
  obtain ⟨h, h3⟩ := and3 h
  obtain ⟨h1, h2⟩ := and3 h
  obtain ⟨l1, l2⟩ := asgE_len (env := X.env) h2
  have p1 := pg_tup (k := kk) (pos := pos) (S.cm (S.suB h1)) (hg S ho h2 h3) l1 l2
  have p2 := pg_lst (k := kk) (pos := pos) (S.cm (S.suB h1)) (hg S ho h2 h3) l1 l2
  refine ⟨fun pins s σv H v u Qv I rv ⟨d, σ, G, Q, r, sr, q, out⟩ => ?_⟩
  cases d with
  | tup ds =>
    obtain ⟨hl, q⟩ := q
    obtain ⟨a, vs, ev, qa, rw'⟩ := r
    exact p1.run pins s σv H v u Qv I rv ⟨a, vs, ev, qa, by rw [rw'.length, hl, chGs_n h3], ds, σ, G, Q, rw', sr, q, out⟩
  | ref a =>
    obtain ⟨ds, e2, hl, q⟩ := q
    obtain ⟨vs, q1, rw'⟩ := sr.sqL e2
    exact p2.run pins s σv H v u Qv I rv ⟨a, vs, r, q1, by rw [rw'.length, hl, chGs_n h3], ds, σ, G, Q, rw', sr, q, out⟩
  | _ => exact False.elim q
theorem gs_nil : OkGs Γ k .nil := by
  intro c R H0 W X S o ho es hs h
  cases es with
  | cons _ _ => exact absurd h Bool.false_ne_true
  | nil =>
    refine ⟨fun pins s σv H vs us Qv I rv ⟨ds, σ, G, Q, r, sr, q, out⟩ => pgs_nil.run pins s σv H vs us Qv I rv ?_⟩
    obtain ⟨e1, q⟩ := q
    subst e1
    exact ⟨r, out σ G σv H q sr .refl .refl⟩
theorem gs_cons {g : MG} {gs : MGs} (hg : OkG Γ k g) (hgs : OkGs Γ k gs) : OkGs Γ k (.cons g gs) := by
  intro c R H0 W X S o ho es hs h
  cases es with
  | nil => exact absurd h Bool.false_ne_true
  | cons e es =>
    obtain ⟨h1, h2⟩ := and3 h
    obtain ⟨n1, n2⟩ := star_hd hs
    have hp := pgs_cons (hg S (o := o) (fun own e1 => (and3 (ho own e1)).1) h1) (hgs S (o := o) (fun own e1 => (and3 (ho own e1)).2) n2 h2) (asgE1 n1)
    refine ⟨fun pins s σv H vs us Qv I rv ⟨ds, σ, G, Q, r, sr, q, out⟩ => hp.run pins s σv H vs us Qv I rv ?_⟩
    cases ds with
    | nil => exact False.elim q
    | cons d rr =>
    obtain ⟨v, ws, ev, rd, rr'⟩ := r
    exact ⟨v, ws, ev, d, σ, G, _, rd, sr, q, fun σ1 G1 σv1 H1 q1 s1 k1 o1 => ⟨rr, σ1, G1, _, rr'.keep k1, s1, q1, fun σ2 G2 σv2 H2 q2 s2 k2 o2 => out σ2 G2 σv2 H2 q2 s2 (k1.trans k2) (o1.trans o2)⟩⟩
theorem g_sub {o' i : ME} (ho' : OkE Γ k o') (hi : OkE Γ k i) : OkG Γ k (.sub o' i) := by
  intro c R H0 W X S o ho e h
  cases e <;> first | exact absurd h Bool.false_ne_true | skip
  rename_i x y pos
  obtain ⟨h, h3⟩ := and3 h
  obtain ⟨h1, h2⟩ := and3 h
  refine PGi (pg_sub (ho' S h2) (hi S h3) set_D (asgSub h1)) fun v σv H Qv ⟨d, σ, G, Q, r, sr, q, out⟩ => ?_
  refine ⟨σ, G, _, sr, q, fun x G1 v1 H1 q1 r1 s1 k1 => ⟨σ, G1, _, s1, q1, fun y G2 v2 H2 q2 r2 s2 k2 => ⟨R, H0, σ, σv, x, y, d, G2, _, r1.keep k2, r2, (r.keep k1).keep k2, s2, q2, fun G3 H3 q3 s3 k3 => ?_⟩⟩⟩
  exact out σ G3 σv H3 q3 s3 ((k1.trans k2).trans k3) .refl
/-! ### tests of a comprehension -/
theorem c_none : OkC Γ k .none := by
  intro c R H0 W X S es h
  cases es with
  | cons _ _ => exact absurd h Bool.false_ne_true
  | nil => exact ⟨fun pins s σv H Qv I ⟨σ, G, Q, sr, q, out⟩ => pts_nil.run pins s σv H Qv I (out true G H q sr .refl)⟩
theorem c_some {m : ME} (hm : OkT Γ k m) : OkC Γ k (.some m) := by
  intro c R H0 W X S es h
  rcases es with _ | ⟨e, _ | ⟨e2, es⟩⟩ <;> first | exact absurd h Bool.false_ne_true | skip
  exact pts_one (hm S h)
end
end DL

set_option Elab.async false
set_option linter.all false
set_option maxRecDepth 100000
set_option maxHeartbeats 4000000
/-! DL11: the field of a caught exception, what is walked, comprehensions; expressions together. -/
namespace DL
open PySem PySem.Spec PyProof.Rows L2
section
variable {Γ : GE} {k : Nat}
theorem e_exf (i : Nat) (f : Str) : OkE Γ k (.exf i f) := by
  intro c R H0 W X S e h
  cases e <;> first | exact absurd h Bool.false_ne_true | skip
  rename_i b f' pos
  cases b <;> first | exact absurd h Bool.false_ne_true | skip
  rename_i x px
  obtain ⟨h, h5⟩ := and3 h
  obtain ⟨h, h4⟩ := and3 h
  obtain ⟨h, h3⟩ := and3 h
  obtain ⟨h1, h2⟩ := and3 h
  have e2 := of_decide_eq_true h2
  subst e2
  obtain ⟨a, xd, hcur, Y, oe, pn, cls, d, C, hX, hz, hf, hmg, hcls, hfc, hfl⟩ := S.cu h1
  have S' := S
  subst hX
  refine ⟨fun pins s σv H Qv I hw => ?_⟩
  obtain ⟨σ, G, Q, sr, ⟨a', xd', dv, q1, q2, q3, q⟩, out⟩ := hw
  rw [hcur] at q2
  cases q2
  obtain ⟨xc, hno⟩ := hfc f dv q3
  refine (pe_xf (X := Y) xc hno hz hf (S.var h3 h4 h5)).run pins s σv H Qv I ?_
  refine ⟨σ, G, fun x G1 => x = .ref a ∧ Q dv G1, sr, ⟨.ref a, q1, rfl, q⟩, fun x G1 v H1 q r s1 k1 => ?_⟩
  obtain ⟨ex, q⟩ := q
  subst ex
  rcases hfl with z | ⟨dd, fvs, ed, rdd, hdd, rf⟩
  · rw [z] at q3; cases q3
  · obtain ⟨fv, lk, rv⟩ := rf.get q3
    exact ⟨r, hcls, dd, fvs, fv, ed, (s1.kp.res dd rdd).trans hdd, lk, (out.back k1).now q (rv.keep s1.kp) s1⟩
/-- a list, a tuple, a text, by the value that comes -/
def iSeq (K : PySem.W.Frag) (tl : TE) : TI := fun σ H Rr => tl σ H fun x H1 => (∃ a, x = .ref a ∧ (((∃ xs, SqL K H1 a xs) ∧ Rr (Itl K a) H1) ∨ ((∃ xs, SqT K H1 a xs) ∧ Rr (Itt K a) H1))) ∨ ∃ z, x = .str z ∧ Rr (Its z) H1
theorem pi_seq {X : Cx} {tg l : Expr} {tl : TE} (hl : PE X l tl) : PI X tg l (iSeq X.K tl) := by
  refine ⟨fun pins s σ H Rr I h => thn (hl.run pins s σ H _ I h) fun v s1 ⟨x, H1, I1, r1, q1⟩ => ?_⟩
  rcases q1 with ⟨a, ex, q1⟩ | ⟨z, ex, q⟩
  · subst ex
    cases r1
    rcases q1 with ⟨⟨xs, sq⟩, q⟩ | ⟨⟨xs, sq⟩, q⟩
    · obtain ⟨its, _, pl, _⟩ := I1.list sq
      exact wpAny_pyIter_list pl.isList (pi_one (tk := s1.toks) I1 _ (turn_list a _) ⟨_, Heap.get?_push_size _ rfl, rfl, rfl⟩ q)
    · obtain ⟨its, _, pl, _⟩ := I1.tuple sq
      exact wpAny_pyIter_tuple (show s1.heap.IsTuple a its.toArray from pl) (pi_one (tk := s1.toks) I1 _ (turn_tuple a _) ⟨_, Heap.get?_push_size _ rfl, rfl, rfl⟩ q)
  · subst ex
    obtain ⟨t, rfl⟩ := r1
    cases hw : z.cps.all (· < 128) with
    | false => exact wpAny_pyIter_wide hw (pi_one (tk := s1.toks) I1 _ (turn_str _ z t "str_iterator" (.inr rfl)) ⟨_, Heap.get?_push_size _ rfl, rfl, rfl⟩ q)
    | true => exact wpAny_pyIter_ascii hw (pi_one (tk := s1.toks) I1 _ (turn_str _ z t "str_ascii_iterator" (.inl rfl)) ⟨_, Heap.get?_push_size _ rfl, rfl, rfl⟩ q)
theorem i_seq {m : ME} (hm : OkE Γ k m) : OkI Γ k (.seq m) := by
  intro c R H0 W X S tg e h
  obtain ⟨h1, h2⟩ := and3 h
  refine PII (pi_seq (hm S h2)) fun σv H Qv ⟨σ, G, Q, sr, t, out⟩ => ⟨σ, G, _, sr, t, fun x G1 v H1 q r s1 k1 => ?_⟩
  cases x with
  | tup ds =>
    obtain ⟨a, vs, e1, qa, rv⟩ := r
    exact .inl ⟨a, e1, .inr ⟨⟨vs, qa⟩, out _ _ _ _ _ q (wk_tup qa rv) s1 k1⟩⟩
  | lsv ds =>
    obtain ⟨a, vs, e1, qa, rv⟩ := r
    exact .inl ⟨a, e1, .inl ⟨⟨vs, qa.l⟩, out _ _ _ _ _ q (wk_lsv qa rv) s1 k1⟩⟩
  | ref a =>
    obtain ⟨ds, e1, q⟩ := q
    obtain ⟨vs, qa, rv⟩ := s1.sqL e1
    exact .inl ⟨a, r, .inl ⟨⟨vs, qa⟩, out _ _ _ _ _ q wk_lst s1 k1⟩⟩
  | str z => exact .inr ⟨z, r, out _ _ _ _ _ q wk_str s1 k1⟩
  | _ => exact False.elim q
theorem i_rev {m : ME} (hm : OkE Γ k m) : OkI Γ k (.rev m) := by
  intro c R H0 W X S tg e h
  cases e <;> first | exact absurd h Bool.false_ne_true | skip
  rename_i g args kws pos
  cases g <;> first | exact absurd h Bool.false_ne_true | skip
  rename_i x px
  rcases args with _ | ⟨a, _ | ⟨a2, args⟩⟩ <;> first | exact absurd h Bool.false_ne_true | skip
  cases kws with
  | cons _ _ => exact absurd h Bool.false_ne_true
  | nil =>
    obtain ⟨h, h5⟩ := and3 h
    obtain ⟨h, h4⟩ := and3 h
    obtain ⟨h, h3⟩ := and3 h
    obtain ⟨h1, h2⟩ := and3 h
    have e1 := of_decide_eq_true h1
    subst e1
    refine PII (RT.pi_revA (S.gl h3) (S.ok.bt _ (by decide +kernel)) (hm S h5) (star1 h4)) fun σv H Qv ⟨σ, G, Q, sr, t, out⟩ => ⟨σ, G, _, sr, t, fun x G1 v H1 q r s1 k1 => ?_⟩
    cases x with
    | tup ds =>
      obtain ⟨a, vs, e1, qa, rv⟩ := r
      exact ⟨a, vs, e1, .inr ⟨qa, out _ _ _ _ _ q (wk_revT qa rv rv.length) s1 k1⟩⟩
    | lsv ds =>
      obtain ⟨a, vs, e1, qa, rv⟩ := r
      exact ⟨a, vs, e1, .inl ⟨qa.l, out _ _ _ _ _ q (wk_revV qa rv rv.length) s1 k1⟩⟩
    | ref a =>
      obtain ⟨ds, e1, q⟩ := q
      obtain ⟨vs, qa, rv⟩ := s1.sqL e1
      exact ⟨a, vs, r, .inl ⟨qa, out _ _ _ _ _ q (wk_rev rv.length) s1 k1⟩⟩
    | _ => exact False.elim q
theorem isTup_of {tg : Expr} (h : isTup tg = true) : ∃ es j p, tg = .Tuple es j p := by
  cases tg <;> first | exact absurd h Bool.false_ne_true | exact ⟨_, _, _, rfl⟩
theorem i_enum {m : ME} (hm : OkE Γ k m) : OkI Γ k (.enum m) := by
  intro c R H0 W X S tg e h
  cases e <;> first | exact absurd h Bool.false_ne_true | skip
  rename_i g args kws pos
  cases g <;> first | exact absurd h Bool.false_ne_true | skip
  rename_i x px
  rcases args with _ | ⟨a, _ | ⟨a2, args⟩⟩ <;> first | exact absurd h Bool.false_ne_true | skip
  cases kws with
  | cons _ _ => exact absurd h Bool.false_ne_true
  | nil =>
    obtain ⟨h, h6⟩ := and3 h
    obtain ⟨h, h5⟩ := and3 h
    obtain ⟨h, h4⟩ := and3 h
    obtain ⟨h, h3⟩ := and3 h
    obtain ⟨h1, h2⟩ := and3 h
    have e1 := of_decide_eq_true h1
    subst e1
    obtain ⟨es, j, p, rfl⟩ := isTup_of h5
    refine PII (pi_enumA (S.gl h3) (S.ok.bt _ (by decide +kernel)) (pa_cons (hm S h6) pa_nil (star1 h4)) (star1 h4)) fun σv H Qv ⟨σ, G, Q, sr, t, out⟩ => ⟨σ, G, _, sr, t, fun x G1 v H1 q r s1 k1 => ?_⟩
    cases x with
    | ref a =>
      obtain ⟨ds, e1, q⟩ := q
      obtain ⟨vs, qa, rv⟩ := s1.sqL e1
      exact ⟨a, vs, by rw [show v = V.ref a from r], .inl ⟨qa, out _ _ _ _ _ q wk_enum s1 k1⟩⟩
    | tup ds =>
      obtain ⟨a, vs, e1, qa, rv⟩ := r
      exact ⟨a, vs, by rw [e1], .inr ⟨qa, out _ _ _ _ _ q (wk_enumT qa rv) s1 k1⟩⟩
    | _ => exact False.elim q
theorem i_zip {m n : ME} (hm : OkE Γ k m) (hn : OkE Γ k n) : OkI Γ k (.zip m n) := by
  intro c R H0 W X S tg e h
  cases e <;> first | exact absurd h Bool.false_ne_true | skip
  rename_i g args kws pos
  cases g <;> first | exact absurd h Bool.false_ne_true | skip
  rename_i x px
  rcases args with _ | ⟨a, _ | ⟨a2, _ | ⟨a3, args⟩⟩⟩ <;> first | exact absurd h Bool.false_ne_true | skip
  cases kws with
  | cons _ _ => exact absurd h Bool.false_ne_true
  | nil =>
    obtain ⟨h, h8⟩ := and3 h
    obtain ⟨h, h7⟩ := and3 h
    obtain ⟨h, h6⟩ := and3 h
    obtain ⟨h, h5⟩ := and3 h
    obtain ⟨h, h4⟩ := and3 h
    obtain ⟨h, h3⟩ := and3 h
    obtain ⟨h1, h2⟩ := and3 h
    have e1 := of_decide_eq_true h1
    subst e1
    obtain ⟨es, j, p, rfl⟩ := isTup_of h6
    refine PII (RZ.pi_zipA (S.gl h3) (S.ok.bt _ (by decide +kernel)) (pa_cons (hm S h7) (pa_cons (hn S h8) pa_nil (star1 h5)) (star1 h4)) (star1 h4) (star_any pos (es := [a2]) (by rw [List.all_cons, h5]; rfl))) fun σv H Qv ⟨σ, G, Q, sr, t, out⟩ => ?_
    refine ⟨σ, G, _, sr, t, fun x G1 v H1 q r s1 k1 => ⟨σ, G1, _, s1, q, fun y G2 w H2 q2 r2 s2 k2 => ?_⟩⟩
    have r' := r.keep k2
    cases x with
    | tup ds =>
      cases y with
      | tup es' =>
        obtain ⟨a, vs, e1, qa, rv⟩ := r'
        obtain ⟨b, ws, e2, qb, rw'⟩ := r2
        exact ⟨a, b, vs, ws, by rw [e1, e2], .inr ⟨qa, qb, out _ _ _ _ _ q2 (wk_zipT qa rv qb rw') s2 (k1.trans k2)⟩⟩
      | _ => exact False.elim q2
    | ref a =>
      cases y with
      | ref b =>
        obtain ⟨ds, es', e1, e2, q2⟩ := q2
        obtain ⟨vs, qa, rv⟩ := s2.sqL e1
        obtain ⟨ws, qb, rw'⟩ := s2.sqL e2
        exact ⟨a, b, vs, ws, by rw [show v = V.ref a from r, show w = V.ref b from r2], .inl ⟨qa, qb, out _ _ _ _ _ q2 wk_zip s2 (k1.trans k2)⟩⟩
      | _ => exact False.elim q2
    | _ => exact False.elim q2
theorem i_range {ms : MEs} (hm : OkAn Γ k ms) : OkI Γ k (.range ms) := by
  intro c R H0 W X S tg e h
  cases e <;> first | exact absurd h Bool.false_ne_true | skip
  rename_i g args kws pos
  cases g <;> first | exact absurd h Bool.false_ne_true | skip
  rename_i x px
  cases kws with
  | cons _ _ => exact absurd h Bool.false_ne_true
  | nil =>
    obtain ⟨h, h5⟩ := and3 h
    obtain ⟨h, h4⟩ := and3 h
    obtain ⟨h, h3⟩ := and3 h
    obtain ⟨h1, h2⟩ := and3 h
    obtain ⟨e1, h0⟩ := of_decide_eq_true h1
    subst e1
    have hn := chEs_n h5
    have hmN : X.mg "range" = none := S.ok.bt _ (by decide +kernel)
    rcases args with _ | ⟨a, _ | ⟨b, _ | ⟨d, _ | ⟨d4, args⟩⟩⟩⟩
    · exact ⟨fun pins s σv H Qv I ⟨σ, G, Q, sr, t, out⟩ => by
        cases ms with
        | cons _ _ => exact absurd h5 Bool.false_ne_true
        | nil => exact False.elim t⟩
    · obtain ⟨n1, _⟩ := star_hd h4
      refine PII (pi_range1 (S.gl h3) hmN (hm S h5) (star1 n1)) fun σv H Qv ⟨σ, G, Q, sr, t, out⟩ => ⟨σ, G, _, sr, t, fun ds G1 vs H1 q hl r s1 k1 => ?_⟩
      rcases ds with _ | ⟨x, _ | ⟨y, ds⟩⟩
      · rw [← hn] at hl; exact absurd hl (by simp)
      · obtain ⟨v, e1, r1⟩ := rps1 r
        subst e1
        cases x with
        | int j => exact ⟨j, by rw [show v = V.int j from r1], q.1, q.2.1, out _ _ _ _ _ q.2.2 wk_range s1 k1⟩
        | _ => exact False.elim q
      · rw [← hn] at hl; exact absurd hl (by simp)
    · obtain ⟨n1, n2⟩ := star_hd h4
      obtain ⟨n2, _⟩ := star_hd n2
      refine PII (pi_range2 (S.gl h3) hmN (hm S h5) (by rw [star1 n1, star1 n2]; rfl) (star1 n2)) fun σv H Qv ⟨σ, G, Q, sr, t, out⟩ => ⟨σ, G, _, sr, t, fun ds G1 vs H1 q hl r s1 k1 => ?_⟩
      rw [← hn] at hl
      rcases ds with _ | ⟨x, _ | ⟨y, _ | ⟨z, ds⟩⟩⟩
      · exact absurd hl (by simp)
      · exact absurd hl (by simp)
      · obtain ⟨v, w, e1, r1, r2⟩ := rps2 r
        subst e1
        cases x with
        | int i =>
          cases y with
          | int j => exact ⟨i, j, by rw [show v = V.int i from r1, show w = V.int j from r2], q.1, out _ _ _ _ _ q.2 wk_range s1 k1⟩
          | _ => exact False.elim q
        | _ => cases y <;> exact False.elim q
      · exact absurd hl (by simp)
    · obtain ⟨n1, n2⟩ := star_hd h4
      refine PII (pi_range3 (S.gl h3) hmN (hm S h5) (star1 n1) (star_any pos n2)) fun σv H Qv ⟨σ, G, Q, sr, t, out⟩ => ⟨σ, G, _, sr, t, fun ds G1 vs H1 q hl r s1 k1 => ?_⟩
      rw [← hn] at hl
      rcases ds with _ | ⟨x, _ | ⟨y, _ | ⟨z, _ | ⟨z4, ds⟩⟩⟩⟩
      · exact absurd hl (by simp)
      · exact absurd hl (by simp)
      · exact absurd hl (by simp)
      · obtain ⟨v, ws, e1, r1, rr⟩ := r
        obtain ⟨w, u, e2, r2, r3⟩ := rps2 rr
        subst e2
        cases x with
        | int i =>
          cases y with
          | int j =>
            cases z with
            | int l =>
              obtain ⟨n, hrg, q⟩ := q
              exact ⟨i, j, l, n, by rw [e1, show v = V.int i from r1, show w = V.int j from r2, show u = V.int l from r3], hrg, out _ _ _ _ _ q wk_rangeC s1 k1⟩
            | _ => exact False.elim q
          | _ => cases z <;> exact False.elim q
        | _ => cases y <;> cases z <;> exact False.elim q
      · exact absurd hl (by simp)
    · exact absurd h0 (by simp)
end
end DL

set_option Elab.async false
set_option linter.all false
set_option maxRecDepth 100000
set_option maxHeartbeats 4000000
/-! DL11b: isinstance of a caught exception; displays with starred items. -/
namespace DL
open PySem PySem.Spec PyProof.Rows L2
theorem call_exi {Y : Cx} {a C E dd : Addr} {oe : Obj} {pn : List (Addr × Obj)} {b : Bool} (hz : Zc (.ref C) (some dd) oe) (hf : ∃ vs, oe.data = .fields vs) (q : XisC Y.K C) (hk : PySem.W.kitOne Y.K (.ref C) (.ref E) = some b) :
    CallR (Y.suite a ((a, oe) :: pn)) (.builtin "isinstance") (fun xs H Q => xs = [.ref a, .ref E] ∧ (∃ fs, H dd = some (.xd fs)) ∧ Q (.bl b) H) := by
  intro pins s σ H xs us Q I r h
  obtain ⟨rfl, ⟨fs, ea⟩, q1⟩ := h
  obtain ⟨u1, u2, rfl, r1, r2⟩ := vals2 r
  obtain rfl : u1 = Value.ref a := r1
  obtain rfl : u2 = Value.ref E := r2
  obtain ⟨ha, _⟩ := I.pin (a, oe) (List.mem_append_left _ List.mem_cons_self)
  obtain ⟨vs, hd⟩ := hf
  have hx : ObjOk Y.prog Y.w H s.heap dd (.xd fs) := I.hok dd _ ea
  obtain ⟨mA, hns, _⟩ := hx
  obtain ⟨od, ho, _⟩ := lookIn_ns hns
  have J : PySem.W.InstAt s.heap a oe C (some od) := ⟨ha, hz.1, by unfold PySem.W.notCls; rw [hd] <;> rfl, by rw [hz.2]; exact ho⟩
  exact PySem.W.kia_one (PySem.W.kitx_exc q.cl q.ga q.gg q.ex q.ca q.cn q.ct q.mo) I.kIn J hk (fun z => nomatch z) fun tk => ⟨.bl b, H, I.tok tk, rfl, q1⟩
section
variable {Γ : GE} {k : Nat}
theorem e_exi (i : Nat) (y : Str) : OkE Γ k (.exi i y) := by
  intro c R H0 W X S e h
  have key : ∃ g px x pe pz pos, e = .Call (.Name g px) [.Name x pe, .Name y pz] [] pos ∧ g = "isinstance" ∧ c.su = true ∧ atN c i x = true ∧ visB c.sc x = true ∧ okName x = true ∧ glB c.sc g = true ∧ glB c.sc y = true ∧ okName y = true := by
    cases e <;> first | exact absurd h Bool.false_ne_true | skip
    rename_i g args kws pos
    cases g <;> first | exact absurd h Bool.false_ne_true | skip
    rename_i g px
    rcases args with _ | ⟨u, _ | ⟨v, _ | ⟨v3, args⟩⟩⟩ <;> first | exact absurd h Bool.false_ne_true | (cases u <;> exact absurd h Bool.false_ne_true) | skip
    · cases u <;> first | exact absurd h Bool.false_ne_true | skip
      rename_i x pe
      cases v <;> first | exact absurd h Bool.false_ne_true | skip
      rename_i z pz
      cases kws with
      | cons _ _ => exact absurd h Bool.false_ne_true
      | nil =>
        obtain ⟨h, h9⟩ := and3 h
        obtain ⟨h, h8⟩ := and3 h
        obtain ⟨h, h7⟩ := and3 h
        obtain ⟨h, h6⟩ := and3 h
        obtain ⟨h, h5⟩ := and3 h
        obtain ⟨h, h4⟩ := and3 h
        obtain ⟨h, h3⟩ := and3 h
        obtain ⟨h1, h2⟩ := and3 h
        have e1 := of_decide_eq_true h1
        have e2 := of_decide_eq_true h2
        subst e2
        exact ⟨g, px, x, pe, pz, pos, rfl, e1, h3, h4, h5, h6, h7, h8, h9⟩
    · cases u <;> first | exact absurd h Bool.false_ne_true | skip
      cases v <;> exact absurd h Bool.false_ne_true
  obtain ⟨g, px, x, pe, pz, pos, rfl, rfl, h1, h2, h3, h4, h5, h6, h7⟩ := key
  obtain ⟨a, xd, hcur, Y, oe, pn, cls, d, C, hX, hz, hf, hmg, hcls, hfc, hfl⟩ := S.cu h1
  have S' := S
  subst hX
  refine ⟨fun pins s σv H Qv I hw => ?_⟩
  obtain ⟨σ, G, Q, sr, ⟨a', xd', b, q1, q2, q3, q4, q⟩, out⟩ := hw
  rw [hcur] at q2
  cases q2
  obtain ⟨Cx, Cy, m1, m2, m3, m4⟩ := S.ok.exi _ _ _ q4
  rw [show (Y.suite a ((a, oe) :: pn)).mg = Y.mg from rfl] at m1 hmg
  rw [hmg] at m1
  cases m1
  rcases hfl with z | ⟨dd, fvs, ed, rdd, hdd, rf⟩
  · exact absurd z q3
  subst hcls ed
  have pev := S'.var (pos := pe) h2 h3 h4
  have peg : PE (Y.suite a ((a, oe) :: pn)) (.Name y pz) (tC (.ref Cy)) := pe_glob (S'.gl h6) m2 rfl (ok_d h7).1
  have pc := pe_callB (p := px) (pos := pos) (call_exi (Y := Y) (a := a) (pn := pn) hz hf m3 m4) (S'.gl h5) (S'.ok.bt _ (by decide +kernel)) boot_isinstance (pa_cons pev (pa_cons peg pa_nil rfl) rfl) (by decide) (by decide) rfl rfl
  refine pc.run pins s σv H Qv I ?_
  refine ⟨σ, G, fun x G1 => x = .ref a ∧ Q (.bl b) G1, sr, ⟨.ref a, q1, rfl, q⟩, fun x G1 v H1 q r s1 k1 => ?_⟩
  obtain ⟨ex, q⟩ := q
  subst ex
  cases r
  exact ⟨rfl, ⟨fvs, (s1.kp.res dd rdd).trans hdd⟩, (out.back k1).now q rfl s1⟩
/-! ### starred items -/
def OkZ (Γ : GE) (k : Nat) (z : MZ) : Prop := ∀ {c : CT} {R : Addr → Prop} {H0 : Hp} {W : WD} {X : Cx}, SX Γ k c R H0 W X → ∀ {es : List Expr}, chZ c z es = true → PA X es (lA X.K R H0 W (wpZ Γ z))
theorem z_nil : OkZ Γ k .nil := by
  intro c R H0 W X S es h
  cases es with
  | cons _ _ => exact absurd h Bool.false_ne_true
  | nil => exact PAi pa_nil fun σv H Qv ⟨σ, G, Q, sr, q, out⟩ => out [] G [] H q rfl sr .refl
theorem z_one {m : ME} {z : MZ} (hm : OkE Γ k m) (hz : OkZ Γ k z) : OkZ Γ k (.one m z) := by
  intro c R H0 W X S es h
  cases es with
  | nil => exact absurd h Bool.false_ne_true
  | cons e r =>
    obtain ⟨h, h3⟩ := and3 h
    obtain ⟨h1, h2⟩ := and3 h
    refine PAi (pa_cons (hm S h2) (hz S h3) (star1 h1)) fun σv H Qv ⟨σ, G, Q, sr, t, out⟩ => ?_
    exact ⟨σ, G, _, sr, t, fun x G1 v H1 q r s1 k1 => ⟨σ, G1, _, s1, q, fun ds G2 vs H2 q2 r2 s2 k2 => out (x :: ds) G2 (v :: vs) H2 q2 ⟨v, vs, rfl, r.keep k2, r2⟩ s2 (k1.trans k2)⟩⟩
theorem z_star {m : ME} {z : MZ} (hm : OkE Γ k m) (hz : OkZ Γ k z) : OkZ Γ k (.star m z) := by
  intro c R H0 W X S es h
  cases es with
  | nil => exact absurd h Bool.false_ne_true
  | cons e r =>
    cases e <;> first | exact absurd h Bool.false_ne_true | skip
    rename_i e p
    obtain ⟨h2, h3⟩ := and3 h
    refine PAi (StX.pa_star (hm S h2) (hz S h3) rfl) fun σv H Qv ⟨σ, G, Q, sr, t, out⟩ => ?_
    refine ⟨σ, G, _, sr, t, fun x G1 v H1 q r s1 k1 => ?_⟩
    cases x with
    | tup ds =>
      obtain ⟨a, vs, e1, qa, rv⟩ := r
      exact ⟨a, vs, e1, .inl qa, σ, G1, _, s1, q, fun es G2 ws H2 q2 r2 s2 k2 => out (ds ++ es) G2 (vs ++ ws) H2 q2 ((rv.keep k2).append r2) s2 (k1.trans k2)⟩
    | ref a =>
      obtain ⟨ds, e1, q⟩ := q
      obtain ⟨vs, qa, rv⟩ := s1.sqL e1
      exact ⟨a, vs, r, .inr qa, σ, G1, _, s1, q, fun es G2 ws H2 q2 r2 s2 k2 => out (ds ++ es) G2 (vs ++ ws) H2 q2 ((rv.keep k2).append r2) s2 (k1.trans k2)⟩
    | _ => exact False.elim q
theorem e_stup {z : MZ} (h : OkZ Γ k z) : OkE Γ k (.stup z) := by
  intro c R H0 W X S e hc
  cases e <;> first | exact absurd hc Bool.false_ne_true | skip
  rename_i vs kk pos
  refine PEi (pe_tup (h S hc)) fun σv H Qv ⟨σ, G, Q, sr, t, out⟩ => ⟨σ, G, _, sr, t, fun ds G1 us H1 q r1 s1 k1 => ⟨?_, ?_⟩⟩
  · rw [r1.length]; exact q.1
  · exact (out.back k1).tup q.2 r1 s1
theorem e_slst {z : MZ} (h : OkZ Γ k z) : OkE Γ k (.slst z) := by
  intro c R H0 W X S e hc
  cases e <;> first | exact absurd hc Bool.false_ne_true | skip
  rename_i vs pos
  refine PEi (pe_lst (h S hc)) fun σv H Qv ⟨σ, G, Q, sr, t, out⟩ => ⟨σ, G, _, sr, t, fun ds G1 us H1 q r1 s1 k1 => ⟨?_, ?_⟩⟩
  · rw [r1.length]; exact q.1
  · exact (out.back k1).lst q.2 r1 s1
end
end DL

set_option Elab.async false
set_option linter.all false
set_option maxRecDepth 100000
set_option maxHeartbeats 4000000
/-! DL12: comprehensions; expressions together. -/
namespace DL
open PySem PySem.Spec PyProof.Rows L2
theorem wipe_none {σ : L2.St} {i : Nat} : ∀ {vs : List Nat}, i ∈ vs → (wipe σ vs).set i none = wipe σ vs
  | [], h => by cases h
  | v :: vs, h => by
    show ((wipe σ vs).set v none).set i none = (wipe σ vs).set v none
    by_cases e : i = v
    · subst e; rw [List.set_set]
    · rw [List.set_comm _ _ (Ne.symm e), wipe_none (by rcases List.mem_cons.mp h with q | q; exact absurd q e; exact q)]
theorem wipe_idem_aux {σ : L2.St} (vs : List Nat) : ∀ ws : List Nat, (∀ i ∈ ws, i ∈ vs) → wipe (wipe σ vs) ws = wipe σ vs
  | [], _ => rfl
  | w :: ws, h => by
    show (wipe (wipe σ vs) ws).set w none = _
    rw [wipe_idem_aux vs ws fun i hi => h i (List.mem_cons_of_mem _ hi), wipe_none (h w List.mem_cons_self)]
theorem wipe_idem {σ : L2.St} (vs : List Nat) : wipe (wipe σ vs) vs = wipe σ vs := wipe_idem_aux vs vs fun _ h => h
theorem PEx {X : Cx} {e : Expr} {α : Type} {t : α → TE} (h : ∀ a, PE X e (t a)) : PE X e (fun σ H Q => ∃ a, t a σ H Q) := ⟨fun pins s σ H Q I ⟨a, k⟩ => (h a).run pins s σ H Q I k⟩
section
variable {Γ : GE} {k : Nat}
/-- within a comprehension -/
theorem SX.blk {c : CT} {R : Addr → Prop} {H0 : Hp} {W : WD} {X : Cx} (S : SX Γ k c R H0 W X) (hsu : c.su = false) {scope : Scope} (hk : scope.kind = .function) (R' : Addr → Prop) (H0' : Hp) (s : Shared) (H : Hp) (C : Addr) (cl : List (Str × Addr)) (fp : List Addr) :
    SX Γ k ⟨c.N, relS scope c.sc, scope, false, c.gcd⟩ R' H0' nowish (X.blk s H scope (compEnvC scope cl C X.env) fp) where
  N := S.N
  nd := S.nd
  sc := by show relS scope X.env.scope = relS scope c.sc; rw [S.sc]
  fk := hk
  fn := fun x h => by show (scope.names.lookup x == some .cell) = true; rw [show scope.names.lookup x = some .cell from h]; rfl
  un := S.un
  k2 := S.k2
  rm := fun _ => S.rm hsu
  cm := fun _ => S.cm hsu
  ok := S.ok
  tk := takes_none5.imp fun _ _ _ _ ⟨_, _, _, z, _⟩ => z
  cu := fun h => absurd h Bool.false_ne_true
  ph := ⟨S.ph.tr, S.ph.dp, S.ph.fr, S.ph.ns⟩
theorem chI_set {c : CT} {it : MI} {e tg : Expr} (h : chI c it e tg = true) : noSet e = true := by
  cases it with
  | seq m => exact (and3 h).1
  | _ => cases e <;> first | rfl | exact absurd h Bool.false_ne_true
/-- what the layer's comprehension rules ask -/
structure LcP (X : Cx) (own : List (Str × Nat)) (tq : TE) (x tg iter : Expr) (ifs : List Expr) (scope : Scope) (wi : TI) (g : TG) (tt : TT) (te : TE) : Prop where
  pi : PI X tg iter wi
  blk : BlkOk X.N X.env.scope scope own
  pg : ∀ (s : Shared) (H : Hp) (C : Addr) (cl : List (Str × Addr)) (fp : List Addr), PG (X.blk s H scope (compEnvC scope cl C X.env) fp) tg g
  pt : ∀ (s : Shared) (H : Hp) (C : Addr) (cl : List (Str × Addr)) (fp : List Addr), PTs (X.blk s H scope (compEnvC scope cl C X.env) fp) ifs tt
  pe : ∀ (s : Shared) (H : Hp) (C : Addr) (cl : List (Str × Addr)) (fp : List Addr), PE (X.blk s H scope (compEnvC scope cl C X.env) fp) x te
  set : ∀ v, foldedSetIterable iter X.env v = pure v
  rd : ∀ σ H Q, tq σ H Q → tLc wi g tt te (own.map (·.2)) σ H Q
theorem lc_parts (own : List (Str × Nat)) {g : MG} {it : MI} {t : MO} {el : ME} (hI : OkI Γ k it) (hG : OkG Γ k g) (hC : OkC Γ k t) (hE : OkE Γ k el) {c : CT} {R : Addr → Prop} {H0 : Hp} {W : WD} {X : Cx} (S : SX Γ k c R H0 W X) {e : Expr} (h : chE c (.lc own g it t el) e = true) :
    ∃ x tg iter ifs scope pos wi g' tt te, e = .ListComp x [⟨tg, iter, ifs, 0⟩] scope pos ∧ c.su = false ∧ LcP X own (lE X.K R H0 W (wpE Γ (.lc own g it t el))) x tg iter ifs scope wi g' tt te := by
  have key : ∃ x tg iter ifs scope pos, e = .ListComp x [⟨tg, iter, ifs, 0⟩] scope pos ∧ c.su = false ∧ blkC c.N c.sc scope own = true ∧ chI c it iter tg = true ∧ chG ⟨c.N, relS scope c.sc, scope, false, c.gcd⟩ g tg = true ∧ ownB own g = true ∧
      chC ⟨c.N, relS scope c.sc, scope, false, c.gcd⟩ t ifs = true ∧ chE ⟨c.N, relS scope c.sc, scope, false, c.gcd⟩ el x = true := by
    cases e <;> first | exact absurd h Bool.false_ne_true | skip
    rename_i x gens scope pos
    rcases gens with _ | ⟨⟨tg, iter, ifs, as⟩, _ | ⟨g2, gens⟩⟩
    · exact absurd h Bool.false_ne_true
    · by_cases ea : as = 0
      · subst ea
        obtain ⟨h, h7⟩ := and3 h
        obtain ⟨h, h6⟩ := and3 h
        obtain ⟨h, h5⟩ := and3 h
        obtain ⟨h, h4⟩ := and3 h
        obtain ⟨h, h3⟩ := and3 h
        obtain ⟨h1, h2⟩ := and3 h
        exact ⟨x, tg, iter, ifs, scope, pos, rfl, S.suB h1, h2, h3, h4, h5, h6, h7⟩
      · exact absurd h (by simp [chE, ea])
    · exact absurd h (by simp [chE])
  obtain ⟨x, tg, iter, ifs, scope, pos, rfl, hsu, h2, h3, h4, h5, h6, h7⟩ := key
  have blk : BlkOk X.N X.env.scope scope own := by rw [S.N, S.sc]; exact blkOk_by h2
  have sx := fun (R' : Addr → Prop) (H0' : Hp) => S.blk hsu blk.kind R' H0'
  refine ⟨x, tg, iter, ifs, scope, pos, _, fun v σ H Q => ∃ p : (Addr → Prop) × Hp, lG X.K p.1 p.2 nowish (some own) (wpG Γ g) v σ H Q, fun σ H Q => ∃ p : (Addr → Prop) × Hp, lT X.K p.1 p.2 nowish (wpC Γ t) σ H Q,
    fun σ H Q => ∃ p : (Addr → Prop) × Hp, lE X.K p.1 p.2 nowish (wpE Γ el) σ H Q, rfl, hsu, hI S h3, blk, fun s H C cl fp => ?_, fun s H C cl fp => ?_, fun s H C cl fp => ?_, set_plain (chI_set h3), ?_⟩
  · exact ⟨fun pins s' σ H' v u Q I r ⟨p, z⟩ => (hG (sx p.1 p.2 s H C cl fp) (o := some own) (fun o e => by cases e; exact h5) h4).run pins s' σ H' v u Q I r z⟩
  · exact ⟨fun pins s' σ H' Q I ⟨p, z⟩ => (hC (sx p.1 p.2 s H C cl fp) h6).run pins s' σ H' Q I z⟩
  · exact PEx fun p => hE (sx p.1 p.2 s H C cl fp) h7
  intro σv H Qv ⟨σ, G, Q, sr, t', out⟩
  refine ⟨σ, G, _, sr, t', fun ds src G1 H1 J ⟨hlen, q⟩ wk s1 k1 Da hD => ?_⟩
  have hRD : ¬ R Da := fun r => s1.nres Da r hD
  have hs := sizeLine_eq
  generalize hgg : (fun (d : D) (σ1 : Sg) (G2 : DH) (K : Sg → DH → Prop) => wpG Γ g d nowish σ1 G2 K) = gg at q
  generalize htt : (fun (σ1 : Sg) (G2 : DH) (K : Bool → DH → Prop) => wpC Γ t nowish σ1 G2 K) = ttt at q
  generalize hee : (fun (σ1 : Sg) (G2 : DH) (K : QD) => wpE Γ el nowish σ1 G2 K) = eee at q
  generalize hQQ : (fun (acc : List D) (G2 : DH) => ∀ p, G2 p = none → Q (.ref p) (put G2 p (.lst acc))) = QQ at q
  refine ⟨fun i m H2 => m + i = ds.length ∧ ∃ G2 acc vacc, SR X.K R H0 σ G2 σv H2 ∧ G2 Da = none ∧ H2 Da = some (.lst vacc) ∧ Rps X.K H2 acc vacc ∧ acc.length ≤ i ∧ Keep R H1 H2 ∧ lcD src gg ttt eee QQ (wipeD σ own) (ds.drop i) acc G2,
    ⟨ds.length, rfl, G1, [], [], s1.hid hD, s1.free hD, upd_same, rfl, Nat.le_refl _, Keep.new hD s1.nres, q⟩, ?_⟩
  rintro i m H2 ⟨hm, G2, acc, vacc, s2, gD, hDa, racc, hal, k2, q2⟩
  by_cases hi : i < ds.length
  · right
    rw [List.drop_eq_getElem_cons hi] at q2
    obtain ⟨so, q2⟩ := q2
    have hd : ds[i]? = some ds[i] := by simp [hi]
    refine ⟨wk.go i G2 H2 hi s2.gr so k2.t, fun H' => ∃ G2 acc vacc, SR X.K R H0 σ G2 σv H' ∧ G2 Da = none ∧ H' Da = some (.lst vacc) ∧ Rps X.K H' acc vacc ∧ acc.length ≤ i + 1 ∧ Keep R H1 H' ∧ lcD src gg ttt eee QQ (wipeD σ own) (ds.drop (i + 1)) acc G2,
      fun H' hN => ⟨m - 1, by omega, by omega, hN⟩, fun x H3 y => ?_⟩
    have hR' : ∀ a, (R a ∨ a = Da) → H2 a ≠ none ∧ G2 a = none := fun a r => by
      rcases r with r | r
      · exact s2.rs a r
      · rw [r, hDa]; exact ⟨fun z => (by cases z), gD⟩
    have si : SR X.K (fun a => R a ∨ a = Da) H2 (wipeD σ own) G2 (wipe σv (own.map (·.2))) H2 := (s2.wiped own).resv hR'
    obtain ⟨s3, r3, k3⟩ := wk.next hd si so k2.t y
    subst hgg htt hee
    refine ⟨⟨_, H2⟩, ds[i], wipeD σ own, G2, _, r3, s3, q2, fun σ4 G4 σv4 H4 q4 s4 k4 o4 => ⟨?_, ⟨_, H2⟩, σ4, G4, _, s4, q4, fun b G5 H5 q5 s5 k5 => ?_⟩⟩
    · have : wipe σv4 (own.map (·.2)) = wipe (wipe σv (own.map (·.2))) (own.map (·.2)) := o4
      rw [this, wipe_idem]
    · have kk5 := (k3.trans k4).trans k5
      cases b with
      | false =>
        exact ⟨G5, acc, vacc, s2.after s5.gR kk5 fun a r => .inl r, s5.gR.2 Da (.inr rfl), (kk5.res Da (.inr rfl)).trans hDa, racc.keep kk5, Nat.le_succ_of_le hal, k2.trans (kk5.mono fun a r => .inl r), q5⟩
      | true =>
        refine ⟨⟨_, H2⟩, σ4, G5, _, s5, q5, fun yd G6 v H6 q6 r6 s6 k6 => ?_⟩
        have kk6 := kk5.trans k6
        have hD6 : H6 Da = some (.lst vacc) := (kk6.res Da (.inr rfl)).trans hDa
        have so6 := s2.after s6.gR kk6 fun a r => .inl r
        obtain ⟨s7, k7⟩ := so6.hidw (o := .lst (vacc ++ [v])) hD6 (s6.gR.2 Da (.inr rfl)) hRD (fun _ z => nomatch z) (fun _ _ z => nomatch z)
        refine ⟨vacc, hD6, by rw [racc.length]; omega, G6, acc ++ [yd], vacc ++ [v], s7, s6.gR.2 Da (.inr rfl), upd_same, ((racc.keep kk6).append (Rps.one r6)).keep k7, by simp; omega, (k2.trans (kk6.mono fun a r => .inl r)).trans k7, q6⟩
  · left
    have e : i = ds.length := by omega
    subst e
    rw [List.drop_length] at q2
    obtain ⟨so, q2⟩ := q2
    refine ⟨wk.stop G2 H2 s2.gr so k2.t, ?_⟩
    subst hQQ
    exact out (.ref Da) (put G2 Da (.lst acc)) (.ref Da) H2 (q2 Da gD) rfl (s2.shown ⟨vacc, hDa, racc⟩ hRD) (k1.trans k2)
theorem e_lc (own : List (Str × Nat)) {g : MG} {it : MI} {t : MO} {el : ME} (hI : OkI Γ k it) (hG : OkG Γ k g) (hC : OkC Γ k t) (hE : OkE Γ k el) : OkE Γ k (.lc own g it t el) := by
  intro c R H0 W X S e h
  obtain ⟨x, tg, iter, ifs, scope, pos, wi, g', tt, te, rfl, hsu, p⟩ := lc_parts own hI hG hC hE S h
  exact PEi (pe_lc (S.cm hsu) (by rw [S.N]; exact S.nd) p.pi p.blk p.pg p.pt p.pe p.set) p.rd
end
end DL

set_option Elab.async false
set_option linter.all false
set_option maxRecDepth 100000
set_option maxHeartbeats 4000000
/-! DL13: the small language's expressions are sound. -/
namespace DL
open PySem PySem.Spec PyProof.Rows L2
section
variable (Γ : GE) (k : Nat)
theorem e_dct0 : OkE Γ k .dct0 := by
  intro c R H0 W X S e h
  cases e <;> first | exact absurd h Bool.false_ne_true | skip
  rename_i ks vs pos
  cases ks <;> cases vs <;> first | exact absurd h Bool.false_ne_true | skip
  exact PEi pe_dnewK fun σv H Qv ⟨σ, G, Q, sr, q, out⟩ p hp => out _ _ _ _ (q p (sr.free hp)) rfl (sr.new hp ⟨[], upd_same, rfl⟩) (Keep.new hp sr.nres)
theorem t_never {m : ME} (h : ∀ W σ G Q, ¬ wpT Γ m W σ G Q) : OkT Γ k m := fun _ _ _ => PT_never fun _ _ _ ⟨_, _, _, _, z, _⟩ => h _ _ _ _ z
theorem t_bin {Γ : GE} {k : Nat} (op : Operator) {a b : ME} (ha : OkE Γ k a) (hb : OkE Γ k b) : OkT Γ k (.bin op a b) := by
  intro c R H0 W X S e h
  have := e_bin op ha hb S h
  cases e <;> first | exact absurd h Bool.false_ne_true | skip
  exact lTr this rfl fun _ _ _ z => z
mutual
theorem okE : (m : ME) → OkE Γ k m
  | .var i => e_var i
  | .non => e_non
  | .bl b => e_bl b
  | .int i => e_int i
  | .str s => e_str s
  | .bin op a b => e_bin op (okE a) (okE b)
  | .neg a => e_neg (okE a)
  | .cmp op a b => (e_cmp op (okE a) (okE b)).1
  | .chain op op' a b d => (e_chain op op' (okE a) (okE b) (okE d)).1
  | .and es => e_and (okAnd es)
  | .or es => e_or (okOr es)
  | .not a => e_notE (okE a)
  | .ifx t a b => e_ifE (okT t) (okE a) (okE b)
  | .tup es => e_tup (okAs es)
  | .lst es => e_lst (okAs es)
  | .dct0 => e_dct0 Γ k
  | .ix a i => e_ix (okE a) (okE i)
  | .slc a lo hi => e_slc (okE a) (okO lo) (okO hi)
  | .revl a => e_revl (okE a)
  | .call f es => e_call (okAs es)
  | .callk f es ks kes => e_callk (okAs es) (okKs kes)
  | .bi b es => e_bi b (OkAn.pl (okAs es))
  | .isi a t => e_isi t (okE a)
  | .meth m o es => e_meth m (okE o) (OkAn.pl (okAs es))
  | .lc own g it t e => e_lc own (okI it) (okG g) (okC t) (okE e)
  | .glob x => e_glob x
  | .fstr es => e_fstr (okJ es)
  | .fmt a => e_fmt (okE a)
  | .exf i f => e_exf i f
  | .exi i x => e_exi i x
  | .stup z => e_stup (okZ z)
  | .slst z => e_slst (okZ z)
theorem okZ : (z : MZ) → OkZ Γ k z
  | .nil => z_nil
  | .one m z => z_one (okE m) (okZ z)
  | .star m z => z_star (okE m) (okZ z)
theorem okT : (m : ME) → OkT Γ k m
  | .var i => t_var i
  | .non => t_never Γ k (m := .non) fun _ _ _ _ z => z
  | .bl b => e_bl_T b
  | .int i => t_never Γ k (m := .int i) fun _ _ _ _ z => z
  | .str s => t_never Γ k (m := .str s) fun _ _ _ _ z => z
  | .bin op a b => t_bin op (okE a) (okE b)
  | .neg a => t_never Γ k (m := .neg a) fun _ _ _ _ z => z
  | .cmp op a b => (e_cmp op (okE a) (okE b)).2
  | .chain op op' a b d => (e_chain op op' (okE a) (okE b) (okE d)).2
  | .and es => t_and (okTAnd es)
  | .or es => t_or (okTOr es)
  | .not a => e_not (okT a)
  | .ifx t a b => e_ifT (okT t) (okT a) (okT b)
  | .tup es => t_never Γ k (m := .tup es) fun _ _ _ _ z => z
  | .lst es => t_never Γ k (m := .lst es) fun _ _ _ _ z => z
  | .dct0 => t_never Γ k (m := .dct0) fun _ _ _ _ z => z
  | .ix a i => t_ix (okE a) (okE i)
  | .slc a lo hi => t_never Γ k (m := .slc a lo hi) fun _ _ _ _ z => z
  | .revl a => t_never Γ k (m := .revl a) fun _ _ _ _ z => z
  | .call f es => t_call (okAs es)
  | .callk f es ks kes => t_callk (okAs es) (okKs kes)
  | .bi b es => t_bi b (OkAn.pl (okAs es))
  | .isi a t => t_isi t (okE a)
  | .meth m o es => t_never Γ k (m := .meth m o es) fun _ _ _ _ z => z
  | .lc own g it t e => t_never Γ k (m := .lc own g it t e) fun _ _ _ _ z => z
  | .glob x => t_never Γ k (m := .glob x) fun _ _ _ _ z => z
  | .fstr es => t_never Γ k (m := .fstr es) fun _ _ _ _ z => z
  | .fmt a => t_never Γ k (m := .fmt a) fun _ _ _ _ z => z
  | .exf i f => t_never Γ k (m := .exf i f) fun _ _ _ _ z => z
  | .exi i x => t_never Γ k (m := .exi i x) fun _ _ _ _ z => z
  | .stup s => t_never Γ k (m := .stup s) fun _ _ _ _ z => z
  | .slst s => t_never Γ k (m := .slst s) fun _ _ _ _ z => z
theorem okAs : (ms : MEs) → OkAn Γ k ms
  | .nil => an_nil
  | .cons m ms => an_cons (okE m) (okAs ms)
theorem okKs : (ms : MEs) → OkK Γ k ms
  | .nil => k_nil
  | .cons m ms => k_cons (okE m) (okKs ms)
theorem okAnd : (ms : MEs) → OkB (Γ := Γ) (k := k) .And (wpAnd Γ) ms
  | .nil => b_and_nil
  | .cons m ms => b_and_cons (okE m) (okAnd ms)
theorem okOr : (ms : MEs) → OkB (Γ := Γ) (k := k) .Or (wpOr Γ) ms
  | .nil => b_or_nil
  | .cons m ms => b_or_cons (okE m) (okOr ms)
theorem okTAnd : (ms : MEs) → OkBT (Γ := Γ) (k := k) .And (wpTAnd Γ) ms
  | .nil => t_and_nil
  | .cons m ms => t_and_cons (okT m) (okTAnd ms)
theorem okTOr : (ms : MEs) → OkBT (Γ := Γ) (k := k) .Or (wpTOr Γ) ms
  | .nil => t_or_nil
  | .cons m ms => t_or_cons (okT m) (okTOr ms)
theorem okJ : (ms : MEs) → OkJ Γ k ms
  | .nil => j_nil
  | .cons m ms => j_cons (okE m) (okJ ms)
theorem okO : (m : MO) → OkO Γ k m
  | .none => o_none
  | .some m => o_some (okE m)
theorem okC : (m : MO) → OkC Γ k m
  | .none => c_none
  | .some m => c_some (okT m)
theorem okG : (m : MG) → OkG Γ k m
  | .name i => g_name i
  | .tup gs => g_tup (okGs gs)
  | .sub o i => g_sub (okE o) (okE i)
theorem okGs : (ms : MGs) → OkGs Γ k ms
  | .nil => gs_nil
  | .cons g gs => gs_cons (okG g) (okGs gs)
theorem okI : (m : MI) → OkI Γ k m
  | .seq m => i_seq (okE m)
  | .range ms => i_range (okAs ms)
  | .enum m => i_enum (okE m)
  | .zip a b => i_zip (okE a) (okE b)
  | .rev m => i_rev (okE m)
end
end
end DL

set_option Elab.async false
set_option linter.all false
set_option maxRecDepth 100000
set_option maxHeartbeats 4000000
/-! DL14: a try with several clauses, each with a name or without, whose suites return. -/
namespace DL
open PySem PySem.Spec PyProof.Rows L2
/-- a clause: its class, its name's slot, the suite's reading -/
abbrev Cl := Value × Option Nat × (Addr → Value → Option Addr → TS)
def slotAs (i : Option Nat) (a : Addr) (σ : L2.St) : L2.St := match i with
  | none => σ
  | some i => σ.set i (some (.ref a))
/-- only a return ends the suite -/
def retOnly (D : Ends) : Ends := { nx := fun _ _ => False, rt := D.rt, bk := fun _ _ => False, ct := fun _ _ => False }
def wMix (K : PySem.W.Frag) (Wo : WX) (D : Ends) : List Cl → WX
  | [] => Wo
  | (c, i, ts) :: rest => fun cls d σ H => ∃ b, PySem.W.exmOne K cls c = some b ∧ (b = true → ∀ a, H a = none → ts a cls d (retOnly D) (slotAs i a σ) H) ∧ (b = false → wMix K Wo D rest cls d σ H)
/-- the name of a clause -/
def AsOk (X : Cx) (nm : Option Str) (i : Option Nat) : Prop := match nm, i with
  | none, none => True
  | some n, some i => X.N[i]? = some n ∧ X.env.scope.names.lookup n = some .local
  | _, _ => False
inductive MixOk (X : Cx) : List ExceptHandler → List Cl → Prop
  | nil : MixOk X [] []
  | cons {x : Str} {c : Value} {i : Option Nat} {nm : Option Str} {ts : Addr → Value → Option Addr → TS} {b₀ : Stmt} {np hp : Pos} {hds : List ExceptHandler} {cl : List Cl} (hc : Names X x c) (hn : AsOk X nm i)
      (su : ∀ (a : Addr) (oe : Obj) (cls : Value) (d : Option Addr) (pn : List (Addr × Obj)), Zc cls d oe → (∃ vs, oe.data = .fields vs) → PSs (X.suite a ((a, oe) :: pn)) [b₀] (ts a cls d)) (rest : MixOk X hds cl) :
      MixOk X (.ExceptHandler (some (.Name x np)) nm [b₀] hp :: hds) ((c, i, ts) :: cl)
section
variable {X : Cx}
/-- the clauses, looked at one after another; the exception has come down into this frame -/
theorem mix_go {pins : List (Addr × Obj)} {σ1 : L2.St} {H1 : Hp} {sI s1 : Shared} {B h3 : Heap} {a : Addr} {cls : Value} {d : Option Addr} {Wo : WX} {D : Ends} (ok : X.Ok) (hNd : X.N.Nodup) (stk : X.stack = X.env :: X.outer) (frm : X.env.frame = some X.env.locals) (tk : Takes X Wo)
    (J : Inv X pins σ1 H1 sI) (nb : ∀ b o, sI.heap.get? b = some o → b ∉ frs X.stack → B.get? b = some o) (up : sI.heap.UpToSlots h3) (fl : HandSPX.FlyingZ B (X.env :: X.outer) a (Zc cls d) h3) (na : H1 a = none) (os : s1.os = sI.os) (ag : AllBare s1.gens) :
    ∀ {hds : List ExceptHandler} {cl : List Cl}, MixOk X hds cl → wMix X.K Wo D cl cls d σ1 H1 → wpAny (model X.prog X.w) X.A (handleBy (.ref a) X.env hds) (SP X pins D) X.xe { s1 with heap := h3 } := by
  have J3 : Inv X pins σ1 H1 { s1 with heap := h3 } := J.landed nb fl.1 up os ag
  obtain ⟨oe, vs, he, hz, hd⟩ := fl.there
  have out : a ∉ frs (X.env :: X.outer) := fun hm => by
    obtain ⟨_, o', e', hnf⟩ := fl.2.2.1.mem hm
    rw [he] at e'; cases e'
    exact hnf _ hd
  have nL : a ≠ X.env.locals := fun z => out (List.mem_filterMap.mpr ⟨X.env, List.mem_cons_self, by rw [frm, z]⟩)
  have nF : a ∉ X.fs := fun hm => by
    obtain ⟨e, h1, h2⟩ := List.mem_filterMap.mp hm
    exact out (List.mem_filterMap.mpr ⟨e, List.mem_cons_of_mem _ h1, h2⟩)
  have S3 := J3.suite he hd na nL nF
  intro hds cl hk
  induction hk with
  | nil =>
    intro w
    refine wpAny_handleBy_nil ?_
    obtain ⟨_, _, _, o5, v5, T5, _, _, e5, _, d5, f5, _⟩ := id fl
    unfold PySem.passOn
    refine wpAny_bind (wpAny_field e5 d5 f5 ?_)
    rw [if_neg (show ¬ ((Value.ref T5 == Value.none) = true) from by simp)]
    have fin : wpAny (model X.prog X.w) X.A (setFlight (.ref a) X.env.frame) (fun _ s4 => wpAny (model X.prog X.w) X.A (throw (.ref a) : Sem Flow) (SP X pins D) X.xe s4) X.xe { s1 with heap := h3 } := by
      rw [frm]
      exact HandSPX.setFlight_upZ fl fun h4 held up4 => wpAny_throw (tk _ _ ⟨a, B, sI, pins, σ1, H1, cls, d, rfl, J, nb, up.trans up4, .inr (.inr (by rw [stk]; exact held)), na, os, ag, w⟩)
    first
      | exact wpAny_bind (wpAny_pure (wpAny_bind fin))
      | exact wpAny_bind fin
  | @cons x c i nm ts b₀ np hp hds' cl' hc hn su rest ih =>
    intro w
    obtain ⟨b, eb, yes, no⟩ := w
    refine wpAny_handleBy_cons (codeAny_handlers_test ?_) (by intro q; cases q)
    have LT : PySem.W.Looks (model X.prog X.w) h3 (typeOf (.ref a)) cls := fun A Q E s k q => wpAny_typeOf_ref (k _ _ he) (by rw [hz.1]; exact q)
    have LM := PySem.W.exm_one (M := model X.prog X.w) J3.kIn LT eb
    have name : ∀ {Q : Value → Shared → Prop} {E : Value → Shared → Prop}, Q c { s1 with heap := h3 } → wpAny (model X.prog X.w) (X.A.mark (some (.ref a))) (eval (.Name x np) X.env) Q E { s1 with heap := h3 } := fun {Q E} q => by
      obtain ⟨hg, hdb, hm | ⟨hm, hv, hnn⟩⟩ := hc
      · exact ld_glob (X := X.suite a ((a, oe) :: (X.pn ++ pins))) S3 hg hm q hdb
      · exact ld_blt (X := X.suite a ((a, oe) :: (X.pn ++ pins))) S3 hg hm hv q hnn hdb
    refine name (LM.here ?_)
    cases b with
    | false => exact ih (no rfl)
    | true =>
      have run := yes rfl a na
      cases nm with
      | none =>
        cases i with
        | some _ => exact False.elim hn
        | none =>
          refine codeAny_handlers_suite (HandSPX.lands_againZ fl fun h4 fl4 up4 => ?_)
          obtain ⟨o4, v4, he4, hz4, hd4⟩ := fl4.there
          have J4 : Inv X pins σ1 H1 { s1 with heap := h4 } := J.landed nb fl4.1 (up.trans up4) os ag
          have S4 := J4.suite he4 hd4 na nL nF
          refine wpAny_mono ((su a o4 cls d (X.pn ++ pins) hz4 ⟨_, hd4⟩).run [] _ _ H1 _ S4 run) (fun f s6 end6 => ?_) (fun _ _ z => z.elim)
          cases f with
          | ret u =>
            obtain ⟨v, σ6, H6, S6, r6, q6⟩ := end6
            exact ⟨v, σ6, H6, S6.unsuite ok, r6, q6⟩
          | next => obtain ⟨_, _, _, z⟩ := end6; exact False.elim z
          | brk => obtain ⟨_, _, _, z⟩ := end6; exact False.elim z
          | cont => obtain ⟨_, _, _, z⟩ := end6; exact False.elim z
      | some n =>
        cases i with
        | none => exact False.elim hn
        | some i =>
          obtain ⟨hi, hl⟩ := hn
          refine codeAny_handlers_suite_as (HandSPX.lands_againZ fl fun h4 fl4 up4 => ?_)
          obtain ⟨o4, v4, he4, hz4, hd4⟩ := fl4.there
          have J4 : Inv X pins σ1 H1 { s1 with heap := h4 } := J.landed nb fl4.1 (up.trans up4) os ag
          have S4 := J4.suite he4 hd4 na nL nF
          refine store_ok (X := X.suite a ((a, o4) :: (X.pn ++ pins))) (v := .ref a) S4 hNd hi (.inl hl) rfl (fun s5 S5 => ?_) (.inr hl)
          refine wpAny_mono ((su a o4 cls d (X.pn ++ pins) hz4 ⟨_, hd4⟩).run [] s5 _ H1 _ S5 run) (fun f s6 end6 => ?_) (fun _ _ z => z.elim)
          cases f with
          | ret u =>
            obtain ⟨v, σ6, H6, S6, r6, q6⟩ := end6
            exact gone_ok (S6.unsuite ok) hNd hi hl fun s7 J7 => ⟨v, _, H6, J7, r6, q6⟩
          | next => obtain ⟨_, _, _, z⟩ := end6; exact False.elim z
          | brk => obtain ⟨_, _, _, z⟩ := end6; exact False.elim z
          | cont => obtain ⟨_, _, _, z⟩ := end6; exact False.elim z
theorem ps_try_mix {body : List Stmt} {hd : ExceptHandler} {hds : List ExceptHandler} {cl : List Cl} {pos : Pos} {tb : WX → TS} {Wo : WX} (stk : X.stack = X.env :: X.outer) (frm : X.env.frame = some X.env.locals) (hNd : X.N.Nodup) (tk : Takes X Wo)
    (hb : ∀ (W : WX) (pn : List (Addr × Obj)) (xe : Value → Shared → Prop), Takes (X.tr pn xe) W → PassesOwn (model X.prog X.w) X.A X.env xe → PSs (X.tr pn xe) body (tb W))
    (hh : MixOk X (hd :: hds) cl) : PS X (.Try body (hd :: hds) [] [] pos) (fun D σ H => tb (wMix X.K Wo D cl) D σ H) := by
  refine ⟨fun pins s σ H D I h => wpAny_Try_except ?_⟩
  have ok := I.ok
  have frames : X.A.frames = some (X.env :: X.outer) := by rw [ok.frames, stk]
  have it := hb (wMix X.K Wo D cl) (X.pn ++ pins) (fun e s₁ => wpAny (model X.prog X.w) X.A (noteFrame e X.env) (fun _ s₂ => wpAny (model X.prog X.w) X.A (setFlight e none) (fun _ s₃ =>
    wpAny (model X.prog X.w) X.A (handleBy e X.env (hd :: hds)) (SP X pins D) X.xe s₃) X.xe s₂) X.xe s₁)
    (fun u s' air => by
      obtain ⟨a, B, sI, pins', σ1, H1, cls, d, rfl, J', nb, up, sky, na, os, ag, w⟩ := air
      have J : Inv X pins σ1 H1 sI := J'.ofTry ok
      have sky' : Sky B (X.env :: X.outer) a (Zc cls d) X.env.locals s'.heap := by rw [← stk]; exact sky
      exact Sky.land Zc.steady frames frm sky' fun h3 fl up3 => mix_go ok hNd stk frm tk J nb (up.trans up3) fl na os ag hh w)
    PassesOwn.looking
  refine wpAny_mono (it.run [] s σ H D (I.toTry _) h) (fun f s1 end1 => ?_) (fun e s1 he => he)
  cases f with
  | next =>
    obtain ⟨σ2, H2, J2, q⟩ := end1
    exact wpAny_execs_nil ⟨σ2, H2, J2.ofTry ok, q⟩
  | brk => obtain ⟨σ2, H2, J2, q⟩ := end1; exact ⟨σ2, H2, J2.ofTry ok, q⟩
  | cont => obtain ⟨σ2, H2, J2, q⟩ := end1; exact ⟨σ2, H2, J2.ofTry ok, q⟩
  | ret u => obtain ⟨v, σ2, H2, J2, r, q⟩ := end1; exact ⟨v, σ2, H2, J2.ofTry ok, r, q⟩
end
end DL

set_option Elab.async false
set_option linter.all false
set_option maxRecDepth 100000
set_option maxHeartbeats 4000000
/-! DL15: the checker of statements. -/
namespace DL
open PySem PySem.Spec PyProof.Rows L2
def isName : Expr → Bool
  | .Name _ _ => true
  | _ => false
/-- a name that an inner scope holds, too -/
def isCl (sc : Scope) : Expr → Bool
  | .Name x _ => decide (sc.names.lookup x = some .cell)
  | _ => false
/-- a store of several targets is from the left -/
def leftS (sc : Scope) (tg e : Expr) : Bool := match tg with
  | .Tuple ts _ _ => (match e with
    | .Tuple vs _ _ => decide (3 < ts.length) || decide (vs.length ≠ ts.length) || ts.any fun t => !isName t || isCl sc t
    | _ => true)
  | .List _ _ => false
  | _ => true
def notSD : Expr → Bool
  | .SetComp _ _ _ _ => false
  | .DictComp _ _ _ _ _ => false
  | _ => true
def swOk (vs : List Expr) : Bool := !vs.all (foldedForSure 8) && !vs.all (constantsAlone 8)
def locP (c : CT) (x : Str) : Bool := match c.sc.names.lookup x with
  | some .local => true
  | _ => false
/-- an except clause -/
def chH (c : CT) (h : MH) : ExceptHandler → Bool
  | .ExceptHandler (some (.Name x _)) nm [.Return (some e) _] _ => decide (x = h.cls) && glB c.sc x && (match nm, h.as with
      | none, none => true
      | some n, some i => atN c i n && locP c n
      | _, _ => false) && chE { c with su := true } h.ret e
  | _ => false
def chHs (c : CT) : List MH → List ExceptHandler → Bool
  | [], [] => true
  | h :: hs, e :: es => chH c h e && chHs c hs es
  | _, _ => false
mutual
def chS (c : CT) : MS → Stmt → Bool
  | .expr m => fun s => match s with | .Expr e _ => noComp e && chE c m e | _ => false
  | .ret m => fun s => match s with | .Return (some e) _ => chE c m e | _ => false
  | .retN => fun s => match s with | .Return none _ => true | _ => false
  | .par2 i j ms => fun s => match s with
    | .Assign [.Tuple [.Name x p, .Name y q] _ _] (.Tuple vs _ _) _ => atN c i x && atN c j y && locP c x && locP c y && decide (i ≠ j ∧ x ≠ y ∧ p.line = q.line ∧ vs.length = 2) && swOk vs && vs.all noStar && chEs c ms vs
    | _ => false
  | .par3 i j l ms => fun s => match s with
    | .Assign [.Tuple [.Name x p, .Name y q, .Name z r] _ _] (.Tuple vs _ _) _ => atN c i x && atN c j y && atN c l z && locP c x && locP c y && locP c z && decide (i ≠ j ∧ i ≠ l ∧ j ≠ l ∧ x ≠ y ∧ x ≠ z ∧ y ≠ z ∧ p.line = q.line ∧ p.line = r.line ∧ vs.length = 3) && swOk vs && vs.all noStar && chEs c ms vs
    | _ => false
  | .asg g m => fun s => match s with | .Assign [tg] e _ => noStar tg && notSD e && leftS c.sc tg e && chG c g tg && chE c m e | _ => false
  | .aug i op m => fun s => match s with | .AugAssign (.Name x _) op' e _ => decide (op = op') && atN c i x && locB c x && chE c m e | _ => false
  | .augS o i op m => fun s => match s with | .AugAssign (.Subscript a b _) op' e _ => decide (op = op') && noSlice b && chE c o a && chE c i b && chE c m e | _ => false
  | .ifs t a b => fun s => match s with | .If u x y _ => chE c t u && chSs c a x && chSs c b y | _ => false
  | .whl t b => fun s => match s with | .While u x [] _ => chE c t u && chSs c b x | _ => false
  | .forr g it b => fun s => match s with | .For tg iter x [] _ => chI c it iter tg && chG c g tg && chSs c b x | _ => false
  | .raise x ms => fun s => match s with | .Raise (some (.Call (.Name y _) args [] _)) none _ => decide (y = x) && glB c.sc y && okName y && args.all noStar && chEs c ms args | _ => false
  | .tryy b hs => fun s => match s with | .Try x (h :: hds) [] [] _ => chSs c b x && chHs c hs (h :: hds) | _ => false
  | .pass => fun s => match s with | .Pass _ => true | _ => false
  | .brk => fun s => match s with | .Break _ => true | _ => false
  | .cont => fun s => match s with | .Continue _ => true | _ => false
def chSs (c : CT) : MSs → List Stmt → Bool
  | .nil => fun ss => match ss with | [] => true | _ => false
  | .cons m ms => fun ss => match ss with | s :: ss => chS c m s && chSs c ms ss | [] => false
  | .zlc i a b j own g el ms => fun ss => match ss with
    | .Assign [.Name x _] (.Call (.Name z _) [ea, eb] [] _) _ :: .Assign [.Name y _] (.ListComp xe [⟨tg, .Name x' _, [], as⟩] scope _) _ :: rest =>
      decide (z = "zip" ∧ x' = x ∧ as = 0) && glB c.sc z && noStar ea && noStar eb && isTup tg && atN c i x && locP c x && atN c j y && locP c y && chE c a ea && chE c b eb && blkC c.N c.sc scope own &&
      chG ⟨c.N, relS scope c.sc, scope, false, c.gcd⟩ g tg && ownB own g && chE ⟨c.N, relS scope c.sc, scope, false, c.gcd⟩ el xe && okName x && chSs c ms rest
    | _ => false
end
section
variable {X : Cx}
theorem fun_block (h : X.env.scope.kind = .function) : X.env.blockKind = .function := by
  unfold Env.blockKind
  rw [h]
  rfl
theorem fm_len {α β : Type} (f : α → Option β) : ∀ {l : List α} {t : α}, t ∈ l → f t = none → (l.filterMap f).length < l.length
  | [], _, h, _ => by cases h
  | x :: l, t, h, e => by
    rw [List.filterMap_cons]
    have hle : (l.filterMap f).length ≤ l.length := List.length_filterMap_le f l
    rcases List.mem_cons.mp h with q | q
    · rw [← q, e]
      exact Nat.lt_succ_of_le hle
    · have := fm_len f q e
      cases f x with
      | none => exact Nat.lt_succ_of_lt this
      | some y => exact Nat.succ_lt_succ this
theorem left_ok {tg e : Expr} {sc : Scope} (hsc : X.env.scope = sc) (h : leftS sc tg e = true) : swappedStores [tg] e X.env = pure none := by
  cases tg <;> first | exact absurd h Bool.false_ne_true | rfl | skip
  rename_i ts k p
  cases e <;> first | rfl | skip
  rename_i vs k2 p2
  have h' : (decide (3 < ts.length) || decide (vs.length ≠ ts.length) || ts.any fun t => !isName t || isCl sc t) = true := h
  unfold swappedStores
  simp only [Bool.or_eq_true, decide_eq_true_eq] at h'
  rcases h' with (h' | h') | h'
  · have : (!(ts.length == 2 || ts.length == 3)) = true := by simp; omega
    simp only [this, Bool.true_or, if_true]
  · have : (vs.length != ts.length) = true := by simp [h']
    simp only [this, Bool.or_true, Bool.true_or, if_true]
  · obtain ⟨t, ht, hn⟩ := List.any_eq_true.mp h'
    dsimp only
    split
    · rfl
    · split
      · rfl
      · split
        · rfl
        · rename_i n1 n2 n3
          refine absurd ?_ n3
          rw [Bool.or_eq_true]
          refine .inl ?_
          rw [bne_iff_ne]
          refine Nat.ne_of_lt (fm_len _ ht ?_)
          cases t <;> first | rfl | skip
          rename_i x pos
          have hc : X.env.scope.names.lookup x = some .cell := by
            rw [hsc]
            exact of_decide_eq_true (by simpa [isName, isCl] using hn)
          have hk : X.env.kindOf x = some .cell := hc
          simp [hk]
theorem swOk_of {vs : List Expr} (h : swOk vs = true) : vs.all (foldedForSure 8) = false ∧ vs.all (constantsAlone 8) = false := by
  unfold swOk at h
  simp only [Bool.and_eq_true, Bool.not_eq_true'] at h
  exact h
theorem sw2 {x y : Str} {p q pt pt2 : Pos} {kt k2 : Nat} {a b : Expr} (hk : X.env.scope.kind = .function) (hx : X.env.kindOf x = some .local) (hy : X.env.kindOf y = some .local) (hxy : x ≠ y) (hl : p.line = q.line) (hs : [a, b].all noStar = true) (ho : swOk [a, b] = true) :
    swappedStores [.Tuple [.Name x p, .Name y q] kt pt] (.Tuple [a, b] k2 pt2) X.env = pure (some [x, y]) := by
  obtain ⟨o1, o2⟩ := swOk_of ho
  have hd : ([x, y] : List Str).eraseDups = [x, y] := by
    simp [List.eraseDups_cons, Ne.symm hxy]
  unfold swappedStores
  dsimp only
  rw [if_neg (by simp [fun_block hk])]
  rw [if_neg (by
    intro z
    obtain ⟨t, ht, e⟩ := List.any_eq_true.mp z
    have := List.all_eq_true.mp hs t ht
    cases t <;> first | exact absurd e Bool.false_ne_true | exact absurd this Bool.false_ne_true)]
  rw [if_neg (by simp [Expr.pos, hx, hy, hl, hd])]
  rw [if_neg (by rw [o1]; exact Bool.false_ne_true), if_neg (by rw [o2]; exact Bool.false_ne_true)]
  simp [Expr.pos, hx, hy, hl]
theorem sw3 {x y z : Str} {p q r pt pt2 : Pos} {kt k2 : Nat} {a b d : Expr} (hk : X.env.scope.kind = .function) (hx : X.env.kindOf x = some .local) (hy : X.env.kindOf y = some .local) (hz : X.env.kindOf z = some .local) (hxy : x ≠ y) (hxz : x ≠ z) (hyz : y ≠ z) (hl : p.line = q.line) (hl2 : p.line = r.line) (hs : [a, b, d].all noStar = true) (ho : swOk [a, b, d] = true) :
    swappedStores [.Tuple [.Name x p, .Name y q, .Name z r] kt pt] (.Tuple [a, b, d] k2 pt2) X.env = pure (some [x, y, z]) := by
  obtain ⟨o1, o2⟩ := swOk_of ho
  have hd : ([x, y, z] : List Str).eraseDups = [x, y, z] := by
    simp [List.eraseDups_cons, Ne.symm hxy, Ne.symm hxz, Ne.symm hyz]
  have e1 : q.line = p.line := hl.symm
  have e2 : r.line = p.line := hl2.symm
  unfold swappedStores
  dsimp only
  rw [if_neg (by simp [fun_block hk])]
  rw [if_neg (by
    intro z
    obtain ⟨t, ht, e⟩ := List.any_eq_true.mp z
    have := List.all_eq_true.mp hs t ht
    cases t <;> first | exact absurd e Bool.false_ne_true | exact absurd this Bool.false_ne_true)]
  rw [if_neg (by simp [Expr.pos, hx, hy, hz, e1, e2, hd])]
  rw [if_neg (by rw [o1]; exact Bool.false_ne_true), if_neg (by rw [o2]; exact Bool.false_ne_true)]
  simp [Expr.pos, hx, hy, hz, e1, e2]
end
end DL

set_option Elab.async false
set_option linter.all false
set_option maxRecDepth 100000
set_option maxHeartbeats 4000000
/-! DL16: the small language's statements are sound. -/
namespace DL
open PySem PySem.Spec PyProof.Rows L2
structure LE (K : PySem.W.Frag) (R : Addr → Prop) (H0 : Hp) (D : Ends) (DD : DEnds) (H : Hp) : Prop where
  nx : ∀ σ G σv H', DD.nx σ G → SR K R H0 σ G σv H' → Keep R H H' → D.nx σv H'
  rt : ∀ d G v H', DD.rt d G → Rp K H' d v → GR K R G H' → Keep R H H' → D.rt v H'
  bk : ∀ σ G σv H', DD.bk σ G → SR K R H0 σ G σv H' → Keep R H H' → D.bk σv H'
  ct : ∀ σ G σv H', DD.ct σ G → SR K R H0 σ G σv H' → Keep R H H' → D.ct σv H'
theorem LE.back {K : PySem.W.Frag} {R : Addr → Prop} {H0 H H1 : Hp} {D : Ends} {DD : DEnds} (l : LE K R H0 D DD H) (k : Keep R H H1) : LE K R H0 D DD H1 :=
  ⟨fun σ G σv H' q s k' => l.nx σ G σv H' q s (k.trans k'), fun d G v H' q r g k' => l.rt d G v H' q r g (k.trans k'), fun σ G σv H' q s k' => l.bk σ G σv H' q s (k.trans k'), fun σ G σv H' q s k' => l.ct σ G σv H' q s (k.trans k')⟩
def lS (K : PySem.W.Frag) (R : Addr → Prop) (H0 : Hp) (W : WD) (t : DS) : TS := fun D σv H => ∃ σ G DD, SR K R H0 σ G σv H ∧ t W DD σ G ∧ LE K R H0 D DD H
structure SY (X : Cx) : Prop where
  stk : X.stack = X.env :: X.outer
  frm : X.env.frame = some X.env.locals
  po : PassesOwn (model X.prog X.w) X.A X.env X.xe
theorem PSi {X : Cx} {s : Stmt} {t t' : TS} (h : PS X s t) (f : ∀ D σ H, t' D σ H → t D σ H) : PS X s t' := ⟨fun pins s' σ H D I k => h.run pins s' σ H D I (f _ _ _ k)⟩
theorem PSsi {X : Cx} {s : List Stmt} {t t' : TS} (h : PSs X s t) (f : ∀ D σ H, t' D σ H → t D σ H) : PSs X s t' := ⟨fun pins s' σ H D I k => h.run pins s' σ H D I (f _ _ _ k)⟩
section
variable (Γ : GE) (k : Nat)
def OkS (m : MS) : Prop := ∀ {c : CT} {R : Addr → Prop} {H0 : Hp} {W : WD} {X : Cx}, SX Γ k c R H0 W X → SY X → c.su = false → ∀ {s : Stmt}, chS c m s = true → PS X s (lS X.K R H0 W (wpS Γ m))
def OkSs (m : MSs) : Prop := ∀ {c : CT} {R : Addr → Prop} {H0 : Hp} {W : WD} {X : Cx}, SX Γ k c R H0 W X → SY X → c.su = false → ∀ {s : List Stmt}, chSs c m s = true → PSs X s (lS X.K R H0 W (wpSs Γ m))
end
section
variable {Γ : GE} {k : Nat}
theorem s_expr (m : ME) : OkS Γ k (.expr m) := by
  intro c R H0 W X S Y su s h
  cases s <;> first | exact absurd h Bool.false_ne_true | skip
  obtain ⟨h1, h2⟩ := and3 h
  exact PSi (ps_expr (okE Γ k m S h2) (sw_plain h1)) fun D σv H ⟨σ, G, DD, sr, t, le⟩ => ⟨σ, G, _, sr, t, fun d G1 v H1 q r s1 k1 => le.nx _ _ _ _ q s1 k1⟩
theorem s_ret (m : ME) : OkS Γ k (.ret m) := by
  intro c R H0 W X S Y su s h
  cases s <;> first | exact absurd h Bool.false_ne_true | skip
  rename_i o p
  cases o with
  | none => exact absurd h Bool.false_ne_true
  | some e => exact PSi (ps_ret (okE Γ k m S h)) fun D σv H ⟨σ, G, DD, sr, t, le⟩ => ⟨σ, G, _, sr, t, fun d G1 v H1 q r s1 k1 => le.rt _ _ _ _ q r s1.gR k1⟩
theorem s_retN : OkS Γ k .retN := by
  intro c R H0 W X S Y su s h
  cases s <;> first | exact absurd h Bool.false_ne_true | skip
  rename_i o p
  cases o with
  | some _ => exact absurd h Bool.false_ne_true
  | none => exact PSi ps_retN fun D σv H ⟨σ, G, DD, sr, t, le⟩ => le.rt _ _ _ _ t rfl sr.gR .refl
theorem s_pass : OkS Γ k .pass := by
  intro c R H0 W X S Y su s h
  cases s <;> first | exact absurd h Bool.false_ne_true | skip
  exact PSi ps_pass fun D σv H ⟨σ, G, DD, sr, t, le⟩ => le.nx _ _ _ _ t sr .refl
theorem s_brk : OkS Γ k .brk := by
  intro c R H0 W X S Y su s h
  cases s <;> first | exact absurd h Bool.false_ne_true | skip
  exact PSi ps_break fun D σv H ⟨σ, G, DD, sr, t, le⟩ => le.bk _ _ _ _ t sr .refl
theorem s_cont : OkS Γ k .cont := by
  intro c R H0 W X S Y su s h
  cases s <;> first | exact absurd h Bool.false_ne_true | skip
  exact PSi ps_continue fun D σv H ⟨σ, G, DD, sr, t, le⟩ => le.ct _ _ _ _ t sr .refl
theorem locP_of {c : CT} {R : Addr → Prop} {H0 : Hp} {W : WD} {X : Cx} (S : SX Γ k c R H0 W X) {x : Str} (h : locP c x = true) : X.env.scope.names.lookup x = some .local := by
  unfold locP at h
  rw [S.sc]
  cases e : c.sc.names.lookup x with
  | none => rw [e] at h; cases h
  | some q => rw [e] at h; cases q <;> first | rfl | cases h
theorem SX.kind {c : CT} {R : Addr → Prop} {H0 : Hp} {W : WD} {X : Cx} (S : SX Γ k c R H0 W X) : X.env.scope.kind = .function := by rw [S.sc]; exact S.fk
theorem SX.ndX {c : CT} {R : Addr → Prop} {H0 : Hp} {W : WD} {X : Cx} (S : SX Γ k c R H0 W X) : X.N.Nodup := by rw [S.N]; exact S.nd
theorem s_par2 (i j : Nat) (ms : MEs) : OkS Γ k (.par2 i j ms) := by
  intro c R H0 W X S Y su s h
  have key : ∃ x y p q kt pt a b k2 pt2 pos, s = .Assign [.Tuple [.Name x p, .Name y q] kt pt] (.Tuple [a, b] k2 pt2) pos ∧ atN c i x = true ∧ atN c j y = true ∧ locP c x = true ∧ locP c y = true ∧ (i ≠ j ∧ x ≠ y ∧ p.line = q.line) ∧ swOk [a, b] = true ∧ [a, b].all noStar = true ∧ chEs c ms [a, b] = true := by
    simp only [chS] at h
    split at h
    case h_2 => exact absurd h Bool.false_ne_true
    rename_i x p y q kt pt vs k2 pt2 pos
    obtain ⟨h, h8⟩ := and3 h
    obtain ⟨h, h7⟩ := and3 h
    obtain ⟨h, h6⟩ := and3 h
    obtain ⟨h, h5⟩ := and3 h
    obtain ⟨h, h4⟩ := and3 h
    obtain ⟨h, h3⟩ := and3 h
    obtain ⟨h1, h2⟩ := and3 h
    obtain ⟨c1, c2, c3, c4⟩ := of_decide_eq_true h5
    rcases vs with _ | ⟨a, _ | ⟨b, _ | ⟨d, vs⟩⟩⟩ <;> first | (exfalso; simp at c4; done) | skip
    exact ⟨x, y, p, q, kt, pt, a, b, k2, pt2, pos, rfl, h1, h2, h3, h4, ⟨c1, c2, c3⟩, h6, h7, h8⟩
  obtain ⟨x, y, p, q, kt, pt, a, b, k2, pt2, pos, rfl, h1, h2, h3, h4, ⟨c1, c2, c3⟩, h6, h7, h8⟩ := key
  have lx := locP_of S h3
  have ly := locP_of S h4
  refine PSi (ps_par (S.cm su) S.ndX (S.at h1) (S.at h2) c1 lx ly (OkAn.pl (okAs Γ k ms) S h8) (sw2 S.kind lx ly c2 c3 h7 h6)) fun D σv H ⟨σ, G, DD, sr, t, le⟩ => ⟨σ, G, _, sr, t, fun ds G1 vs H1 q r s1 k1 => ?_⟩
  rcases ds with _ | ⟨x1, _ | ⟨y1, _ | ⟨z1, ds⟩⟩⟩ <;> first | exact False.elim q | skip
  obtain ⟨v, w, e2, r1, r2⟩ := rps2 r
  exact ⟨v, w, e2, le.nx _ _ _ _ q ((s1.slot i r1).slot j r2) k1⟩
theorem s_par3 (i j l : Nat) (ms : MEs) : OkS Γ k (.par3 i j l ms) := by
  intro c R H0 W X S Y su s h
  have key : ∃ x y z p q r kt pt a b d k2 pt2 pos, s = .Assign [.Tuple [.Name x p, .Name y q, .Name z r] kt pt] (.Tuple [a, b, d] k2 pt2) pos ∧ (atN c i x = true ∧ atN c j y = true ∧ atN c l z = true) ∧ (locP c x = true ∧ locP c y = true ∧ locP c z = true) ∧
      (i ≠ j ∧ i ≠ l ∧ j ≠ l ∧ x ≠ y ∧ x ≠ z ∧ y ≠ z ∧ p.line = q.line ∧ p.line = r.line) ∧ swOk [a, b, d] = true ∧ [a, b, d].all noStar = true ∧ chEs c ms [a, b, d] = true := by
    simp only [chS] at h
    split at h
    case h_2 => exact absurd h Bool.false_ne_true
    rename_i x p y q z r kt pt vs k2 pt2 pos
    obtain ⟨h, h10⟩ := and3 h
    obtain ⟨h, h9⟩ := and3 h
    obtain ⟨h, h8⟩ := and3 h
    obtain ⟨h, h7⟩ := and3 h
    obtain ⟨h, h6⟩ := and3 h
    obtain ⟨h, h5⟩ := and3 h
    obtain ⟨h, h4⟩ := and3 h
    obtain ⟨h, h3⟩ := and3 h
    obtain ⟨h1, h2⟩ := and3 h
    obtain ⟨c1, c2, c3, c4, c5, c6, c7, c8, c9⟩ := of_decide_eq_true h7
    rcases vs with _ | ⟨a, _ | ⟨b, _ | ⟨d, _ | ⟨d4, vs⟩⟩⟩⟩ <;> first | (exfalso; simp at c9; done) | skip
    exact ⟨x, y, z, p, q, r, kt, pt, a, b, d, k2, pt2, pos, rfl, ⟨h1, h2, h3⟩, ⟨h4, h5, h6⟩, ⟨c1, c2, c3, c4, c5, c6, c7, c8⟩, h8, h9, h10⟩
  obtain ⟨x, y, z, p, q, r, kt, pt, a, b, d, k2, pt2, pos, rfl, ⟨h1, h2, h3⟩, ⟨h4, h5, h6⟩, ⟨c1, c2, c3, c4, c5, c6, c7, c8⟩, h8, h9, h10⟩ := key
  have lx := locP_of S h4
  have ly := locP_of S h5
  have lz := locP_of S h6
  refine PSi (ps_par3 (S.cm su) S.ndX (S.at h1) (S.at h2) (S.at h3) c1 c2 c3 lx ly lz (OkAn.pl (okAs Γ k ms) S h10) (sw3 S.kind lx ly lz c4 c5 c6 c7 c8 h9 h8)) fun D σv H ⟨σ, G, DD, sr, t, le⟩ => ⟨σ, G, _, sr, t, fun ds G1 vs H1 q r s1 k1 => ?_⟩
  rcases ds with _ | ⟨x1, _ | ⟨y1, _ | ⟨z1, _ | ⟨z4, ds⟩⟩⟩⟩ <;> first | exact False.elim q | skip
  obtain ⟨u, vs', e2, r1, rr⟩ := r
  obtain ⟨v, w, e3, r2, r3⟩ := rps2 rr
  subst e3
  exact ⟨u, v, w, e2, le.nx _ _ _ _ q (((s1.slot i r1).slot j r2).slot l r3) k1⟩
/-- a store -/
theorem asg_rd {X : Cx} {R : Addr → Prop} {H0 : Hp} {W : WD} {te : DE} {g : MG} {D : Ends} {σv : L2.St} {H : Hp} (h : lS X.K R H0 W (fun W D σ G => te W σ G fun x G1 => wpG Γ g x W σ G1 D.nx) D σv H) :
    tAsg (lE X.K R H0 W te) (lG X.K R H0 W none (wpG Γ g)) D σv H := by
  obtain ⟨σ, G, DD, sr, t, le⟩ := h
  exact ⟨σ, G, _, sr, t, fun x G1 v H1 q r s1 k1 => ⟨x, σ, G1, DD.nx, r, s1, q, fun σ2 G2 σv2 H2 q2 s2 k2 _ => le.nx _ _ _ _ q2 s2 (k1.trans k2)⟩⟩
theorem s_asg (g : MG) (m : ME) : OkS Γ k (.asg g m) := by
  intro c R H0 W X S Y su s h
  cases s <;> first | exact absurd h Bool.false_ne_true | skip
  rename_i ts e pos
  rcases ts with _ | ⟨tg, _ | ⟨t2, ts⟩⟩ <;> first | exact absurd h Bool.false_ne_true | skip
  obtain ⟨h, h5⟩ := and3 h
  obtain ⟨h, h4⟩ := and3 h
  obtain ⟨h, h3⟩ := and3 h
  obtain ⟨h1, h2⟩ := and3 h
  have pe := okE Γ k m S h5
  have pg := okG Γ k g S (o := none) (fun _ z => nomatch z) h4
  have h6 : (assignEach [tg] X.env).map (·.2) = [assign tg X.env] := by rw [asgE1 h1]; rfl
  by_cases hw : swapsWith e (some tg) pos.line X.env = pure false
  · exact PSi (ps_asg pe pg hw (left_ok S.sc h3) h6) fun D σv H z => asg_rd z
  · -- a comprehension that is stored at once
    cases e with
    | ListComp x gens scope p =>
      cases m with
      | lc own g' it t el =>
        cases tg with
        | Name y py =>
          have hb : swapsWith (.ListComp x gens scope p) (some (.Name y py)) pos.line X.env = pure (X.env.blockKind == .function && X.env.kindOf y == some .local && py.line == (Expr.ListComp x gens scope p).pos.line && !(scope.names.any fun (n, k) => n == y && (k == .local || k == .cell))) := rfl
          rw [hb] at hw
          cases hc : (X.env.blockKind == .function && X.env.kindOf y == some .local && py.line == (Expr.ListComp x gens scope p).pos.line && !(scope.names.any fun (n, k) => n == y && (k == .local || k == .cell))) with
          | false => rw [hc] at hw; exact absurd rfl hw
          | true =>
            rw [hc] at hb
            have hl : X.env.scope.names.lookup y = some .local := by
              have := (and3 (and3 (and3 hc).1).1).2
              exact eq_of_beq this
            cases g with
            | name i =>
              obtain ⟨a1, a2⟩ := and3 h4
              obtain ⟨x', tg', iter, ifs, scope', pos', wi, gg, tt, te, e1, hsu, p'⟩ := lc_parts own (okI Γ k it) (okG Γ k g') (okC Γ k t) (okE Γ k el) S h5
              cases e1
              refine PSi (ps_setLc (S.cm su) S.ndX (S.at a1) hl hb p'.pi p'.blk p'.pg p'.pt p'.pe p'.set) fun D σv H z => ?_
              have z' := asg_rd (te := wpE Γ (.lc own g' it t el)) (g := .name i) z
              exact p'.rd _ _ _ (by
                obtain ⟨σ, G, Q, sr, t', out⟩ := z'
                exact ⟨σ, G, Q, sr, t', fun d G' v H' q r s1 k1 => by
                  obtain ⟨d0, σ1, G1, Q1, r1, s1', q1, out1⟩ := out d G' v H' q r s1 k1
                  exact out1 _ _ _ _ q1 (s1'.slot i r1) .refl trivial⟩)
            | _ => exact absurd h4 Bool.false_ne_true
        | _ => exact absurd (show (pure false : Sem Bool) = pure false from rfl) hw
      | _ => exact absurd h5 Bool.false_ne_true
    | SetComp _ _ _ _ => exact absurd h2 Bool.false_ne_true
    | DictComp _ _ _ _ _ => exact absurd h2 Bool.false_ne_true
    | _ => exact absurd (show (pure false : Sem Bool) = pure false from rfl) hw
end
end DL

set_option Elab.async false
set_option linter.all false
set_option maxRecDepth 100000
set_option maxHeartbeats 4000000
/-! DL17: the rest of the statements; all together. -/
namespace DL
open PySem PySem.Spec PyProof.Rows L2
section
variable {Γ : GE} {k : Nat}
theorem s_aug (i : Nat) (op : Operator) (m : ME) : OkS Γ k (.aug i op m) := by
  intro c R H0 W X S Y su s h
  simp only [chS] at h
  split at h
  case h_2 => exact absurd h Bool.false_ne_true
  rename_i x p op' e pos
  obtain ⟨h, h4⟩ := and3 h
  obtain ⟨h, h3⟩ := and3 h
  obtain ⟨h1, h2⟩ := and3 h
  have e1 := of_decide_eq_true h1
  subst e1
  obtain ⟨l1, l2⟩ := S.loc h3
  refine PSi (ps_aug S.ndX (S.at h2) l1 (okE Γ k m S h4) (aug_D op) l2) fun D σv H ⟨σ, G, DD, sr, ⟨x0, ex, t⟩, le⟩ => ?_
  obtain ⟨v, ev, rv⟩ := sr.sl i x0 (gt_some.mp ex)
  exact ⟨v, ev, σ, G, _, sr, t, fun y G1 w H1 q r s1 k1 => ⟨R, H0, σ, σv, x0, y, G1, _, rv.keep k1, r, s1, q, fun z G2 u H2 q2 r2 s2 k2 => le.nx _ _ _ _ q2 (s2.slot i r2) (k1.trans k2)⟩⟩
theorem s_augS (o i : ME) (op : Operator) (m : ME) : OkS Γ k (.augS o i op m) := by
  intro c R H0 W X S Y su s h
  simp only [chS] at h
  split at h
  case h_2 => exact absurd h Bool.false_ne_true
  rename_i a b p op' e pos
  obtain ⟨h, h5⟩ := and3 h
  obtain ⟨h, h4⟩ := and3 h
  obtain ⟨h, h3⟩ := and3 h
  obtain ⟨h1, h2⟩ := and3 h
  have e1 := of_decide_eq_true h1
  subst e1
  refine PSi (ps_augS (okE Γ k o S h3) (okE Γ k i S h4) get_D (okE Γ k m S h5) (aug_D op) set_D (augSub h2)) fun D σv H ⟨σ, G, DD, sr, t, le⟩ => ?_
  refine ⟨σ, G, _, sr, t, fun x G1 v H1 q r s1 k1 => ⟨σ, G1, _, s1, q, fun y G2 w H2 q2 r2 s2 k2 => ?_⟩⟩
  obtain ⟨l, ex, q2⟩ := q2
  subst ex
  have hq : ∃ xs, SqL X.K H2 l xs := by
    cases y with
    | int j =>
      obtain ⟨ds, d, e1, _⟩ := q2
      obtain ⟨vs, z, _⟩ := s2.sqL e1
      exact ⟨vs, z⟩
    | _ => exact False.elim q2
  refine ⟨⟨R, H0, σ, σv, .ref l, y, G2, _, r.keep k2, r2, s2, q2, fun x3 G3 v3 H3 q3 r3 s3 k3 => ⟨σ, G3, _, s3, q3, fun y4 G4 v4 H4 q4 r4 s4 k4 => ⟨R, H0, σ, σv, x3, y4, G4, _, r3.keep k4, r4, s4, q4, fun z G5 u H5 q5 r5 s5 k5 =>
    ⟨R, H0, σ, σv, .ref l, y, z, G5, _, (((r.keep k2).keep k3).keep k4).keep k5, ((r2.keep k3).keep k4).keep k5, r5, s5, q5, fun G6 H6 q6 s6 k6 => le.nx _ _ _ _ q6 s6 (((((k1.trans k2).trans k3).trans k4).trans k5).trans k6)⟩⟩⟩⟩, l, r, hq⟩
theorem s_ifs (t : ME) {a b : MSs} (ha : OkSs Γ k a) (hb : OkSs Γ k b) : OkS Γ k (.ifs t a b) := by
  intro c R H0 W X S Y su s h
  cases s <;> first | exact absurd h Bool.false_ne_true | skip
  obtain ⟨h, h3⟩ := and3 h
  obtain ⟨h1, h2⟩ := and3 h
  refine PSi (ps_if (okT Γ k t S h1) (ha S Y su h2) (hb S Y su h3)) fun D σv H ⟨σ, G, DD, sr, t', le⟩ => ⟨σ, G, _, sr, t', fun b G1 H1 q s1 k1 => ?_⟩
  cases b with
  | true => exact ⟨σ, G1, DD, s1, q, le.back k1⟩
  | false => exact ⟨σ, G1, DD, s1, q, le.back k1⟩
theorem s_whl (t : ME) {b : MSs} (hb : OkSs Γ k b) : OkS Γ k (.whl t b) := by
  intro c R H0 W X S Y su s h
  cases s <;> first | exact absurd h Bool.false_ne_true | skip
  rename_i u x orelse pos
  cases orelse with
  | cons _ _ => exact absurd h Bool.false_ne_true
  | nil =>
    obtain ⟨h1, h2⟩ := and3 h
    refine PSi (ps_while Y.po (okT Γ k t S h1) (hb S Y su h2)) fun D σv H ⟨σ, G, DD, sr, ⟨n, t'⟩, le⟩ => ?_
    refine ⟨fun m σv1 H1 => ∃ σ1 G1, SR X.K R H0 σ1 G1 σv1 H1 ∧ whD (fun σ G Q => wpT Γ t W σ G Q) (fun D σ G => wpSs Γ b W D σ G) DD m σ1 G1 ∧ Keep R H H1, ⟨n, σ, G, sr, t', .refl⟩, ?_⟩
    rintro m σv1 H1 ⟨σ1, G1, s1, w1, k1⟩
    cases m with
    | zero => exact False.elim w1
    | succ m =>
      refine ⟨σ1, G1, _, s1, w1, fun b' G2 H2 q s2 k2 => ?_⟩
      cases b' with
      | false => exact le.nx _ _ _ _ q s2 (k1.trans k2)
      | true =>
        refine ⟨fun σv3 H3 => ∃ σ3 G3, SR X.K R H0 σ3 G3 σv3 H3 ∧ whD (fun σ G Q => wpT Γ t W σ G Q) (fun D σ G => wpSs Γ b W D σ G) DD m σ3 G3 ∧ Keep R H H3, fun σ' H' z => ⟨m, Nat.lt_succ_self m, z⟩, σ1, G2, _, s2, q, ?_⟩
        exact ⟨fun σ3 G3 σv3 H3 q3 s3 k3 => ⟨σ3, G3, s3, q3, (k1.trans k2).trans k3⟩, fun d G3 v H3 q3 r3 g3 k3 => le.rt _ _ _ _ q3 r3 g3 ((k1.trans k2).trans k3),
          fun σ3 G3 σv3 H3 q3 s3 k3 => le.nx _ _ _ _ q3 s3 ((k1.trans k2).trans k3), fun σ3 G3 σv3 H3 q3 s3 k3 => ⟨σ3, G3, s3, q3, (k1.trans k2).trans k3⟩⟩
theorem s_for (g : MG) (it : MI) {b : MSs} (hb : OkSs Γ k b) : OkS Γ k (.forr g it b) := by
  intro c R H0 W X S Y su s h
  cases s <;> first | exact absurd h Bool.false_ne_true | skip
  rename_i tg iter x orelse pos
  cases orelse with
  | cons _ _ => exact absurd h Bool.false_ne_true
  | nil =>
    obtain ⟨h, h3⟩ := and3 h
    obtain ⟨h1, h2⟩ := and3 h
    refine PSi (ps_for Y.po (S.cm su) (okI Γ k it S h1) (okG Γ k g S (o := none) (fun _ z => nomatch z) h2) (hb S Y su h3) (set_plain (chI_set h1))) fun D σv H ⟨σ, G, DD, sr, t', le⟩ => ?_
    refine ⟨σ, G, _, sr, t', fun ds src G1 H1 J q wk s1 k1 => ?_⟩
    generalize hgg : (fun (d : DL.D) (σ : Sg) (G : DH) (Q : Sg → DH → Prop) => wpG Γ g d W σ G Q) = gg at q
    generalize hbb : (fun (D : DEnds) (σ : Sg) (G : DH) => wpSs Γ b W D σ G) = bb at q
    refine ⟨fun i m σv2 H2 => m + i = ds.length ∧ ∃ σ2 G2, SR X.K R H0 σ2 G2 σv2 H2 ∧ Keep R H1 H2 ∧ loopD src gg bb DD (ds.drop i) σ2 G2, ⟨ds.length, rfl, σ, G1, s1, .refl, q⟩, ?_⟩
    rintro i m σv2 H2 ⟨hm, σ2, G2, s2, k2, q2⟩
    by_cases hi : i < ds.length
    · right
      rw [List.drop_eq_getElem_cons hi] at q2
      obtain ⟨so, q2⟩ := q2
      have hd : ds[i]? = some ds[i] := by simp [hi]
      refine ⟨wk.go i G2 H2 hi s2.gr so k2.t, fun σv3 H3 => ∃ σ3 G3, SR X.K R H0 σ3 G3 σv3 H3 ∧ Keep R H1 H3 ∧ loopD src gg bb DD (ds.drop (i + 1)) σ3 G3, fun σ' H' hN => ⟨m - 1, by omega, by omega, hN⟩, fun x H3 y => ?_⟩
      obtain ⟨s3, r3, k3⟩ := wk.next hd s2 so k2.t y
      subst hgg hbb
      refine ⟨ds[i], σ2, G2, _, r3, s3, q2, fun σ4 G4 σv4 H4 q4 s4 k4 _ => ⟨σ4, G4, _, s4, q4, ?_⟩⟩
      have kk := (k2.trans k3).trans k4
      exact ⟨fun σ5 G5 σv5 H5 q5 s5 k5 => ⟨σ5, G5, s5, kk.trans k5, q5⟩, fun d G5 v H5 q5 r5 g5 k5 => le.rt _ _ _ _ q5 r5 g5 (k1.trans (kk.trans k5)),
        fun σ5 G5 σv5 H5 q5 s5 k5 => le.nx _ _ _ _ q5 s5 (k1.trans (kk.trans k5)), fun σ5 G5 σv5 H5 q5 s5 k5 => ⟨σ5, G5, s5, kk.trans k5, q5⟩⟩
    · left
      have e : i = ds.length := by omega
      subst e
      rw [List.drop_length] at q2
      obtain ⟨so, q2⟩ := q2
      exact ⟨wk.stop G2 H2 s2.gr so k2.t, le.nx _ _ _ _ q2 s2 (k1.trans k2)⟩
/-! ### sequences -/
theorem ss_nil : OkSs Γ k .nil := by
  intro c R H0 W X S Y su s h
  cases s with
  | cons _ _ => exact absurd h Bool.false_ne_true
  | nil => exact PSsi pss_nil fun D σv H ⟨σ, G, DD, sr, t, le⟩ => le.nx _ _ _ _ t sr .refl
theorem ss_cons {m : MS} {ms : MSs} (hm : OkS Γ k m) (hms : OkSs Γ k ms) : OkSs Γ k (.cons m ms) := by
  intro c R H0 W X S Y su s h
  cases s with
  | nil => exact absurd h Bool.false_ne_true
  | cons s ss =>
    obtain ⟨h1, h2⟩ := and3 h
    refine PSsi (pss_cons (hm S Y su h1) (hms S Y su h2)) fun D σv H ⟨σ, G, DD, sr, t, le⟩ => ⟨σ, G, _, sr, t, ?_⟩
    exact ⟨fun σ1 G1 σv1 H1 q s1 k1 => ⟨σ1, G1, DD, s1, q, le.back k1⟩, le.rt, le.bk, le.ct⟩
end
end DL

set_option Elab.async false
set_option linter.all false
set_option maxRecDepth 100000
set_option maxHeartbeats 4000000
/-! DL17b: zip kept under a name, walked by a comprehension at once. -/
namespace DL
open PySem PySem.Spec PyProof.Rows L2
/-! ### objects that are known for a while -/
def lay (f : Addr → Option HO) (H : Hp) : Hp := fun c => match f c with
  | some o => some o
  | none => H c
theorem lay_some {f : Addr → Option HO} {H : Hp} {c : Addr} {o : HO} (h : f c = some o) : lay f H c = some o := by unfold lay; rw [h]
theorem lay_none {f : Addr → Option HO} {H : Hp} {c : Addr} (h : f c = none) : lay f H c = H c := by unfold lay; rw [h]
section
variable {X : Cx} {pins : List (Addr × Obj)} {σ : L2.St} {H : Hp} {s : Shared} {f : Addr → Option HO}
theorem inv_unlay (I : Inv X pins σ (lay f H) s) (hf : ∀ c o, f c = some o → H c = none ∧ ∃ φ, o = .ext φ) : Inv X pins σ H s := by
  have up : ∀ b u, H b = some u → lay f H b = some u := fun b u e => by
    cases q : f b with
    | some o => rw [(hf b o q).1] at e; cases e
    | none => rw [lay_none q]; exact e
  have dn : ∀ b u, lay f H b = some u → (∀ φ, u ≠ .ext φ) → H b = some u := fun b u e n => by
    cases q : f b with
    | some o =>
      rw [lay_some q] at e
      obtain ⟨_, φ, rfl⟩ := hf b o q
      exact absurd (Option.some.inj e).symm (n φ)
    | none => rw [lay_none q] at e; exact e
  have non : ∀ b, lay f H b = none → H b = none := fun b e => by
    cases q : f b with
    | some o => rw [lay_some q] at e; cases e
    | none => rw [lay_none q] at e; exact e
  have hok : HOk X.prog X.w H s.heap := fun b u e =>
    (I.hok b u (up b u e)).stay (fun _ _ _ z => z) (fun c z => dn c _ z fun _ w => (nomatch w)) fun c xs z => dn c _ z fun _ w => (nomatch w)
  have u : Un X.fs [] (lay f H) H s.heap s.heap := ⟨fun _ _ e _ _ _ => e, fun _ o e _ _ _ => ⟨o.slots, e⟩, fun b _ _ z _ => non b z, fun _ o e _ => ⟨o, e⟩, fun b xs z => dn b _ z fun _ w => (nomatch w),
    fun b o x z => dn b _ z fun _ w => (nomatch w), fun b ps z => ⟨#[], by rw [dn b _ z fun _ w => nomatch w]; simp⟩⟩
  exact I.un (t' := s.toks) u hok
theorem inv_lay {h' : Heap} {t' : Nat} (I : Inv X pins σ H s) (k : ∀ b u, s.heap.get? b = some u → h'.get? b = some u) (hf : ∀ c o, f c = some o → s.heap.objs.size ≤ c ∧ ∃ φ, o = .ext φ ∧ φ h' ∧ (∃ u, h'.get? c = some u) ∧ ∀ h1 h2 : Heap, φ h1 → (∀ u, h1.get? c = some u → h2.get? c = some u) → φ h2) :
    Inv X pins σ (lay f H) { s with heap := h', toks := t' } := by
  have up : ∀ b u, H b = some u → lay f H b = some u := fun b u e => by
    cases q : f b with
    | some o => rw [I.hok.fresh (hf b o q).1] at e; cases e
    | none => rw [lay_none q]; exact e
  refine I.un (t' := t') ⟨fun b u q _ _ _ => k b u q, fun b u q _ _ _ => ⟨u.slots, k b u q⟩, fun b u q n _ => ?_, fun b u q _ => ⟨u, k b u q⟩, fun b xs q => up b _ q, fun b u xs q => up b _ q, fun b ps q => ⟨#[], by rw [up b _ q]; simp⟩⟩ ?_
  · cases z : f b with
    | some o => exact absurd (Nat.lt_of_lt_of_le (Heap.lt_size q) (hf b o z).1) (Nat.lt_irrefl _)
    | none => rw [lay_none z]; exact n
  · intro b u e
    cases z : f b with
    | some o =>
      rw [lay_some z] at e
      cases e
      obtain ⟨_, φ, rfl, p1, p2, p3⟩ := hf b _ z
      exact ⟨p1, p2, p3⟩
    | none =>
      rw [lay_none z] at e
      exact (I.hok b u e).stay (fun c v _ q => k c v q) (fun c q => up c _ q) fun c xs q => up c _ q
theorem fp_unlay (I : Inv X pins σ (lay f H) s) {c : Addr} {o : HO} (hc : f c = some o) (hn : H c = none) (hs : X.s_0.heap.objs.size ≤ c) : FpOk X pins H c := by
  have h := lay_some (H := H) hc
  refine ⟨hn, fun z => ?_, fun z => ?_, .inr hs, fun x d e z => ?_, fun p hp z => ?_⟩
  · have q := I.free
    rw [← z, h] at q
    cases q
  · obtain ⟨_, o, ho, _⟩ := I.ok.funs.mem z
    exact absurd (Nat.lt_of_lt_of_le (Heap.lt_size ho) hs) (Nat.lt_irrefl _)
  · have q := I.freeC x d e
    rw [z, h] at q
    cases q
  · have q := (I.pin p hp).2.1
    rw [z, h] at q
    cases q
end
/-! ### zip as a value -/
theorem nadd {z i j : Nat} (h : i ≠ j) : z + i ≠ z + j := by omega
theorem nadd0 {z i : Nat} (h : i ≠ 0) : z + i ≠ z := by omega
def zF (z a b : Addr) : Addr → Option HO := fun c =>
  if c = z then some (.ext fun h => h.IsListIter z a 0) else if c = z + 1 then some (.ext fun h => h.IsListIter (z + 1) b 0) else
  if c = z + 2 then some (.ext fun h => IsPair h (z + 2) (.ref z) (.ref (z + 1))) else if c = z + 3 then some (.ext fun h => IsPair h (z + 3) .none .none) else
  if c = z + 4 then some (.ext fun h => IsZip h (z + 4) (z + 2) (z + 3) .none) else none
theorem zF0 {z a b : Addr} : zF z a b z = some (.ext fun h => h.IsListIter z a 0) := by unfold zF; rw [if_pos rfl]
theorem zF1 {z a b : Addr} : zF z a b (z + 1) = some (.ext fun h => h.IsListIter (z + 1) b 0) := by
  unfold zF; rw [if_neg (nadd0 (z := z) (i := 1) (by decide)), if_pos rfl]
theorem zF2 {z a b : Addr} : zF z a b (z + 2) = some (.ext fun h => IsPair h (z + 2) (.ref z) (.ref (z + 1))) := by
  unfold zF; rw [if_neg (nadd0 (z := z) (i := 2) (by decide)), if_neg (nadd (z := z) (i := 2) (j := 1) (by decide)), if_pos rfl]
theorem zF3 {z a b : Addr} : zF z a b (z + 3) = some (.ext fun h => IsPair h (z + 3) .none .none) := by
  unfold zF; rw [if_neg (nadd0 (z := z) (i := 3) (by decide)), if_neg (nadd (z := z) (i := 3) (j := 1) (by decide)), if_neg (nadd (z := z) (i := 3) (j := 2) (by decide)), if_pos rfl]
theorem zF4 {z a b : Addr} : zF z a b (z + 4) = some (.ext fun h => IsZip h (z + 4) (z + 2) (z + 3) .none) := by
  unfold zF; rw [if_neg (nadd0 (z := z) (i := 4) (by decide)), if_neg (nadd (z := z) (i := 4) (j := 1) (by decide)), if_neg (nadd (z := z) (i := 4) (j := 2) (by decide)), if_neg (nadd (z := z) (i := 4) (j := 3) (by decide)), if_pos rfl]
theorem zF_or {z a b c : Addr} {o : HO} (h : zF z a b c = some o) : c = z ∨ c = z + 1 ∨ c = z + 2 ∨ c = z + 3 ∨ c = z + 4 := by
  unfold zF at h
  split at h
  · rename_i e; exact .inl e
  · split at h
    · rename_i e; exact .inr (.inl e)
    · split at h
      · rename_i e; exact .inr (.inr (.inl e))
      · split at h
        · rename_i e; exact .inr (.inr (.inr (.inl e)))
        · split at h
          · rename_i e; exact .inr (.inr (.inr (.inr e)))
          · cases h
theorem zF_in {z a b c : Addr} {o : HO} (h : zF z a b c = some o) : z ≤ c ∧ ∃ φ, o = .ext φ := by
  rcases zF_or h with e | e | e | e | e
  · rw [e, zF0] at h; exact ⟨by rw [e]; exact Nat.le_refl _, _, (Option.some.inj h).symm⟩
  · rw [e, zF1] at h; exact ⟨by rw [e]; exact Nat.le_add_right _ _, _, (Option.some.inj h).symm⟩
  · rw [e, zF2] at h; exact ⟨by rw [e]; exact Nat.le_add_right _ _, _, (Option.some.inj h).symm⟩
  · rw [e, zF3] at h; exact ⟨by rw [e]; exact Nat.le_add_right _ _, _, (Option.some.inj h).symm⟩
  · rw [e, zF4] at h; exact ⟨by rw [e]; exact Nat.le_add_right _ _, _, (Option.some.inj h).symm⟩
theorem zF_at {z a b c : Addr} (e : c = z + 4 ∨ c = z + 2 ∨ c = z + 3 ∨ c = z ∨ c = z + 1) : z ≤ c ∧ ∃ o, zF z a b c = some o := by
  rcases e with e | e | e | e | e
  · rw [e]; exact ⟨Nat.le_add_right _ _, _, zF4⟩
  · rw [e]; exact ⟨Nat.le_add_right _ _, _, zF2⟩
  · rw [e]; exact ⟨Nat.le_add_right _ _, _, zF3⟩
  · rw [e]; exact ⟨Nat.le_refl _, _, zF0⟩
  · rw [e]; exact ⟨Nat.le_add_right _ _, _, zF1⟩
def tZipV (K : PySem.W.Frag) (n : Nat) (ta : TA) : TE := fun σ H Q => ta σ H fun vs H1 => ∃ a b xs ys, vs = [.ref a, .ref b] ∧ SqL K H1 a xs ∧ SqL K H1 b ys ∧
  ∀ z, n ≤ z → (∀ c, z ≤ c → H1 c = none) → ZipApart (z + 4) (z + 2) (z + 3) z (z + 1) a b → Q (.ref (z + 4)) (lay (zF z a b) H1)
theorem pe_zipV {X : Cx} {e e2 : Expr} {ta : TA} {p pos : Pos} (hg : Gl X "zip") (hm : X.mg "zip" = none) (ha : PA X [e, e2] ta)
    (hs : starEach [e, e2] X.env = (false, eval e X.env) :: starEach [e2] X.env := by rfl) (hpl : (backTo pos (starEach [e2] X.env)).any (·.1) = false := by rfl) :
    PE X (.Call (.Name "zip" p) [e, e2] [] pos) (tZipV X.K X.s_0.heap.objs.size ta) := by
  refine ⟨fun pins s σ H R I h => ?_⟩
  refine Call_ (ld_blt I hg hm PyProof.Rows.boot_zip (PyProof.Rows.callWith_type1 (thn (ha.run pos pins s σ H _ I h) fun us s1 ⟨vs, H1, I1, r1, q1⟩ => ?_) hs hpl))
  obtain ⟨a, b, xs, ys, ex, hqx, hqy, q⟩ := q1
  subst ex
  cases r1 with
  | cons r rr =>
    cases rr with
    | cons r' rr =>
      cases rr
      cases r
      cases r'
      obtain ⟨its, rv, p1, _⟩ := I1.list hqx
      obtain ⟨its2, rv2, p2, _⟩ := I1.list hqy
      refine call_zip_2 p1.isList p2.isList fun h' hz hTI hTO h1 h2 hsz hk => ?_
      refine ⟨.ref (s1.heap.objs.size + 4), lay (zF s1.heap.objs.size a b) H1, inv_lay (t' := s1.toks) I1 hk ?_, rfl, q _ I1.sz (fun c hc => I1.hok.fresh hc) (PySem.W.ktu_apart s1.heap.objs.size a b p1.lt p2.lt)⟩
      intro c o hc
      refine ⟨(zF_in hc).1, ?_⟩
      rcases zF_or hc with e | e | e | e | e
      · rw [e, zF0] at hc; cases hc
        obtain ⟨o1, g1, g2, g3⟩ := id h1
        rw [e]
        exact ⟨_, rfl, h1, ⟨o1, g1⟩, fun x y px k => px.at k⟩
      · rw [e, zF1] at hc; cases hc
        obtain ⟨o1, g1, g2, g3⟩ := id h2
        rw [e]
        exact ⟨_, rfl, h2, ⟨o1, g1⟩, fun x y px k => px.at k⟩
      · rw [e, zF2] at hc; cases hc
        rw [e]
        exact ⟨_, rfl, hTI, ⟨_, hTI⟩, fun x y px k => k _ px⟩
      · rw [e, zF3] at hc; cases hc
        rw [e]
        exact ⟨_, rfl, hTO, ⟨_, hTO⟩, fun x y px k => k _ px⟩
      · rw [e, zF4] at hc; cases hc
        rw [e]
        exact ⟨_, rfl, hz, ⟨_, hz⟩, fun x y px k => k _ px⟩
/-- the name is walked; then nothing is known of the iterator -/
def iZv (K : PySem.W.Frag) (n i : Nat) : TI := fun σ H R => ∃ (z a b : Addr) (H1 : Hp), (∃ σ0 : L2.St, σ = σ0.set i (some (.ref (z + 4)))) ∧ H = lay (zF z a b) H1 ∧ n ≤ z ∧ (∀ c, z ≤ c → H1 c = none) ∧ ZipApart (z + 4) (z + 2) (z + 3) z (z + 1) a b ∧ R (Itz K a b) H1
theorem pi_zv {X : Cx} {elts : List Expr} {kk : Nat} {tpos p : Pos} {x : Str} {i : Nat} (hN : X.N[i]? = some x) (hv : PE X (.Name x p) (fun σ H Q => ∃ v, σ[i]? = some (some v) ∧ Q v H)) : PI X (.Tuple elts kk tpos) (.Name x p) (iZv X.K X.s_0.heap.objs.size i) := by
  refine ⟨fun pins s σ H R I h => ?_⟩
  obtain ⟨z, a, b, H1, ⟨σ0, es⟩, rfl, hn, hf, D, q⟩ := h
  have hs : σ[i]? = some (some (.ref (z + 4))) := by
    have hl : i < σ.length := by rw [I.len]; exact (List.getElem?_eq_some_iff.mp hN).1
    rw [es, List.length_set] at hl
    rw [es, List.getElem?_set_self hl]
  refine thn (hv.run pins s σ _ (fun v H2 => v = .ref (z + 4) ∧ H2 = lay (zF z a b) H1) I ⟨.ref (z + 4), hs, rfl, rfl⟩) fun u s1 ⟨v, H2, I1, r1, ev, eH⟩ => ?_
  subst ev
  subst eH
  cases r1
  have g : ∀ {c : Addr} {φ : Heap → Prop}, zF z a b c = some (.ext φ) → φ s1.heap := fun {c φ} hc => (I1.hok c _ (lay_some hc)).1
  have h4 := g zF4
  have h3 := g zF3
  have h2 := g zF2
  have h1 := g zF1
  have h0 := g zF0
  refine wpAny_pyIter_zip h4 ⟨z + 4, [z + 4, z + 2, z + 3, z, z + 1], _, _, H1, rfl, inv_unlay I1 fun c o hc => ⟨hf c (zF_in hc).1, (zF_in hc).2⟩, turn_zip D, ⟨h4, h2, ⟨_, _, h3⟩, h0, h1⟩, fun c hc => ?_, q⟩
  have e : c = z + 4 ∨ c = z + 2 ∨ c = z + 3 ∨ c = z ∨ c = z + 1 := by simpa using hc
  obtain ⟨l1, o, ho⟩ := zF_at (a := a) (b := b) e
  exact fp_unlay I1 ho (hf c l1) (Nat.le_trans hn l1)
section
variable {Γ : GE} {k : Nat}
/-- the turns of a comprehension, whatever is walked -/
theorem lc_rd {own : List (Str × Nat)} {g : MG} {t : MO} {el : ME} {K : PySem.W.Frag} {R : Addr → Prop} {H0 H1 : Hp} {σ : Sg} {σv : L2.St} {G1 : DH} {ds : List D} {src : List (Addr × List D)} {J : It} {Qv : VK} {QQ : List D → DH → Prop}
    (hlen : ds.length ≤ sizeLine) (q : lcD src (fun d σ1 G2 K => wpG Γ g d nowish σ1 G2 K) (fun σ1 G2 K => wpC Γ t nowish σ1 G2 K) (fun σ1 G2 K => wpE Γ el nowish σ1 G2 K) QQ (wipeD σ own) ds [] G1) (wk : WkD K J ds src H1) (s1 : SR K R H0 σ G1 σv H1)
    (out : ∀ Da H2 G2 acc, QQ acc G2 → G2 Da = none → SR K R H0 σ (put G2 Da (.lst acc)) σv H2 → Keep R H1 H2 → Qv (.ref Da) H2) :
    ∀ Da, H1 Da = none → ∃ W : Nat → Nat → Hp → Prop, (∃ m, W 0 m (upd H1 Da (.lst []))) ∧ ∀ i m H, W i m H →
      (J.stop i H ∧ Qv (.ref Da) H) ∨ (J.go i H ∧ ∃ Nx : Hp → Prop, (∀ H', Nx H' → ∃ m', m' < m ∧ W (i + 1) m' H') ∧ ∀ x H', J.yld i H x H' → (∃ p : (Addr → Prop) × Hp, lG K p.1 p.2 nowish (some own) (wpG Γ g) x (wipe σv (own.map (·.2))) H' fun σ2 H2 => wipe σ2 (own.map (·.2)) = wipe σv (own.map (·.2)) ∧
        ∃ p : (Addr → Prop) × Hp, lT K p.1 p.2 nowish (wpC Γ t) σ2 H2 fun b H3 => if b = true then (∃ p : (Addr → Prop) × Hp, lE K p.1 p.2 nowish (wpE Γ el) σ2 H3 fun y H4 => ∃ acc, H4 Da = some (.lst acc) ∧ acc.length < sizeLine ∧ Nx (upd H4 Da (.lst (acc ++ [y])))) else Nx H3)) := by
  intro Da hD
  have hRD : ¬ R Da := fun r => s1.nres Da r hD
  have hs := sizeLine_eq
  generalize hgg : (fun (d : D) (σ1 : Sg) (G2 : DH) (K : Sg → DH → Prop) => wpG Γ g d nowish σ1 G2 K) = gg at q
  generalize htt : (fun (σ1 : Sg) (G2 : DH) (K : Bool → DH → Prop) => wpC Γ t nowish σ1 G2 K) = ttt at q
  generalize hee : (fun (σ1 : Sg) (G2 : DH) (K : QD) => wpE Γ el nowish σ1 G2 K) = eee at q
  refine ⟨fun i m H2 => m + i = ds.length ∧ ∃ G2 acc vacc, SR K R H0 σ G2 σv H2 ∧ G2 Da = none ∧ H2 Da = some (.lst vacc) ∧ Rps K H2 acc vacc ∧ acc.length ≤ i ∧ Keep R H1 H2 ∧ lcD src gg ttt eee QQ (wipeD σ own) (ds.drop i) acc G2,
    ⟨ds.length, rfl, G1, [], [], s1.hid hD, s1.free hD, upd_same, rfl, Nat.le_refl _, Keep.new hD s1.nres, q⟩, ?_⟩
  rintro i m H2 ⟨hm, G2, acc, vacc, s2, gD, hDa, racc, hal, k2, q2⟩
  by_cases hi : i < ds.length
  · right
    rw [List.drop_eq_getElem_cons hi] at q2
    obtain ⟨so, q2⟩ := q2
    have hd : ds[i]? = some ds[i] := by simp [hi]
    refine ⟨wk.go i G2 H2 hi s2.gr so k2.t, fun H' => ∃ G2 acc vacc, SR K R H0 σ G2 σv H' ∧ G2 Da = none ∧ H' Da = some (.lst vacc) ∧ Rps K H' acc vacc ∧ acc.length ≤ i + 1 ∧ Keep R H1 H' ∧ lcD src gg ttt eee QQ (wipeD σ own) (ds.drop (i + 1)) acc G2,
      fun H' hN => ⟨m - 1, by omega, by omega, hN⟩, fun x H3 y => ?_⟩
    have hR' : ∀ a, (R a ∨ a = Da) → H2 a ≠ none ∧ G2 a = none := fun a r => by
      rcases r with r | r
      · exact s2.rs a r
      · rw [r, hDa]; exact ⟨fun z => (by cases z), gD⟩
    have si : SR K (fun a => R a ∨ a = Da) H2 (wipeD σ own) G2 (wipe σv (own.map (·.2))) H2 := (s2.wiped own).resv hR'
    obtain ⟨s3, r3, k3⟩ := wk.next hd si so k2.t y
    subst hgg htt hee
    refine ⟨⟨_, H2⟩, ds[i], wipeD σ own, G2, _, r3, s3, q2, fun σ4 G4 σv4 H4 q4 s4 k4 o4 => ⟨?_, ⟨_, H2⟩, σ4, G4, _, s4, q4, fun b G5 H5 q5 s5 k5 => ?_⟩⟩
    · have : wipe σv4 (own.map (·.2)) = wipe (wipe σv (own.map (·.2))) (own.map (·.2)) := o4
      rw [this, wipe_idem]
    · have kk5 := (k3.trans k4).trans k5
      cases b with
      | false =>
        exact ⟨G5, acc, vacc, s2.after s5.gR kk5 fun a r => .inl r, s5.gR.2 Da (.inr rfl), (kk5.res Da (.inr rfl)).trans hDa, racc.keep kk5, Nat.le_succ_of_le hal, k2.trans (kk5.mono fun a r => .inl r), q5⟩
      | true =>
        refine ⟨⟨_, H2⟩, σ4, G5, _, s5, q5, fun yd G6 v H6 q6 r6 s6 k6 => ?_⟩
        have kk6 := kk5.trans k6
        have hD6 : H6 Da = some (.lst vacc) := (kk6.res Da (.inr rfl)).trans hDa
        have so6 := s2.after s6.gR kk6 fun a r => .inl r
        obtain ⟨s7, k7⟩ := so6.hidw (o := .lst (vacc ++ [v])) hD6 (s6.gR.2 Da (.inr rfl)) hRD (fun _ z => nomatch z) (fun _ _ z => nomatch z)
        refine ⟨vacc, hD6, by rw [racc.length]; omega, G6, acc ++ [yd], vacc ++ [v], s7, s6.gR.2 Da (.inr rfl), upd_same, ((racc.keep kk6).append (Rps.one r6)).keep k7, by simp; omega, (k2.trans (kk6.mono fun a r => .inl r)).trans k7, q6⟩
  · left
    have e : i = ds.length := by omega
    subst e
    rw [List.drop_length] at q2
    obtain ⟨so, q2⟩ := q2
    exact ⟨wk.stop G2 H2 s2.gr so k2.t, out Da H2 G2 acc q2 gD (s2.shown ⟨vacc, hDa, racc⟩ hRD) k2⟩
theorem ss_zlc (i : Nat) {a b : ME} (j : Nat) (own : List (Str × Nat)) (g : MG) (el : ME) {ss : MSs} (hss : OkSs Γ k ss) : OkSs Γ k (.zlc i a b j own g el ss) := by
  intro c R H0 W X S Y su s h
  simp only [chSs] at h
  split at h
  case h_2 => exact absurd h Bool.false_ne_true
  rename_i x p1 z pz ea eb pc pos1 y p2 xe tg x' p3 as scope posc pos2 rest
  obtain ⟨h, k17⟩ := and3 h
  obtain ⟨h, k16⟩ := and3 h
  obtain ⟨h, k15⟩ := and3 h
  obtain ⟨h, k14⟩ := and3 h
  obtain ⟨h, k13⟩ := and3 h
  obtain ⟨h, k12⟩ := and3 h
  obtain ⟨h, k11⟩ := and3 h
  obtain ⟨h, k10⟩ := and3 h
  obtain ⟨h, k9⟩ := and3 h
  obtain ⟨h, k8⟩ := and3 h
  obtain ⟨h, k7⟩ := and3 h
  obtain ⟨h, k6⟩ := and3 h
  obtain ⟨h, k5⟩ := and3 h
  obtain ⟨h, k4⟩ := and3 h
  obtain ⟨h, k3⟩ := and3 h
  obtain ⟨k1, k2⟩ := and3 h
  obtain ⟨e1, e2, e3⟩ := of_decide_eq_true k1
  subst e1 e2 e3
  obtain ⟨es, kk, tp, rfl⟩ := isTup_of k5
  have lx := locP_of S k7
  have ly := locP_of S k9
  have blk : BlkOk X.N X.env.scope scope own := by rw [S.N, S.sc]; exact blkOk_by k12
  have sx := fun (R' : Addr → Prop) (H0' : Hp) => S.blk su blk.kind R' H0'
  have hpa := pa_cons (okE Γ k a S k10) (pa_cons (okE Γ k b S k11) (pa_nil (X := X)) (star1 k4)) (star1 k3)
  have pe1 := pe_zipV (pos := pc) (p := pz) (S.gl k2) (S.ok.bt _ (by decide +kernel)) hpa (star1 k3) (star_any pc (es := [eb]) (by rw [List.all_cons, k4]; rfl))
  have ps1 : PS X (.Assign [.Name x' p1] (.Call (.Name "zip" pz) [ea, eb] [] pc) pos1) _ := ps_set (pos' := p1) (pos := pos1) S.ndX (S.at k6) (.inl lx) pe1 rfl (.inr lx)
  have hpi := pi_zv (elts := es) (kk := kk) (tpos := tp) (S.at k6) (pe_var (X := X) (pos := p3) (i := i) (x := x') (S.at k6) (.inl lx) (ok_d k16).1 (ok_d k16).2.1)
  have pg : ∀ (s : Shared) (H : Hp) (C : Addr) (cl : List (Str × Addr)) (fp : List Addr), PG (X.blk s H scope (compEnvC scope cl C X.env) fp) (.Tuple es kk tp) fun v σ H Q => ∃ p : (Addr → Prop) × Hp, lG X.K p.1 p.2 nowish (some own) (wpG Γ g) v σ H Q :=
    fun s H C cl fp => ⟨fun pins s' σ H' v u Q I r ⟨p, z⟩ => (okG Γ k g (sx p.1 p.2 s H C cl fp) (o := some own) (fun o e => by cases e; exact k14) k13).run pins s' σ H' v u Q I r z⟩
  have pt : ∀ (s : Shared) (H : Hp) (C : Addr) (cl : List (Str × Addr)) (fp : List Addr), PTs (X.blk s H scope (compEnvC scope cl C X.env) fp) [] fun σ H Q => ∃ p : (Addr → Prop) × Hp, lT X.K p.1 p.2 nowish (wpC Γ .none) σ H Q :=
    fun s H C cl fp => ⟨fun pins s' σ H' Q I ⟨p, z⟩ => (okC Γ k .none (sx p.1 p.2 s H C cl fp) (es := []) rfl).run pins s' σ H' Q I z⟩
  have pee : ∀ (s : Shared) (H : Hp) (C : Addr) (cl : List (Str × Addr)) (fp : List Addr), PE (X.blk s H scope (compEnvC scope cl C X.env) fp) xe fun σ H Q => ∃ p : (Addr → Prop) × Hp, lE X.K p.1 p.2 nowish (wpE Γ el) σ H Q :=
    fun s H C cl fp => PEx fun p => okE Γ k el (sx p.1 p.2 s H C cl fp) k15
  have ps2 : PS X (.Assign [.Name y p2] (.ListComp xe [⟨.Tuple es kk tp, .Name x' p3, [], 0⟩] scope posc) pos2) (tAsg (tLc (iZv X.K X.s_0.heap.objs.size i) (fun v σ H Q => ∃ p : (Addr → Prop) × Hp, lG X.K p.1 p.2 nowish (some own) (wpG Γ g) v σ H Q)
      (fun σ H Q => ∃ p : (Addr → Prop) × Hp, lT X.K p.1 p.2 nowish (wpC Γ .none) σ H Q) (fun σ H Q => ∃ p : (Addr → Prop) × Hp, lE X.K p.1 p.2 nowish (wpE Γ el) σ H Q) (own.map (·.2))) (gName j)) := by
    have hb : swapsWith (.ListComp xe [⟨.Tuple es kk tp, .Name x' p3, [], 0⟩] scope posc) (some (.Name y p2)) pos2.line X.env = pure (X.env.blockKind == .function && X.env.kindOf y == some .local && p2.line == (Expr.ListComp xe [⟨.Tuple es kk tp, .Name x' p3, [], 0⟩] scope posc).pos.line && !(scope.names.any fun (n, k) => n == y && (k == .local || k == .cell))) := rfl
    cases hc : (X.env.blockKind == .function && X.env.kindOf y == some .local && p2.line == (Expr.ListComp xe [⟨.Tuple es kk tp, .Name x' p3, [], 0⟩] scope posc).pos.line && !(scope.names.any fun (n, k) => n == y && (k == .local || k == .cell))) with
    | false => rw [hc] at hb; exact ps_set S.ndX (S.at k8) (.inl ly) (pe_lc (S.cm su) S.ndX hpi blk pg pt pee (fun _ => rfl)) hb (.inr ly)
    | true => rw [hc] at hb; exact ps_setLc (S.cm su) S.ndX (S.at k8) ly hb hpi blk pg pt pee (fun _ => rfl)
  refine PSsi (pss_cons ps1 (pss_cons ps2 (hss S Y su k17))) fun D σv H ⟨σ, G, DD, sr, t, le⟩ => ?_
  refine ⟨σ, G, _, sr, t, fun x G1 v H1 q r s1 k1 => ⟨σ, G1, _, s1, q, fun y G2 w H2 q2 r2 s2 k2 => ?_⟩⟩
  obtain ⟨pa, pb, ds, es', ex, ey, ea1, eb1, hl, q2⟩ := q2
  subst ex ey
  obtain ⟨vs, qa, rv⟩ := s2.sqL ea1
  obtain ⟨ws, qb, rw'⟩ := s2.sqL eb1
  refine ⟨pa, pb, vs, ws, by rw [show v = V.ref pa from r, show w = V.ref pb from r2], qa, qb, fun z hz hf hD => ?_⟩
  refine ⟨z, pa, pb, H2, ⟨σv, rfl⟩, rfl, hz, hf, hD, ?_⟩
  exact lc_rd (Qv := fun v H3 => gName j v (σv.set i (some (.ref (z + 4)))) H3 (lS X.K R H0 W (wpSs Γ ss) D)) (σ := st σ i none) hl q2 wk_zip (s2.unslot i (some (.ref (z + 4)))) fun Da H3 G3 acc qq gD s3 k3 => ⟨st (st σ i none) j (some (.ref Da)), put G3 Da (.lst acc), DD, s3.slot j (d := .ref Da) rfl, qq Da gD, le.back ((k1.trans k2).trans k3)⟩
end
end DL

set_option Elab.async false
set_option linter.all false
set_option maxRecDepth 100000
set_option maxHeartbeats 4000000
/-! DL18: raise, try; all statements together. -/
namespace DL
open PySem PySem.Spec PyProof.Rows L2
section
variable {Γ : GE} {k : Nat}
/-- X(), X an own exception class without an own __init__ -/
theorem pmk_zero {X : Cx} {C : Addr} {x : Str} {p pos : Pos} (q : PySem.W.excIn X.K C veB "ValueError.__new__" = true) (gC : X.mg x = some (.ref C)) (kC : PySem.W.keepIn X.K (.ref C) = true) (r : Raises X (.ref C)) (hg : Gl X x) (hdb : (x == ("__debug__" : Str)) = false) :
    PMk X (.Call (.Name x p) [] [] pos) (fun _ H Q => Q (.ref C) none H) := by
  intro pins s σ H Q I h
  refine wpAny_Call_Name_kw (ld_glob I hg gC ?_ hdb)
  refine PySem.W.callWith_K0 I.kIn kC ?_
  obtain ⟨bm, N, nm, qn, bs, hdct, sn, sub, ab, col, dd, k0, k1, k2, k3, k5, mN, hC, hN, hni, T⟩ := exc_obj I.kIn q
  exact wpAny_call_exc_subT F.excBase_ValueError T hC hN hni (fun h' e hm => mk_of I hm r h (I.hok.gone hm.new)) (Nat.zero_le _)
theorem s_raise (x : Str) (ms : MEs) : OkS Γ k (.raise x ms) := by
  intro c R H0 W X S Y su s h
  simp only [chS] at h
  split at h
  case h_2 => exact absurd h Bool.false_ne_true
  rename_i y p args p2 pos
  obtain ⟨h, h5⟩ := and3 h
  obtain ⟨h, h4⟩ := and3 h
  obtain ⟨h, h3⟩ := and3 h
  obtain ⟨h1, h2⟩ := and3 h
  have e1 := of_decide_eq_true h1
  subst e1
  refine ⟨fun pins s' σv H D I ⟨σ, G, DD, sr, ⟨fs, hf, hn, t⟩, le⟩ => ?_⟩
  have ex := S.ok.exc _ fs hf
  have hn2 := chEs_n h5
  rcases fs with _ | ⟨f, _ | ⟨f2, fs⟩⟩
  · obtain ⟨C, mC, eC, kC, bC, tC'⟩ := ex
    cases args with
    | cons _ _ => rw [← hn] at hn2; exact absurd hn2 (by simp)
    | nil =>
      cases ms with
      | cons _ _ => exact absurd h5 Bool.false_ne_true
      | nil =>
        refine (ps_raise (S.cm su) S.tk (pmk_zero eC mC kC (raises_own bC tC') (S.gl h2) (ok_d h3).1)).run pins s' σv H D I ?_
        exact ⟨⟨y, []⟩, σ, G, t, ⟨C, mC, rfl, .inl rfl⟩, sr⟩
  · obtain ⟨C, fI, fd, mC, oC, iC, tI, F1, B, no, xf⟩ := ex
    rcases args with _ | ⟨e, _ | ⟨e2, es⟩⟩
    · rw [← hn] at hn2; exact absurd hn2 (by simp)
    · obtain ⟨n1, _⟩ := star_hd h4
      have rm : Room (1 + 1) X.A := (S.rm su).mono S.k2
      refine (ps_raise (S.cm su) S.tk (pmk_oex oC iC tI F1 rm B .nil (passes_call S.tk fun _ _ _ _ z => z.elim) (S.gl h2) mC (okAs Γ k ms S h5) (ok_d h3).1 (star1 n1) rfl)).run pins s' σv H D I ?_
      refine ⟨σ, G, _, sr, t, fun ds G1 vs H1 q hl r s1 k1 => ?_⟩
      rw [← hn2] at hl
      rcases ds with _ | ⟨d, _ | ⟨d2, ds⟩⟩
      · exact absurd hl (by simp)
      · obtain ⟨v, ev, rv⟩ := rps1 r
        subst ev
        refine ⟨by simp, fun a ha => ⟨a, v, rfl, oC, no, upd_same, fun dx hdx hne => ⟨rfl, dx, [(f, v)], upd_same, by rw [upd_ne hne, upd_same], ?_, ?_⟩⟩⟩
        · rw [upd_ne hne] at hdx; exact hdx
        · have hdx1 : H1 dx = none := by rw [upd_ne hne] at hdx; exact hdx
          have eH : upd (del (upd (upd (upd H1 a (exo a C none)) dx (exd dx [(f, v)])) a (exo a C (some dx))) a) dx (.xd [(f, v)]) = upd H1 dx (.xd [(f, v)]) := by
            funext b
            by_cases hb : b = dx
            · subst hb; rw [upd_same, upd_same]
            · rw [upd_ne hb, upd_ne hb]
              by_cases hba : b = a
              · subst hba; rw [del_same, ha]
              · rw [del_ne hba, upd_ne hba, upd_ne hb, upd_ne hba]
          rw [eH]
          have kk : Keep R H1 (upd H1 dx (.xd [(f, v)])) := Keep.new hdx1 s1.nres
          exact ⟨⟨y, [(f, d)]⟩, σ, G1, q, ⟨C, mC, rfl, .inr ⟨⟨xf, fun p hp => by rw [List.mem_singleton.mp hp]; exact no⟩, dx, [(f, v)], rfl, upd_same, v, [], rfl, rv.keep kk, rfl⟩⟩, s1.hid hdx1⟩
      · exact absurd hl (by simp)
    · rw [← hn] at hn2; exact absurd hn2 (by simp)
  · exact False.elim ex
/-! ### try -/
theorem SR.anchor {K : PySem.W.Frag} {R : Addr → Prop} {H0 H1 H : Hp} {σ : Sg} {G : DH} {σv : L2.St} (s : SR K R H1 σ G σv H) (k : Keep R H0 H1) : SR K R H0 σ G σv H := ⟨s.len, s.sl, s.gr, s.rs, k.trans s.kp⟩
/-- what a suite knows of the exception it holds -/
def CurP (X : Cx) (R : Addr → Prop) (H0 : Hp) (xd : XD) (cls : Value) (d : Option Addr) : Prop := ∃ C, X.mg xd.cls = some (.ref C) ∧ cls = .ref C ∧ (∀ f v, xd.fs.lookup f = some v → XfC X.K C ∧ PySem.W.findIn X.K (.ref C) f = some none) ∧
  (xd.fs = [] ∨ ∃ dd fvs, d = some dd ∧ R dd ∧ H0 dd = some (.xd fvs) ∧ RFs X.K H0 xd.fs fvs)
theorem SX.suite {c : CT} {R : Addr → Prop} {H0 : Hp} {W : WD} {X : Cx} (S : SX Γ k c R H0 W X) {R' : Addr → Prop} {H0' : Hp} {xd : XD} {cls : Value} {d : Option Addr} {a : Addr} {oe : Obj} {pn : List (Addr × Obj)} (p : CurP X R' H0' xd cls d) (hz : Zc cls d oe) (hf : ∃ vs, oe.data = .fields vs) :
    SX { Γ with cur := some (a, xd) } k { c with su := true } R' H0' nowish (X.suite a ((a, oe) :: pn)) where
  N := S.N
  nd := S.nd
  sc := S.sc
  fk := S.fk
  fn := S.fn
  un := S.un
  k2 := S.k2
  rm := fun h => absurd (show true = false from h) (by decide)
  cm := fun h => absurd (show true = false from h) (by decide)
  ok := ⟨S.ok.fn, S.ok.bt, S.ok.gcd, S.ok.cmb, S.ok.con, S.ok.exc, S.ok.exb, S.ok.exm, S.ok.exi, S.ok.ns, S.ok.tr⟩
  tk := takes_none5.imp fun _ _ _ _ ⟨_, _, _, z, _⟩ => z
  cu := fun _ => by
    obtain ⟨C, p1, p2, p3, p4⟩ := p
    exact ⟨a, xd, rfl, X, oe, pn, cls, d, C, rfl, hz, hf, p1, p2, p3, p4⟩
  ph := ⟨S.ph.tr, S.ph.dp, S.ph.fr, S.ph.ns⟩
theorem lookup_mem {f : Str} {v : D} : ∀ {l : List (Str × D)}, l.lookup f = some v → (f, v) ∈ l
  | [], h => by cases h
  | (x, d) :: l, h => by
    rw [List.lookup_cons] at h
    cases e : f == x with
    | true =>
      rw [e] at h
      cases h
      rw [eq_of_beq e]
      exact List.mem_cons_self
    | false =>
      rw [e] at h
      exact List.mem_cons_of_mem _ (lookup_mem h)
theorem mix_of {c : CT} {R : Addr → Prop} {H0 : Hp} {W : WD} {X : Cx} (S : SX Γ k c R H0 W X) : ∀ {hs : List MH} {hds : List ExceptHandler}, chHs c hs hds = true → (hs.all fun h => Γ.exb h.cls) = true → ∃ cl, MixOk X hds cl ∧
    ∀ {H1 : Hp} {D : Ends} {DD : DEnds} {xd : XD} {cls : Value} {d : Option Addr} {σ : Sg} {G : DH} {σv : L2.St} {H : Hp}, Keep R H0 H1 → LE X.K R H0 D DD H1 → RX X.K X.mg H xd cls d → SR X.K R H1 σ G σv H → wpH Γ W DD hs xd σ G → wMix X.K (lW X.K X.mg R H0 W) D cl cls d σv H
  | [], [], _, _ => ⟨[], .nil, fun k0 _ rx sr w => ⟨_, _, _, w, rx, sr.anchor k0⟩⟩
  | [], _ :: _, h, _ => absurd h Bool.false_ne_true
  | _ :: _, [], h, _ => absurd h Bool.false_ne_true
  | h :: hs, hd :: hds, hc, he => by
    obtain ⟨hc1, hc2⟩ := and3 hc
    rw [List.all_cons] at he
    obtain ⟨he1, he2⟩ := and3 he
    obtain ⟨cl, mx, rd⟩ := mix_of S hc2 he2
    have key : ∃ np nm e rp hp, hd = .ExceptHandler (some (.Name h.cls np)) nm [.Return (some e) rp] hp ∧ glB c.sc h.cls = true ∧ (match nm, h.as with
        | none, none => true
        | some n, some i => atN c i n && locP c n
        | _, _ => false) = true ∧ chE { c with su := true } h.ret e = true := by
      unfold chH at hc1
      split at hc1
      case h_2 => exact absurd hc1 Bool.false_ne_true
      rename_i x np nm e rp hp
      obtain ⟨q, q4⟩ := and3 hc1
      obtain ⟨q, q3⟩ := and3 q
      obtain ⟨q1, q2⟩ := and3 q
      have e1 := of_decide_eq_true q1
      subst e1
      exact ⟨np, nm, e, rp, hp, rfl, q2, q3, q4⟩
    obtain ⟨np, nm, e, rp, hp, rfl, g1, g2, g3⟩ := key
    obtain ⟨db, Cy, mCy⟩ := S.ok.exb _ he1
    have asok : AsOk X nm h.as := by
      cases nm with
      | none =>
        cases e1 : h.as with
        | none => trivial
        | some i => rw [e1] at g2; exact absurd g2 Bool.false_ne_true
      | some n =>
        cases e1 : h.as with
        | none => rw [e1] at g2; exact absurd g2 Bool.false_ne_true
        | some i =>
          rw [e1] at g2
          obtain ⟨a1, a2⟩ := and3 g2
          exact ⟨S.at a1, locP_of S a2⟩
    refine ⟨(.ref Cy, h.as, fun a cls d D σ H => ∃ xd R' H0', CurP X R' H0' xd cls d ∧ lE X.K R' H0' nowish (wpE { Γ with cur := some (a, xd) } h.ret) σ H D.rt) :: cl, .cons ⟨S.gl g1, db, .inl mCy⟩ asok (fun a oe cls d pn hz hf => ?_) mx, ?_⟩
    · have pe : PE (X.suite a ((a, oe) :: pn)) e (fun σ H Q => ∃ xd R' H0', CurP X R' H0' xd cls d ∧ lE X.K R' H0' nowish (wpE { Γ with cur := some (a, xd) } h.ret) σ H Q) :=
        ⟨fun pins s σ H Q I ⟨xd, R', H0', p, z⟩ => (okE { Γ with cur := some (a, xd) } k h.ret (S.suite p hz hf) g3).run pins s σ H Q I z⟩
      exact pss_one (ps_ret pe)
    · intro H1 D DD xd cls d σ G σv H k0 le rx sr w
      obtain ⟨m, em, wy, wn⟩ := w
      obtain ⟨C, mC, eC, rf⟩ := id rx
      obtain ⟨Cx, Cy', m1, m2, m3⟩ := S.ok.exm _ _ _ em
      rw [mC] at m1; cases m1
      rw [mCy] at m2; cases m2
      subst eC
      refine ⟨m, m3, fun hm a ha => ?_, fun hm => rd k0 le rx sr (wn hm)⟩
      have w1 := wy hm a (sr.free ha)
      have hR' : ∀ b, (R b ∨ (d = some b ∧ xd.fs ≠ [])) → H b ≠ none ∧ G b = none := by
        rintro b (r | ⟨r1, r2⟩)
        · exact sr.rs b r
        · rcases rf with z | ⟨_, dd, fvs, ed, hdd, _⟩
          · exact absurd z r2
          · rw [ed] at r1; cases r1
            refine ⟨by rw [hdd]; exact fun z => (by cases z), ?_⟩
            cases eg : G b with
            | none => rfl
            | some o =>
              have z := sr.gr b o eg
              cases o with
              | lst _ => obtain ⟨_, z, _⟩ := z; rw [hdd] at z; cases z
              | dct _ => obtain ⟨_, z, _⟩ := z; rw [hdd] at z; cases z
      refine ⟨xd, fun b => R b ∨ (d = some b ∧ xd.fs ≠ []), H, ⟨C, mC, rfl, fun f v lk => ?_, ?_⟩, ?_⟩
      · rcases rf with z | ⟨⟨xf, no⟩, _⟩
        · rw [z] at lk; cases lk
        · exact ⟨xf, no (f, v) (lookup_mem lk)⟩
      · rcases rf with z | ⟨_, dd, fvs, ed, hdd, rr⟩
        · exact .inl z
        · by_cases z : xd.fs = []
          · exact .inl z
          · exact .inr ⟨dd, fvs, ed, .inr ⟨ed, z⟩, hdd, rr⟩
      · have s0 : SR X.K (fun b => R b ∨ (d = some b ∧ xd.fs ≠ [])) H σ G σv H := sr.resv hR'
        have s1 : SR X.K (fun b => R b ∨ (d = some b ∧ xd.fs ≠ [])) H (match h.as with | none => σ | some i => st σ i (some (.ref a))) G (slotAs h.as a σv) H := by
          cases h.as with
          | none => exact s0
          | some i => exact s0.slot i (d := .ref a) rfl
        exact ⟨_, G, DD.rt, s1, w1, fun d' G' v' H' q r s' k' => le.rt d' G' v' H' q r ⟨s'.gr, fun b rb => (s'.rs b (.inl rb)).2⟩ (sr.kp.trans (k'.mono fun b rb => .inl rb))⟩
theorem s_try {b : MSs} (hs : List MH) (hb : OkSs Γ k b) : OkS Γ k (.tryy b hs) := by
  intro c R H0 W X S Y su s h
  simp only [chS] at h
  split at h
  case h_2 => exact absurd h Bool.false_ne_true
  rename_i x hd hds pos
  obtain ⟨h1, h2⟩ := and3 h
  refine ⟨fun pins s' σv H D I ⟨σ, G, DD, sr, ⟨hx, t⟩, le⟩ => ?_⟩
  obtain ⟨cl, mx, rd⟩ := mix_of S h2 hx
  refine (ps_try_mix (tb := fun Wv D σv H => ∃ (W' : WD) (H1 : Hp), (∀ cls d σ H, lW X.K X.mg R H1 W' cls d σ H → Wv cls d σ H) ∧ lS X.K R H1 W' (wpSs Γ b) D σv H) Y.stk Y.frm S.ndX S.tk (fun Wv pn xe tk po => ?_) mx).run pins s' σv H D I ?_
  · refine ⟨fun pins s σ H D I ⟨W', H1, hw, z⟩ => (hb (c := c) (R := R) (H0 := H1) (W := W') (X := X.tr pn xe) ⟨S.N, S.nd, S.sc, S.fk, S.fn, S.un, S.k2, S.rm, S.cm, S.ok, tk.imp hw, fun h => absurd h (by rw [su]; decide), ⟨S.ph.tr, S.ph.dp, S.ph.fr, S.ph.ns⟩⟩ ⟨Y.stk, Y.frm, po⟩ su h1).run pins s σ H D I z⟩
  · refine ⟨wpH Γ W DD hs, H, fun cls d σ1 H1 ⟨xd, σ2, G2, w, rx, s2⟩ => rd sr.kp ⟨le.nx, le.rt, le.bk, le.ct⟩ rx s2 w, σ, G, DD, sr.resv sr.rs, t, ?_⟩
    exact ⟨fun σ1 G1 σv1 H1 q s1 k1 => le.nx _ _ _ _ q (s1.anchor sr.kp) k1, le.rt, fun σ1 G1 σv1 H1 q s1 k1 => le.bk _ _ _ _ q (s1.anchor sr.kp) k1, fun σ1 G1 σv1 H1 q s1 k1 => le.ct _ _ _ _ q (s1.anchor sr.kp) k1⟩
end
section
variable (Γ : GE) (k : Nat)
mutual
theorem okS : (m : MS) → OkS Γ k m
  | .expr m => s_expr m
  | .ret m => s_ret m
  | .retN => s_retN
  | .par2 i j ms => s_par2 i j ms
  | .par3 i j l ms => s_par3 i j l ms
  | .asg g m => s_asg g m
  | .aug i op m => s_aug i op m
  | .augS o i op m => s_augS o i op m
  | .ifs t a b => s_ifs t (okSs a) (okSs b)
  | .whl t b => s_whl t (okSs b)
  | .forr g it b => s_for g it (okSs b)
  | .raise x ms => s_raise x ms
  | .tryy b hs => s_try hs (okSs b)
  | .pass => s_pass
  | .brk => s_brk
  | .cont => s_cont
theorem okSs : (ms : MSs) → OkSs Γ k ms
  | .nil => ss_nil
  | .cons m ms => ss_cons (okS m) (okSs ms)
  | .zlc i a b j own g el ms => ss_zlc i j own g el (okSs ms)
end
end
end DL

set_option Elab.async false
set_option linter.all false
set_option maxRecDepth 100000
set_option maxHeartbeats 4000000
/-! DL19: a def of the text keeps its plain promise; the module's names, one after another; the end. -/
namespace DL
open PySem PySem.Spec PyProof.Rows L2
/-- less of the heap is told -/
def Sub (G' G : DH) : Prop := ∀ a o, G' a = some o → G a = some o
theorem Sub.refl {G : DH} : Sub G G := fun _ _ h => h
theorem Sub.trans {G1 G2 G3 : DH} (a : Sub G1 G2) (b : Sub G2 G3) : Sub G1 G3 := fun x o h => b x o (a x o h)
theorem Sub.put {G : DH} {p : Addr} {o : DO} (h : G p = none) : Sub G (put G p o) := fun a u e => by
  rw [put_ne fun z => by rw [z, h] at e; cases e]; exact e
def startD (n : Nat) (ds : List D) : Sg := ds.map some ++ List.replicate (n - ds.length) none
def dEnds (Q : QD) : DEnds := { nx := fun _ G => Q .non G, rt := Q }
/-- the body runs: what is to be shown of it -/
def Runs (Γ : GE) (ms : MSs) (n : Nat) (ds : List D) (G : DH) (Q : QD) (E : ED) : Prop :=
  wpSs Γ ms (fun xd _ G1 => ∃ G2, Sub G2 G1 ∧ E xd G2) (dEnds fun d G1 => ∃ G2, Sub G2 G1 ∧ Q d G2) (startD n ds) G
theorem start_sl {K : PySem.W.Frag} {H : Hp} {N : List Str} : ∀ {ds : List D} {vs : List V}, Rps K H ds vs → (startD N.length ds).length = (L2.start N vs).length ∧ ∀ (i : Nat) (d : D), (startD N.length ds)[i]? = some (some d) → ∃ v, (L2.start N vs)[i]? = some (some v) ∧ Rp K H d v := by
  intro ds vs r
  have hl := r.length
  unfold startD L2.start
  refine ⟨by simp [hl], fun i d h => ?_⟩
  by_cases hi : i < ds.length
  · rw [List.getElem?_append_left (by simpa using hi), List.getElem?_map] at h
    cases e : ds[i]? with
    | none => rw [e] at h; cases h
    | some d' =>
      rw [e] at h
      cases h
      obtain ⟨v, e2, r2⟩ := r.get e
      exact ⟨v, by rw [List.getElem?_append_left (by rw [List.length_map]; omega), List.getElem?_map, e2]; rfl, r2⟩
  · rw [List.getElem?_append_right (by simpa using hi), List.getElem?_replicate] at h
    split at h <;> cases h
section
variable {Γ : GE} {k : Nat} {g : Nat} {P : Program} {w : World} {K : PySem.W.Frag} {mg : Str → Option Value} {base : Heap}
/-- THE RULE: a def of the text, whatever its defaults -/
theorem def_okA {x qual : Str} {st : Stmt} {f : Addr} {oc dV kV doc pm cdv ct : Value} {od an : Option Addr} {osl : Array (Option Value)} {N ps : List Str} {ms : MSs} {S : DSp} (ok : GOk Γ k g P w K mg base) (k2 : 34 ≤ k)
    (lk : K.lookup f = some ⟨oc, od, .func (PySem.W.fnOf x qual (defArgs st) (defBody st) (defScope st) dV kV doc pm an cdv ct), osl⟩) (hcd : PySem.W.codeIn K cdv qual = true) (sc : FnScope N ps (defScope st))
    (ck : chSs ⟨N, defScope st, defScope st, false, g⟩ ms (defBody st) = true) (run : ∀ ds G Q E, ds.length = ps.length → S ds G Q E → Runs Γ ms N.length ds G Q E) : FnOk P w K mg base (L2.CX P w) (k + 1) f (PySem.W.fnOf x qual (defArgs st) (defBody st) (defScope st) dV kV doc pm an cdv ct) ps (toSp K mg ps.length S) := by
  refine fn_of lk hcd sc (fun vs H Q E ⟨ds, _, _, _, hl, r, _⟩ => by rw [r.length, hl]) fun A outer s H vs Q E hr hsp => ?_
  obtain ⟨ds, G, Qd, Ed, hl, r, gr, hS, hQ, hE⟩ := hsp
  have sx : SX Γ k ⟨N, defScope st, defScope st, false, g⟩ (Rs H G) H (fun xd _ G1 => ∃ G2, Sub G2 G1 ∧ Ed xd G2) (cxOf (L2.CX P w) P w K mg base N qual (defScope st) f cdv A outer s H E) := {
    N := rfl, nd := sc.nd, sc := rfl, fk := sc.kind, fn := fun _ _ => rfl
    un := hr.units
    k2 := by omega, rm := fun _ => hr, cm := fun _ => rfl, ok := ok
    tk := (takes_of (X := cxOf (L2.CX P w) P w K mg base N qual (defScope st) f cdv A outer s H E) rfl rfl rfl rfl).imp fun cls d σ H' ⟨xd, σ1, G1, ⟨G2, sb, q⟩, rx, sr⟩ =>
      hE xd G2 cls d H' q rx ⟨fun a o e => sr.gr a o (sb a o e), fun a ra => by
        cases e : G2 a with
        | none => rfl
        | some o => have := (sr.rs a ra).2; rw [sb a o e] at this; cases this⟩ sr.kp
    cu := fun h => absurd h Bool.false_ne_true
    ph := ⟨ok.tr, by have := hr.dp; show (A.deeper (envOfC qual (defScope st) s.heap.objs.size f cdv)).depth + 100 < recursionLimit; omega, ⟨envOfC qual (defScope st) s.heap.objs.size f cdv, outer, rfl, sc.gen, sc.co, rfl, rfl⟩, ok.ns⟩ }
  have sy : SY (cxOf (L2.CX P w) P w K mg base N qual (defScope st) f cdv A outer s H E) := ⟨rfl, rfl, passes_of (X := cxOf (L2.CX P w) P w K mg base N qual (defScope st) f cdv A outer s H E) rfl⟩
  refine ⟨_, okSs Γ k ms sx sy rfl ck, startD N.length ds, G, _, ?_, run ds G Qd Ed hl hS, ?_⟩
  · obtain ⟨h1, h2⟩ := start_sl (N := N) r
    exact ⟨h1, h2, gr, fun a ra => ra, .refl⟩
  · have key : ∀ d G1 v H', (∃ G2, Sub G2 G1 ∧ Qd d G2) → Rp K H' d v → GR K (Rs H G) G1 H' → Keep (Rs H G) H H' → Q v H' := fun d G1 v H' ⟨G2, sb, q⟩ rd g1 kp =>
      hQ d G2 v H' q rd ⟨fun a o e => g1.1 a o (sb a o e), fun a ra => by
        cases e : G2 a with
        | none => rfl
        | some o => have := g1.2 a ra; rw [sb a o e] at this; cases this⟩ kp
    exact ⟨fun σ G1 σv H' q s1 k1 => key .non G1 .non H' q rfl s1.gR k1, fun d G1 v H' q rd g1 k1 => key d G1 v H' q rd g1 k1, fun _ _ _ _ z => z.elim, fun _ _ _ _ z => z.elim⟩
/-- a def of the text without defaults -/
theorem def_ok {x qual : Str} {st : Stmt} {f : Addr} {fd : FuncData} {N ps : List Str} {ms : MSs} {S : DSp} (ok : GOk Γ k g P w K mg base) (k2 : 34 ≤ k) (F : Fun K x qual st f fd) (sc : FnScope N ps (defScope st))
    (ck : chSs ⟨N, defScope st, defScope st, false, g⟩ ms (defBody st) = true) (run : ∀ ds G Q E, ds.length = ps.length → S ds G Q E → Runs Γ ms N.length ds G Q E) : FnOk P w K mg base (L2.CX P w) (k + 1) f fd ps (toSp K mg ps.length S) := by
  obtain ⟨oc, od, kV, doc, pm, an, cdv, ct, osl, rfl, lk, hcd⟩ := F.ex
  exact def_okA ok k2 lk hcd sc ck run
/-! ### the names of the module, one after another -/
def GE.add (Γ : GE) (f : Str) (fi : FI) : GE := { Γ with fn := fun x => if x = f then some fi else Γ.fn x }
theorem GOk.mono {j : Nat} (ok : GOk Γ j g P w K mg base) (h : j ≤ k) : GOk Γ k g P w K mg base :=
  ⟨fun f fi e => by
    obtain ⟨a, fd, h1, h2, h3, h4, h5⟩ := ok.fn f fi e
    exact ⟨a, fd, h1, h2, h3.mono h, h4, h5⟩, ok.bt, ok.gcd, ok.cmb, ok.con, ok.exc, ok.exb, ok.exm, ok.exi, ok.ns, ok.tr⟩
theorem GOk.add (ok : GOk Γ k g P w K mg base) {f : Str} {fi : FI} {a : Addr} {fd : FuncData} {x qual : Str} {st : Stmt} (hm : mg f = some (.ref a)) (hF : Fun K x qual st a fd) (F : FnOk P w K mg base (L2.CX P w) k a fd fi.ps (toSp K mg fi.ps.length fi.sp)) (B : Binds K fd fi.ps [])
    (KB : ∀ q ∈ fi.kws, KBd K fd fi.ps q.1 q.2.1 q.2.2 fi.dfl) : GOk (Γ.add f fi) k g P w K mg base :=
  ⟨fun f' fi' e => by
    by_cases hf : f' = f
    · subst hf
      have e' : fi = fi' := by simpa [GE.add] using e
      subst e'
      exact ⟨a, fd, hm, hF.kp, F, B, KB⟩
    · exact ok.fn f' fi' (by simpa [GE.add, hf] using e), ok.bt, ok.gcd, ok.cmb, ok.con, ok.exc, ok.exb, ok.exm, ok.exi, ok.ns, ok.tr⟩
/-- how a call with keywords binds, of a def of the text -/
theorem kbd_mk {x qual : Str} {st : Stmt} {f : Addr} {fd : FuncData} {ps ks : List Str} {n : Nat} {p : List Nat} (F : Fun K x qual st f fd)
    (h : ∀ (kV doc pm : Value) (an : Option Addr) (cdv ct : Value) (us ws : List Value), us.length = n → ws.length = ks.length → bindArgs (PySem.W.fnOf x qual (defArgs st) (defBody st) (defScope st) .none kV doc pm an cdv ct) ⟨us, ks.zip ws⟩ = pure (ps.zip (permL p (us ++ ws)))) : KBd K fd ps n ks p [] := by
  obtain ⟨oc, od, kV, doc, pm, an, cdv, ct, osl, rfl, lk, hcd⟩ := F.ex
  exact ⟨[], [], .nil, fun _ => rfl, fun s us ws _ h1 h2 => by rw [List.append_nil]; exact .of_eq (h kV doc pm an cdv ct us ws h1 h2)⟩
/-- the __init__ of an own exception: self.f = f -/
theorem init_ok {qual : Str} {st : Stmt} {C fI : Addr} {fd : FuncData} {f : Str} {p1 p2 p3 p4 pos : Pos} (F : Fun K "__init__" qual st fI fd) (sc : FnScope ["self", f] ["self", f] (defScope st)) (hb : defBody st = [.Assign [.Attribute (.Name "self" p1) f p2] (.Name f p3) pos])
    (h1 : (defScope st).names.lookup ("self" : Str) = some NameKind.local) (h2 : (defScope st).names.lookup f = some NameKind.local) (hf : okName f = true) : FnOk P w K mg base (L2.CX P w) 1 fI fd ["self", f] (spInit K C f) := by
  obtain ⟨oc, od, kV, doc, pm, an, cdv, ct, osl, rfl, lk, hcd⟩ := F.ex
  refine fn_of (k := 0) lk hcd sc (fun vs H Q E ⟨a, v, e, _⟩ => by rw [e]; rfl) fun A outer s H vs Q E hr hsp => ?_
  obtain ⟨a, v, e, oC, no, ha, q⟩ := hsp
  subst e
  rw [hb]
  refine ⟨_, pss_one (ps_ost (pe_var (i := 0) rfl (.inl h1)) (pe_var (i := 1) rfl (.inl h2) (ok_d hf).1 (ok_d hf).2.1) rfl), ?_⟩
  exact ⟨v, rfl, .ref a, rfl, a, C, rfl, oC, no, .inl ⟨ha, fun dx h1 h2 => q dx h1 h2⟩⟩
end
end DL

set_option Elab.async false
set_option linter.all false
set_option maxRecDepth 100000
set_option maxHeartbeats 4000000
/-! DL20: rules for loops and comprehensions in plain terms; the end of a law; what the module has at the start. -/
namespace DL
open PySem PySem.Spec PyProof.Rows L2
/-- a for: I i holds ahead of the turn i -/
theorem for_rule {src : List (Addr × List D)} {g : D → Sg → DH → (Sg → DH → Prop) → Prop} {b : DEnds → Sg → DH → Prop} {De : DEnds} {ds : List D} {σ : Sg} {G : DH} (I : Nat → Sg → DH → Prop) (h0 : I 0 σ G) (hs : ∀ i σ G, i ≤ ds.length → I i σ G → srcOk src G)
    (step : ∀ i d σ G (Kn : Sg → DH → Prop), ds[i]? = some d → I i σ G → (∀ σ' G', I (i + 1) σ' G' → Kn σ' G') → g d σ G fun σ1 G1 => b { De with nx := Kn, ct := Kn, bk := De.nx } σ1 G1)
    (fin : ∀ σ G, I ds.length σ G → De.nx σ G) : loopD src g b De ds σ G := by
  have key : ∀ (m i : Nat) (σ : Sg) (G : DH), m + i = ds.length → I i σ G → loopD src g b De (ds.drop i) σ G := by
    intro m
    induction m with
    | zero =>
      intro i σ G hm hI
      have e : i = ds.length := by omega
      subst e
      rw [List.drop_length]
      exact ⟨hs _ _ _ (Nat.le_refl _) hI, fin σ G hI⟩
    | succ m ih =>
      intro i σ G hm hI
      have hi : i < ds.length := by omega
      rw [List.drop_eq_getElem_cons hi]
      exact ⟨hs i σ G (Nat.le_of_lt hi) hI, step i ds[i] σ G _ (by simp [hi]) hI fun σ' G' z => ih (i + 1) σ' G' (by omega) z⟩
  have := key ds.length 0 σ G (by omega) h0
  rwa [List.drop_zero] at this
/-- a while: I n holds ahead of a turn, n falls -/
theorem while_rule {c : Sg → DH → (Bool → DH → Prop) → Prop} {b : DEnds → Sg → DH → Prop} {De : DEnds} {σ : Sg} {G : DH} (I : Nat → Sg → DH → Prop) (n : Nat) (h0 : I n σ G)
    (step : ∀ n σ G (Kn : Sg → DH → Prop), I n σ G → (∀ m σ' G', m < n → I m σ' G' → Kn σ' G') → c σ G fun t G1 => if t = true then b { De with nx := Kn, ct := Kn, bk := De.nx } σ G1 else De.nx σ G1) : ∃ N, whD c b De N σ G := by
  have key : ∀ (N n : Nat) (σ : Sg) (G : DH), n < N → I n σ G → whD c b De N σ G := by
    intro N
    induction N with
    | zero => intro n σ G h; exact absurd h (Nat.not_lt_zero _)
    | succ N ih => exact fun n σ G h hI => step n σ G _ hI fun m σ' G' hm z => ih m σ' G' (by omega) z
  exact ⟨n + 1, key (n + 1) n σ G (Nat.lt_succ_self n) h0⟩
/-- a comprehension that leaves the heap as it is -/
theorem lc_rule {src : List (Addr × List D)} {g : D → Sg → DH → (Sg → DH → Prop) → Prop} {t : Sg → DH → (Bool → DH → Prop) → Prop} {e : Sg → DH → QD → Prop} {Q : List D → DH → Prop} {σ : Sg} {G : DH} (p : D → Bool) (f : D → D) (hs : srcOk src G) :
    ∀ {ds acc : List D}, (∀ d ∈ ds, ∀ (K1 : QD) (K0 : DH → Prop), (if p d = true then K1 (f d) G else K0 G) → g d σ G fun σ1 G1 => t σ1 G1 fun b G2 => if b = true then e σ1 G2 K1 else K0 G2) → Q (acc ++ (ds.filter p).map f) G → lcD src g t e Q σ ds acc G
  | [], acc, _, q => ⟨hs, by simpa using q⟩
  | d :: ds, acc, h, q => by
    refine ⟨hs, h d List.mem_cons_self _ _ ?_⟩
    have ih : ∀ acc', Q (acc' ++ (ds.filter p).map f) G → lcD src g t e Q σ ds acc' G := fun acc' q' => lc_rule p f hs (fun d' hd => h d' (List.mem_cons_of_mem _ hd)) q'
    cases hp : p d with
    | true =>
      rw [if_pos rfl]
      exact ih _ (by rw [List.filter_cons_of_pos hp] at q; simpa using q)
    | false =>
      rw [if_neg Bool.false_ne_true]
      exact ih _ (by rw [List.filter_cons_of_neg (by rw [hp]; exact Bool.false_ne_true)] at q; exact q)
/-- .. without a condition -/
theorem lc_all {src : List (Addr × List D)} {g : D → Sg → DH → (Sg → DH → Prop) → Prop} {t : Sg → DH → (Bool → DH → Prop) → Prop} {e : Sg → DH → QD → Prop} {Q : List D → DH → Prop} {σ : Sg} {G : DH} (f : D → D) (hs : srcOk src G) {ds : List D}
    (h : ∀ d ∈ ds, ∀ (K1 : QD) (K0 : DH → Prop), K1 (f d) G → g d σ G fun σ1 G1 => t σ1 G1 fun b G2 => if b = true then e σ1 G2 K1 else K0 G2) (q : Q (ds.map f) G) : lcD src g t e Q σ ds [] G :=
  lc_rule (fun _ => true) f hs (fun d hd K1 K0 z => h d hd K1 K0 (by simpa using z)) (by rw [show ds.filter (fun _ => true) = ds from List.filter_eq_self.mpr fun _ _ => rfl, List.nil_append]; exact q)
/-- .. whose items are all left out -/
theorem lc_drop {src : List (Addr × List D)} {g : D → Sg → DH → (Sg → DH → Prop) → Prop} {t : Sg → DH → (Bool → DH → Prop) → Prop} {e : Sg → DH → QD → Prop} {Q : List D → DH → Prop} {σ : Sg} {G : DH} (hs : srcOk src G) {ds : List D}
    (h : ∀ d ∈ ds, ∀ (K1 : QD) (K0 : DH → Prop), K0 G → g d σ G fun σ1 G1 => t σ1 G1 fun b G2 => if b = true then e σ1 G2 K1 else K0 G2) (q : Q [] G) : lcD src g t e Q σ ds [] G :=
  lc_rule (fun _ => false) id hs (fun d hd K1 K0 z => h d hd K1 K0 (by simpa using z)) (by rw [show ds.filter (fun _ => false) = [] from List.filter_eq_nil_iff.mpr fun _ _ => Bool.false_ne_true]; exact q)
theorem srcOk_nil {G : DH} : srcOk [] G := fun _ h => by cases h
theorem srcOk_one {G : DH} {a : Addr} {ds : List D} (h : sqAt G a = some ds) : srcOk [(a, ds)] G := fun p hp => by
  rw [List.mem_singleton.mp hp]; exact h
@[simp] theorem sqAt_put {G : DH} {a : Addr} {ds : List D} : sqAt (put G a (.lst ds)) a = some ds := by unfold sqAt; rw [put_same]
@[simp] theorem put_at {G : DH} {a : Addr} {o : DO} : put G a o a = some o := put_same
@[simp] theorem put2 {G : DH} {a : Addr} {o u : DO} : put (put G a o) a u = put G a u := put_put
theorem ne_free {G : DH} {a b : Addr} {o : DO} (h : G a = some o) (h' : G b = none) : a ≠ b := fun z => by rw [z, h'] at h; cases h
theorem sqAt_some {G : DH} {a : Addr} {ds : List D} : sqAt G a = some ds ↔ G a = some (.lst ds) := by
  unfold sqAt
  cases e : G a with
  | none => simp
  | some o => cases o <;> simp
/-- an equality of two empty lists -/
theorem eq_nil {G : DH} {a b : Addr} {Q : Bool → Prop} (h1 : G a = some (.lst [])) (h2 : G b = some (.lst [])) (q : Q true) : eqD (.ref a) (.ref b) G Q := ⟨.list [], .list [], .lst (sqAt_some.mpr h1) .nil, .lst (sqAt_some.mpr h2) .nil, by decide, by decide, q⟩
theorem eq_nil2 {G : DH} {p p1 : Addr} {Q : Bool → Prop} (h : put G p (.lst []) p1 = none) (q : Q true) : eqD (.ref p) (.ref p1) (put (put G p (.lst [])) p1 (.lst [])) Q := by
  have hne : p ≠ p1 := fun z => by rw [← z, put_same] at h; cases h
  exact eq_nil (by rw [put_ne hne, put_same]) put_same q
theorem sub_put2 {G : DH} {p p1 : Addr} {o u : DO} (h : G p = none) (h1 : put G p o p1 = none) : Sub G (put (put G p o) p1 u) := (Sub.put h).trans (Sub.put h1)
theorem range_mem {n : Nat} {d : D} (h : d ∈ rangeL 0 n 1) : ∃ i : Nat, i < n ∧ d = .int i := by
  unfold rangeL at h
  obtain ⟨i, hi, e⟩ := List.mem_map.mp h
  refine ⟨i, List.mem_range.mp hi, ?_⟩
  rw [← e]
  show D.int _ = D.int _
  rw [Int.mul_one, Int.zero_add]
theorem cut_one {z : Str} {i : Nat} (h : i < (TL.tl z).length) : cutS z (some (i : Int)) (some ((i : Int) + 1)) = ⟨#[(TL.tl z)[i]]⟩ := by
  apply TL.ext_tl
  have e1 : ((i : Int) + 1) = ((i + 1 : Nat) : Int) := by omega
  show (List.take (HT.sIx z.length z.length (some ((i : Int) + 1)) - HT.sIx z.length 0 (some (i : Int))) (List.drop (HT.sIx z.length 0 (some (i : Int))) (TL.tl z))) = [(TL.tl z)[i]]
  rw [e1, HT.sIx_nat, HT.sIx_nat, TL.len_tl, Nat.min_eq_left (by omega), Nat.min_eq_left (by omega), Nat.add_sub_cancel_left, List.drop_eq_getElem_cons h]
  rfl
/-! ### a value that must be there -/
def optK {α : Type} (o : Option α) (k : α → Prop) : Prop := ∃ a, o = some a ∧ k a
def blK (z : D) (k : Bool → Prop) : Prop := ∃ b, z = .bl b ∧ k b
def refK (z : D) (k : Addr → Prop) : Prop := ∃ l, z = .ref l ∧ k l
section
variable {α : Type} {o o' : Option α} {k : α → Prop} {a : α} {z z' : D} {kb : Bool → Prop} {b : Bool} {kr : Addr → Prop} {l : Addr}
@[simp ↓] theorem optK_some : optK (some a) k = k a := propext ⟨fun ⟨x, e, h⟩ => by cases e; exact h, fun h => ⟨a, rfl, h⟩⟩
theorem optK_congr (h : o = o') : optK o k = optK o' k := by rw [h]
theorem optK_of (e : o = some a) (h : k a) : optK o k := ⟨a, e, h⟩
@[simp ↓] theorem blK_bl : blK (.bl b) kb = kb b := propext ⟨fun ⟨x, e, h⟩ => by cases e; exact h, fun h => ⟨b, rfl, h⟩⟩
theorem blK_congr (h : z = z') : blK z kb = blK z' kb := by rw [h]
@[simp ↓] theorem refK_ref : refK (.ref l) kr = kr l := propext ⟨fun ⟨x, e, h⟩ => by cases e; exact h, fun h => ⟨l, rfl, h⟩⟩
theorem refK_congr (h : z = z') : refK z kr = refK z' kr := by rw [h]
@[simp] theorem kwF_cons {n0 n : Nat} {k0 ks : List Str} {p0 : List Nat} {l : List (Nat × List Str × List Nat)} : kwF ((n0, k0, p0) :: l) n ks = if n0 = n ∧ k0 = ks then some p0 else kwF l n ks := rfl
end
section
variable {G : DH} {Q : Bool → Prop} {i j : Int} {s t : Str} {a b : Bool}
@[simp ↓] theorem eqD_ii : eqD (.int i) (.int j) G Q = Q (decide (i = j)) := rfl
@[simp ↓] theorem eqD_ss : eqD (.str s) (.str t) G Q = Q (decide (s = t)) := rfl
@[simp ↓] theorem eqD_bb : eqD (.bl a) (.bl b) G Q = Q (decide (a = b)) := rfl
@[simp ↓] theorem eqD_nn : eqD .non .non G Q = Q true := rfl
@[simp ↓] theorem eqD_ni : eqD .non (.int i) G Q = Q false := rfl
@[simp ↓] theorem eqD_in : eqD (.int i) .non G Q = Q false := rfl
@[simp ↓] theorem eqD_is : eqD (.int i) (.str s) G Q = Q false := rfl
@[simp ↓] theorem eqD_si : eqD (.str s) (.int i) G Q = Q false := rfl
end
@[simp] theorem sub_ty (u t : Ty) : Ty.sub u t = decide (u = t ∨ (u = .bool ∧ t = .int)) := by cases u <;> cases t <;> rfl
section
variable {G : DH}
@[simp] theorem ty_non : tyD G .non = some .none := rfl
@[simp] theorem ty_bl (b : Bool) : tyD G (.bl b) = some .bool := rfl
@[simp] theorem ty_int (i : Int) : tyD G (.int i) = some .int := rfl
@[simp] theorem ty_str (i : Str) : tyD G (.str i) = some .str := rfl
@[simp] theorem ty_tup (i : List D) : tyD G (.tup i) = some .tuple := rfl
@[simp] theorem ty_lsv (i : List D) : tyD G (.lsv i) = some .list := rfl
theorem ty_lst {a : Addr} {ds : List D} (h : G a = some (.lst ds)) : tyD G (.ref a) = some .list := by simp only [tyD, h]
theorem ty_dct {a : Addr} {kvs : List (Key × D)} (h : G a = some (.dct kvs)) : tyD G (.ref a) = some .dict := by simp only [tyD, h]
/-- the type of a value -/
def tyOf : D → Ty
  | .non => .none | .bl _ => .bool | .int _ => .int | .str _ => .str | .tup _ => .tuple | _ => .list
end
section
variable {G : DH} {Q : QD} {T : Bool → DH → Prop} {i j : Int} {s t : Str} {a b : Bool} {xs ys : List D} {l m : Addr} {x y : D}
@[simp ↓] theorem bin_add : binD .Add (.int i) (.int j) G Q = Q (.int (i + j)) G := rfl
@[simp ↓] theorem bin_sub : binD .Sub (.int i) (.int j) G Q = Q (.int (i - j)) G := rfl
@[simp ↓] theorem bin_mul : binD .Mult (.int i) (.int j) G Q = (IntMulOk i j ∧ Q (.int (i * j)) G) := rfl
theorem pyl_all (j : Int) : Pyl j = True := rfl
instance {j : Int} : Decidable (Pyl j) := .isTrue True.intro
@[simp ↓] theorem bin_div : binD .FloorDiv (.int i) (.int j) G Q = (j ≠ 0 ∧ Pyl j ∧ Q (.int (i.fdiv j)) G) := rfl
@[simp ↓] theorem bin_mod : binD .Mod (.int i) (.int j) G Q = (j ≠ 0 ∧ Q (.int (i.fmod j)) G) := rfl
@[simp ↓] theorem bin_pow : binD .Pow (.int i) (.int j) G Q = (0 ≤ j ∧ (Builtin.Int.intBits i : Int) * j ≤ 2 ^ 27 ∧ Q (.int (i ^ j.toNat)) G) := rfl
@[simp ↓] theorem bin_cat : binD .Add (.str s) (.str t) G Q = (s.length + t.length ≤ sizeLine ∧ Q (.str (s ++ t)) G) := rfl
@[simp ↓] theorem bin_tup : binD .Add (.tup xs) (.tup ys) G Q = (xs.length + ys.length ≤ sizeLine ∧ Q (.tup (xs ++ ys)) G) := rfl
@[simp ↓] theorem bin_lst : binD .Add (.ref l) (.ref m) G Q = (∃ xs ys, G l = some (.lst xs) ∧ G m = some (.lst ys) ∧ xs.length + ys.length ≤ sizeLine ∧ ∀ p, G p = none → Q (.ref p) (put G p (.lst (xs ++ ys)))) := rfl
@[simp ↓] theorem bin_rep : binD .Mult (.ref l) (.int j) G Q = (∃ xs, G l = some (.lst xs) ∧ -(2 ^ 63) ≤ j ∧ j < 2 ^ 63 ∧ xs.length * j.toNat ≤ sizeLine ∧ ∀ p, G p = none → Q (.ref p) (put G p (.lst (List.replicate j.toNat xs).flatten))) := rfl
@[simp ↓] theorem bin_rept : binD .Mult (.tup xs) (.int j) G Q = (-(2 ^ 63) ≤ j ∧ j ≤ 1000 ∧ xs.length ≤ 1000 ∧ Q (.tup (List.replicate j.toNat xs).flatten) G) := rfl
@[simp ↓] theorem bin_shr : binD .RShift (.int i) (.int j) G Q = (0 ≤ j ∧ Q (.int (i / 2 ^ j.toNat)) G) := rfl
@[simp ↓] theorem bin_and : binD .BitAnd (.int i) (.int j) G Q = Q (.int (Builtin.bitAnd i j)) G := rfl
@[simp ↓] theorem neg_int : negD (.int i) G Q = Q (.int (-i)) G := rfl
@[simp ↓] theorem cmp_eq : cmpD .Eq x y G Q = eqD x y G fun b => Q (.bl b) G := by cases x <;> cases y <;> rfl
@[simp ↓] theorem cmp_ne : cmpD .NotEq x y G Q = eqD x y G fun b => Q (.bl (!b)) G := by cases x <;> cases y <;> rfl
@[simp ↓] theorem cmp_lt : cmpD .Lt (.int i) (.int j) G Q = Q (.bl (decide (i < j))) G := rfl
@[simp ↓] theorem cmp_le : cmpD .LtE (.int i) (.int j) G Q = Q (.bl (decide (i ≤ j))) G := rfl
@[simp ↓] theorem cmp_gt : cmpD .Gt (.int i) (.int j) G Q = Q (.bl (decide (j < i))) G := rfl
@[simp ↓] theorem cmp_ge : cmpD .GtE (.int i) (.int j) G Q = Q (.bl (decide (j ≤ i))) G := rfl
@[simp ↓] theorem cmp_is : cmpD .Is x y G Q = isD false x y G Q := by cases x <;> cases y <;> rfl
@[simp ↓] theorem cmp_isnot : cmpD .IsNot x y G Q = isD true x y G Q := by cases x <;> cases y <;> rfl
@[simp ↓] theorem cmp_in : cmpD .In x y G Q = memD false x y G Q := by cases x <;> cases y <;> rfl
@[simp ↓] theorem cmp_notin : cmpD .NotIn x y G Q = memD true x y G Q := by cases x <;> cases y <;> rfl
def isNon : D → Bool
  | .non => true
  | _ => false
@[simp ↓] theorem is_bb {n : Bool} : isD n (.bl a) (.bl b) G Q = Q (.bl (if n then !decide (a = b) else decide (a = b))) G := rfl
@[simp ↓] theorem is_non {n : Bool} : isD n x .non G Q = Q (.bl (if n then !isNon x else isNon x)) G := by cases x <;> cases n <;> rfl
@[simp] theorem isNon_non : isNon .non = true := rfl
@[simp] theorem isNon_tup : isNon (.tup xs) = false := rfl
@[simp] theorem isNon_int : isNon (.int i) = false := rfl
@[simp] theorem isNon_str : isNon (.str s) = false := rfl
@[simp] theorem isNon_bl : isNon (.bl a) = false := rfl
@[simp] theorem isNon_ref : isNon (.ref l) = false := rfl
@[simp ↓] theorem ix_tup : ixD (.tup xs) (.int i) G Q = (optK (atI xs i) fun d => Q d G) := rfl
@[simp ↓] theorem ix_ref : ixD (.ref l) (.int i) G Q = (optK (sqAt G l) fun ds => optK (atI ds i) fun d => Q d G) := propext ⟨fun ⟨ds, d, a, b, c⟩ => ⟨ds, a, d, b, c⟩, fun ⟨ds, a, d, b, c⟩ => ⟨ds, d, a, b, c⟩⟩
@[simp ↓] theorem ix_lsv : ixD (.lsv xs) (.int i) G Q = (optK (atI xs i) fun d => Q d G) := rfl
@[simp ↓] theorem ix_str : ixD (.str s) (.int i) G Q = ∃ c, s.length ≤ sizeLine ∧ atI s.cps.toList i = some c ∧ Q (.str ⟨#[c]⟩) G := rfl
variable {lo hi : Option Int}
@[simp ↓] theorem sl_tup : slD lo hi (.tup xs) G Q = Q (.tup (cutL xs lo hi)) G := rfl
@[simp ↓] theorem sl_str : slD lo hi (.str s) G Q = (s.length ≤ sizeLine ∧ Q (.str (cutS s lo hi)) G) := rfl
@[simp ↓] theorem sl_ref : slD lo hi (.ref l) G Q = (optK (sqAt G l) fun ds => ∀ p, G p = none → Q (.ref p) (put G p (.lst (cutL ds lo hi)))) := rfl
@[simp ↓] theorem sl_lsv : slD lo hi (.lsv xs) G Q = ∀ p, G p = none → Q (.ref p) (put G p (.lst (cutL xs lo hi))) := rfl
@[simp ↓] theorem mem_str {n : Bool} : memD n (.str s) (.str t) G Q = ∃ c, s = ⟨#[c]⟩ ∧ Q (.bl (if n then !decide (c ∈ t.cps.toList) else decide (c ∈ t.cps.toList))) G := rfl
@[simp ↓] theorem mem_tup {n : Bool} : memD n x (.tup xs) G Q = (flD x = true ∧ xs.all flT = true ∧ Q (.bl (if n then !inD x xs else inD x xs)) G) := by cases x <;> rfl
@[simp ↓] theorem mem_ref {n : Bool} : memD n x (.ref l) G Q = ∃ xs, sqAt G l = some xs ∧ flD x = true ∧ xs.all flT = true ∧ Q (.bl (if n then !inD x xs else inD x xs)) G := by cases x <;> rfl
@[simp ↓] theorem tru_non : truD .non G T = T false G := rfl
@[simp ↓] theorem tru_bl : truD (.bl a) G T = T a G := rfl
@[simp ↓] theorem tru_int : truD (.int i) G T = T (i != 0) G := rfl
@[simp ↓] theorem tru_tup : truD (.tup xs) G T = T (!xs.isEmpty) G := rfl
@[simp ↓] theorem tru_lsv : truD (.lsv xs) G T = T (!xs.isEmpty) G := rfl
@[simp ↓] theorem tru_ref : truD (.ref l) G T = (optK (sqAt G l) fun ds => T (!ds.isEmpty) G) := rfl
@[simp ↓] theorem tru_str : truD (.str s) G T = (s.length ≤ sizeLine ∧ T ((s.length : Int) != 0) G) := rfl
@[simp] theorem atI_nat {α : Type} {l : List α} {n : Nat} : atI l (n : Int) = l[n]? := by
  unfold atI ixN
  rw [if_pos (Int.natCast_nonneg n)]
  by_cases h : n < l.length
  · rw [if_pos (by omega)]; simp
  · rw [if_neg (by omega), List.getElem?_eq_none (by omega)]; rfl
@[simp] theorem atI_0 {α : Type} {l : List α} : atI l 0 = l[0]? := atI_nat (n := 0)
@[simp] theorem atI_1 {α : Type} {l : List α} : atI l 1 = l[1]? := atI_nat (n := 1)
@[simp] theorem atI_2 {α : Type} {l : List α} : atI l 2 = l[2]? := atI_nat (n := 2)
@[simp] theorem atI_3 {α : Type} {l : List α} : atI l 3 = l[3]? := atI_nat (n := 3)
end
/-! ### forms that wait for a value -/
section
variable {G : DH} {Q : QD} {W : WD} {σ : Sg} {P : DH → Prop} {I : IK} {i j c : Int} {s z : Str} {a b : Bool} {xs ys ds : List D} {l m : Addr} {x y d : D} {ns : List Int} {Z : Option Int → DH → Prop} {Y : Str → DH → Prop} {N : List D → Prop} {B : BI}
@[simp ↓] theorem bi_one : biD B [x] G Q = bi1 B x G Q := rfl
@[simp ↓] theorem bi_two : biD B [x, y] G Q = bi2 B x y G Q := rfl
@[simp ↓] theorem len_tup : bi1 .len (.tup xs) G Q = Q (.int xs.length) G := rfl
@[simp ↓] theorem len_lsv : bi1 .len (.lsv xs) G Q = Q (.int xs.length) G := rfl
def lenK (o : Option (List D)) (l : Addr) (G : DH) (Q : QD) : Prop := match o with
  | some ds => Q (.int ds.length) G
  | none => ∃ kvs, G l = some (.dct kvs) ∧ Q (.int kvs.length) G
@[simp ↓] theorem lenK_some {ds : List D} : lenK (some ds) l G Q = Q (.int ds.length) G := rfl
@[simp ↓] theorem lenK_none : lenK none l G Q = ∃ kvs, G l = some (.dct kvs) ∧ Q (.int kvs.length) G := rfl
@[simp ↓] theorem len_ref : bi1 .len (.ref l) G Q = lenK (sqAt G l) l G Q := rfl
@[simp ↓] theorem len_str : bi1 .len (.str z) G Q = (z.length ≤ sizeLine ∧ Q (.int z.length) G) := rfl
@[simp ↓] theorem abs_int : bi1 .abs (.int i) G Q = Q (.int (i.natAbs : Nat)) G := rfl
@[simp ↓] theorem int_int : bi1 .int (.int i) G Q = Q (.int i) G := rfl
@[simp ↓] theorem int_bl : bi1 .int (.bl a) G Q = Q (.int (if a then 1 else 0)) G := rfl
@[simp ↓] theorem int_str : bi1 .int (.str z) G Q = ∃ n, PySem.intText? z = some n ∧ z.length ≤ 640 ∧ Q (.int n) G := rfl
@[simp ↓] theorem str_int : bi1 .str (.int i) G Q = (i.natAbs.log2 < 1920 ∧ Q (.str (intS i)) G) := rfl
@[simp ↓] theorem sum_ref : bi1 .sum (.ref l) G Q = ∃ ns : List Int, sqAt G l = some (ns.map D.int) ∧ Q (.int ns.sum) G := rfl
@[simp ↓] theorem all_ref : bi1 .all (.ref l) G Q = ∃ bs : List Bool, sqAt G l = some (bs.map D.bl) ∧ Q (.bl (bs.all id)) G := rfl
@[simp ↓] theorem any_ref : bi1 .any (.ref l) G Q = ∃ bs : List Bool, sqAt G l = some (bs.map D.bl) ∧ Q (.bl (bs.any id)) G := rfl
@[simp ↓] theorem max_ref : bi1 .max (.ref l) G Q = ∃ ns : List Int, sqAt G l = some (ns.map D.int) ∧ 0 < ns.length ∧ ∀ m, m ∈ ns → (∀ y, y ∈ ns → y ≤ m) → Q (.int m) G := rfl
@[simp ↓] theorem min_ref : bi1 .min (.ref l) G Q = ∃ ns : List Int, sqAt G l = some (ns.map D.int) ∧ 0 < ns.length ∧ ∀ m, m ∈ ns → (∀ y, y ∈ ns → m ≤ y) → Q (.int m) G := rfl
@[simp ↓] theorem list_tup : bi1 .list (.tup ds) G Q = ∀ p, G p = none → Q (.ref p) (put G p (.lst ds)) := rfl
@[simp ↓] theorem list_ref : bi1 .list (.ref l) G Q = (optK (sqAt G l) fun ds => ∀ p, G p = none → Q (.ref p) (put G p (.lst ds))) := rfl
@[simp ↓] theorem tuple_tup : bi1 .tuple (.tup ds) G Q = Q (.tup ds) G := rfl
@[simp ↓] theorem tuple_ref : bi1 .tuple (.ref l) G Q = (optK (sqAt G l) fun ds => Q (.tup ds) G) := rfl
@[simp ↓] theorem max_ii : bi2 .max (.int i) (.int j) G Q = Q (.int (max i j)) G := rfl
@[simp ↓] theorem min_ii : bi2 .min (.int i) (.int j) G Q = Q (.int (min i j)) G := rfl
@[simp ↓] theorem gcd_ii : bi2 .gcd (.int i) (.int j) G Q = Q (.int ((Nat.gcd i.natAbs j.natAbs : Nat) : Int)) G := rfl
@[simp ↓] theorem comb_ii : bi2 .comb (.int i) (.int j) G Q = (0 ≤ i ∧ 0 ≤ j ∧ i ≤ 9000 ∧ Q (.int (PySem.W.mcComb i j)) G) := rfl
@[simp ↓] theorem rc_str {M : MT} : rcD M G (.str z) = (M.T = "str") := rfl
@[simp ↓] theorem rc_ref {M : MT} : rcD M G (.ref l) = (M.T = "list" ∧ ∃ ds, sqAt G l = some ds) := rfl
@[simp ↓] theorem mt_pop : mtD .pop (.ref l) [] G Q = ∃ ds d, G l = some (.lst ds) ∧ ds[ds.length - 1]? = some d ∧ Q d (put G l (.lst ds.dropLast)) := rfl
@[simp ↓] theorem mt_reverse : mtD .reverse (.ref l) [] G Q = ∃ ds, G l = some (.lst ds) ∧ Q .non (put G l (.lst ds.reverse)) := rfl
@[simp ↓] theorem mt_clear : mtD .clear (.ref l) [] G Q = ∃ ds, G l = some (.lst ds) ∧ Q .non (put G l (.lst [])) := rfl
@[simp ↓] theorem mt_append : mtD .append (.ref l) [d] G Q = ∃ ds, G l = some (.lst ds) ∧ ds.length < sizeLine ∧ Q .non (put G l (.lst (ds ++ [d]))) := rfl
@[simp ↓] theorem mt_extend : mtD .extend (.ref l) [.ref m] G Q = ∃ ds es, G l = some (.lst ds) ∧ G m = some (.lst es) ∧ ds.length + es.length ≤ sizeLine ∧ Q .non (put G l (.lst (ds ++ es))) := rfl
@[simp ↓] theorem mt_popAt : mtD .popAt (.ref l) [.int i] G Q = ∃ ds k d, G l = some (.lst ds) ∧ -(2 ^ 63) ≤ i ∧ i < 2 ^ 63 ∧ seqIndex? i ds.length = some k ∧ ds[k]? = some d ∧ Q d (put G l (.lst (ds.eraseIdx k))) := rfl
@[simp ↓] theorem mt_text {M : MT} : mtD M (.str z) [d] G Q = mts1 M z d G Q := rfl
@[simp ↓] theorem set_ref : setD (.ref l) (.int i) d G P = ∃ ds j, G l = some (.lst ds) ∧ ixN ds.length i = some j ∧ P (put G l (.lst (ds.set j d))) := rfl
@[simp ↓] theorem aug_add : augD .Add (.int i) (.int j) G Q = Q (.int (i + j)) G := rfl
@[simp ↓] theorem aug_cat : augD .Add (.str s) (.str z) G Q = (s.length + z.length ≤ sizeLine ∧ Q (.str (s ++ z)) G) := rfl
@[simp ↓] theorem aug_sub : augD .Sub (.int i) (.int j) G Q = Q (.int (i - j)) G := rfl
@[simp ↓] theorem aug_mul : augD .Mult (.int i) (.int j) G Q = (IntMulOk i j ∧ Q (.int (i * j)) G) := rfl
@[simp ↓] theorem seq_str : itSeq (.str z) G I = I (chars z) [] G := rfl
@[simp ↓] theorem seq_tup : itSeq (.tup ds) G I = I ds [] G := rfl
@[simp ↓] theorem seq_lsv : itSeq (.lsv ds) G I = I ds [] G := rfl
@[simp ↓] theorem seq_ref : itSeq (.ref l) G I = (optK (sqAt G l) fun ds => I ds [(l, ds)] G) := rfl
@[simp ↓] theorem enum_tup : itEnum (.tup ds) G I = I (enumL 0 ds) [] G := rfl
@[simp ↓] theorem enum_ref : itEnum (.ref l) G I = (optK (sqAt G l) fun ds => I (enumL 0 ds) [(l, ds)] G) := rfl
@[simp ↓] theorem rev_tup : itRev (.tup ds) G I = I ds.reverse [] G := rfl
@[simp ↓] theorem rev_lsv : itRev (.lsv ds) G I = I ds.reverse [] G := rfl
@[simp ↓] theorem rev_ref : itRev (.ref l) G I = (optK (sqAt G l) fun ds => I ds.reverse [(l, ds)] G) := rfl
@[simp ↓] theorem zip_tup : itZip (.tup xs) (.tup ys) G I = I (zipL xs ys) [] G := rfl
@[simp ↓] theorem zip_ref : itZip (.ref l) (.ref m) G I = ∃ ds es, sqAt G l = some ds ∧ sqAt G m = some es ∧ I (zipL ds es) [(l, ds), (m, es)] G := rfl
@[simp ↓] theorem range_1 : itRange [.int j] G I = (-(2 ^ 62) ≤ j ∧ j < 2 ^ 62 ∧ I (rangeL 0 j.toNat 1) [] G) := rfl
@[simp ↓] theorem range_2 : itRange [.int i, .int j] G I = ((-(2 ^ 62) ≤ i ∧ i < 2 ^ 62 ∧ -(2 ^ 62) ≤ j ∧ j < 2 ^ 62) ∧ I (rangeL i (j - i).toNat 1) [] G) := rfl
@[simp ↓] theorem range_3 : itRange [.int i, .int j, .int c] G I = ∃ n, RgC i j c n ∧ I (rangeL i n c) [] G := rfl
@[simp ↓] theorem of_tup {G : DH} : ofTup (.tup ds) G N = N ds := rfl
@[simp ↓] theorem of_ref {G : DH} {a : Addr} : ofTup (.ref a) G N = optK (sqAt G a) N := rfl
@[simp ↓] theorem of_cons {k : D → List D → Prop} : ofCons (d :: ds) k = k d ds := rfl
@[simp ↓] theorem of_two {k : D → D → Prop} : two [x, y] k = k x y := rfl
@[simp ↓] theorem of_three {k : D → D → D → Prop} : three [x, y, d] k = k x y d := rfl
@[simp ↓] theorem strD_str : strD (.str z) G Y = Y z G := rfl
@[simp ↓] theorem fmt_str : fmtD (.str z) G Q = (z.length ≤ sizeLine ∧ Q (.str z) G) := rfl
@[simp ↓] theorem fmt_int : fmtD (.int i) G Q = (i.natAbs.log2 < 1920 ∧ Q (.str (intS i)) G) := rfl
@[simp ↓] theorem part_int : partD (.int i) G Z = Z (some i) G := rfl
@[simp ↓] theorem revD_tup : revD (.tup ds) G Q = Q (.tup ds.reverse) G := rfl
@[simp ↓] theorem revD_ref : revD (.ref l) G Q = (optK (sqAt G l) fun ds => ∀ p, G p = none → Q (.ref p) (put G p (.lst ds.reverse))) := rfl
end
/-! ### the forms, one by one -/
@[simp ↓] theorem wp1 {Γ : GE} {i : Nat} {W_ : WD} {σ : Sg} {G : DH} {Q : QD} : wpE Γ (.var i) W_ σ G Q = (optK (gt σ i) fun d => Q d G) := rfl
@[simp ↓] theorem wp2 {Γ : GE} {W_ : WD} {σ_ : Sg} {G : DH} {Q : QD} : wpE Γ (.non) W_ σ_ G Q = (Q .non G) := rfl
@[simp ↓] theorem wp3 {Γ : GE} {b : Bool} {W_ : WD} {σ_ : Sg} {G : DH} {Q : QD} : wpE Γ (.bl b) W_ σ_ G Q = (Q (.bl b) G) := rfl
@[simp ↓] theorem wp4 {Γ : GE} {i : Int} {W_ : WD} {σ_ : Sg} {G : DH} {Q : QD} : wpE Γ (.int i) W_ σ_ G Q = (Q (.int i) G) := rfl
@[simp ↓] theorem wp5 {Γ : GE} {s : Str} {W_ : WD} {σ_ : Sg} {G : DH} {Q : QD} : wpE Γ (.str s) W_ σ_ G Q = (Q (.str s) G) := rfl
@[simp ↓] theorem wp6 {Γ : GE} {op : Operator} {a : ME} {b : ME} {W : WD} {σ : Sg} {G : DH} {Q : QD} : wpE Γ (.bin op a b) W σ G Q = (wpE Γ a W σ G fun x G1 => wpE Γ b W σ G1 fun y G2 => binD op x y G2 Q) := rfl
@[simp ↓] theorem wp7 {Γ : GE} {a : ME} {W : WD} {σ : Sg} {G : DH} {Q : QD} : wpE Γ (.neg a) W σ G Q = (wpE Γ a W σ G fun x G1 => negD x G1 Q) := rfl
@[simp ↓] theorem wp8 {Γ : GE} {op : CmpOp} {a : ME} {b : ME} {W : WD} {σ : Sg} {G : DH} {Q : QD} : wpE Γ (.cmp op a b) W σ G Q = (wpE Γ a W σ G fun x G1 => wpE Γ b W σ G1 fun y G2 => cmpD op x y G2 Q) := rfl
@[simp ↓] theorem wp9 {Γ : GE} {op : CmpOp} {op' : CmpOp} {a : ME} {b : ME} {c : ME} {W : WD} {σ : Sg} {G : DH} {Q : QD} : wpE Γ (.chain op op' a b c) W σ G Q = (wpE Γ a W σ G fun x G1 => wpE Γ b W σ G1 fun y G2 => cmpD op x y G2 fun z G3 => blK z fun k => if k = true then wpE Γ c W σ G3 fun w G4 => cmpD op' y w G4 Q else Q (.bl false) G3) := rfl
@[simp ↓] theorem wp10 {Γ : GE} {es : MEs} {W : WD} {σ : Sg} {G : DH} {Q : QD} : wpE Γ (.and es) W σ G Q = (wpAnd Γ es W σ G Q) := rfl
@[simp ↓] theorem wp11 {Γ : GE} {es : MEs} {W : WD} {σ : Sg} {G : DH} {Q : QD} : wpE Γ (.or es) W σ G Q = (wpOr Γ es W σ G Q) := rfl
@[simp ↓] theorem wp12 {Γ : GE} {a : ME} {W : WD} {σ : Sg} {G : DH} {Q : QD} : wpE Γ (.not a) W σ G Q = (wpE Γ a W σ G fun x G1 => truD x G1 fun b G2 => Q (.bl (!b)) G2) := rfl
@[simp ↓] theorem wp13 {Γ : GE} {c : ME} {a : ME} {b : ME} {W : WD} {σ : Sg} {G : DH} {Q : QD} : wpE Γ (.ifx c a b) W σ G Q = (wpT Γ c W σ G fun t G1 => if t = true then wpE Γ a W σ G1 Q else wpE Γ b W σ G1 Q) := rfl
@[simp ↓] theorem wp14 {Γ : GE} {es : MEs} {W : WD} {σ : Sg} {G : DH} {Q : QD} : wpE Γ (.tup es) W σ G Q = (wpEs Γ es W σ G fun ds G1 => Q (.tup ds) G1) := rfl
@[simp ↓] theorem wp15 {Γ : GE} {es : MEs} {W : WD} {σ : Sg} {G : DH} {Q : QD} : wpE Γ (.lst es) W σ G Q = (wpEs Γ es W σ G fun ds G1 => ∀ p, G1 p = none → Q (.ref p) (put G1 p (.lst ds))) := rfl
@[simp ↓] theorem wp16 {Γ : GE} {W_ : WD} {σ_ : Sg} {G : DH} {Q : QD} : wpE Γ (.dct0) W_ σ_ G Q = (∀ p, G p = none → Q (.ref p) (put G p (.dct []))) := rfl
@[simp ↓] theorem wp17 {Γ : GE} {a : ME} {i : ME} {W : WD} {σ : Sg} {G : DH} {Q : QD} : wpE Γ (.ix a i) W σ G Q = (wpE Γ a W σ G fun x G1 => wpE Γ i W σ G1 fun y G2 => ixD x y G2 Q) := rfl
@[simp ↓] theorem wp18 {Γ : GE} {a : ME} {lo : MO} {hi : MO} {W : WD} {σ : Sg} {G : DH} {Q : QD} : wpE Γ (.slc a lo hi) W σ G Q = (wpE Γ a W σ G fun x G1 => wpO Γ lo W σ G1 fun l G2 => wpO Γ hi W σ G2 fun h G3 => slD l h x G3 Q) := rfl
@[simp ↓] theorem wp19 {Γ : GE} {a : ME} {W : WD} {σ : Sg} {G : DH} {Q : QD} : wpE Γ (.revl a) W σ G Q = (wpE Γ a W σ G fun x G1 => revD x G1 Q) := rfl
@[simp ↓] theorem wp20 {Γ : GE} {f : Str} {es : MEs} {W : WD} {σ : Sg} {G : DH} {Q : QD} : wpE Γ (.call f es) W σ G Q = (optK (Γ.fn f) fun fi => wpEs Γ es W σ G fun ds G1 => ds.length = fi.ps.length ∧ fi.sp ds G1 Q fun xd G2 => W xd σ G2) := rfl
@[simp ↓] theorem wp21 {Γ : GE} {f : Str} {es : MEs} {ks : List Str} {kes : MEs} {W : WD} {σ : Sg} {G : DH} {Q : QD} : wpE Γ (.callk f es ks kes) W σ G Q = (optK (Γ.fn f) fun fi => optK (kwF fi.kws es.n ks) fun p => wpEs Γ es W σ G fun ds G1 => wpEs Γ kes W σ G1 fun zs G2 => ds.length = es.n ∧ zs.length = ks.length ∧ (permL p (ds ++ zs ++ fi.dfl)).length = fi.ps.length ∧ fi.sp (permL p (ds ++ zs ++ fi.dfl)) G2 Q fun xd G3 => W xd σ G3) := rfl
@[simp ↓] theorem wp22 {Γ : GE} {b : BI} {es : MEs} {W : WD} {σ : Sg} {G : DH} {Q : QD} : wpE Γ (.bi b es) W σ G Q = (wpEs Γ es W σ G fun ds G1 => biD b ds G1 Q) := rfl
@[simp ↓] theorem wp23 {Γ : GE} {a : ME} {t : Ty} {W : WD} {σ : Sg} {G : DH} {Q : QD} : wpE Γ (.isi a t) W σ G Q = (wpE Γ a W σ G fun x G1 => optK (tyD G1 x) fun u => Q (.bl (u.sub t)) G1) := rfl
@[simp ↓] theorem wp24 {Γ : GE} {m : MT} {o : ME} {es : MEs} {W : WD} {σ : Sg} {G : DH} {Q : QD} : wpE Γ (.meth m o es) W σ G Q = (wpE Γ o W σ G fun x G1 => rcD m G1 x ∧ wpEs Γ es W σ G1 fun ds G2 => mtD m x ds G2 Q) := rfl
@[simp ↓] theorem wp26 {Γ : GE} {x : Str} {W_ : WD} {σ_ : Sg} {G : DH} {Q : QD} : wpE Γ (.glob x) W_ σ_ G Q = (optK (Γ.con x) fun d => Q d G) := rfl
@[simp ↓] theorem wp27 {Γ : GE} {es : MEs} {W : WD} {σ : Sg} {G : DH} {Q : QD} : wpE Γ (.fstr es) W σ G Q = (wpJ Γ es W Str.empty σ G fun z G1 => Q (.str z) G1) := rfl
@[simp ↓] theorem wp28 {Γ : GE} {a : ME} {W : WD} {σ : Sg} {G : DH} {Q : QD} : wpE Γ (.fmt a) W σ G Q = (wpE Γ a W σ G fun x G1 => fmtD x G1 Q) := rfl
@[simp ↓] theorem wp29 {Γ : GE} {i : Nat} {f : Str} {W_ : WD} {σ : Sg} {G : DH} {Q : QD} : wpE Γ (.exf i f) W_ σ G Q = (∃ a xd d, gt σ i = some (.ref a) ∧ Γ.cur = some (a, xd) ∧ xd.fs.lookup f = some d ∧ Q d G) := rfl
@[simp ↓] theorem wp_exi {Γ : GE} {i : Nat} {x : Str} {W_ : WD} {σ : Sg} {G : DH} {Q : QD} : wpE Γ (.exi i x) W_ σ G Q = (∃ a xd b, gt σ i = some (.ref a) ∧ Γ.cur = some (a, xd) ∧ xd.fs ≠ [] ∧ Γ.exi xd.cls x = some b ∧ Q (.bl b) G) := rfl
@[simp ↓] theorem wp_stup {Γ : GE} {z : MZ} {W_ : WD} {σ : Sg} {G : DH} {Q : QD} : wpE Γ (.stup z) W_ σ G Q = wpZ Γ z W_ σ G fun ds G1 => ds.length ≤ sizeLine ∧ Q (.tup ds) G1 := rfl
@[simp ↓] theorem wp_slst {Γ : GE} {z : MZ} {W_ : WD} {σ : Sg} {G : DH} {Q : QD} : wpE Γ (.slst z) W_ σ G Q = wpZ Γ z W_ σ G fun ds G1 => ds.length ≤ sizeLine ∧ ∀ p, G1 p = none → Q (.ref p) (put G1 p (.lst ds)) := rfl
@[simp ↓] theorem wpZ_nil {Γ : GE} {W_ : WD} {σ : Sg} {G : DH} {Q : List D → DH → Prop} : wpZ Γ .nil W_ σ G Q = Q [] G := rfl
@[simp ↓] theorem wpZ_one {Γ : GE} {e : ME} {z : MZ} {W_ : WD} {σ : Sg} {G : DH} {Q : List D → DH → Prop} : wpZ Γ (.one e z) W_ σ G Q = wpE Γ e W_ σ G fun x G1 => wpZ Γ z W_ σ G1 fun ds G2 => Q (x :: ds) G2 := rfl
@[simp ↓] theorem wpZ_star {Γ : GE} {e : ME} {z : MZ} {W_ : WD} {σ : Sg} {G : DH} {Q : List D → DH → Prop} : wpZ Γ (.star e z) W_ σ G Q = wpE Γ e W_ σ G fun x G1 => ofTup x G1 fun xs => wpZ Γ z W_ σ G1 fun ds G2 => Q (xs ++ ds) G2 := rfl
@[simp ↓] theorem wp30 {Γ : GE} {op : CmpOp} {a : ME} {b : ME} {W : WD} {σ : Sg} {G : DH} {Q : Bool → DH → Prop} : wpT Γ (.cmp op a b) W σ G Q = (wpE Γ a W σ G fun x G1 => wpE Γ b W σ G1 fun y G2 => cmpD op x y G2 fun z G3 => blK z fun k => Q k G3) := rfl
@[simp ↓] theorem wp31 {Γ : GE} {op : CmpOp} {op' : CmpOp} {a : ME} {b : ME} {c : ME} {W : WD} {σ : Sg} {G : DH} {Q : Bool → DH → Prop} : wpT Γ (.chain op op' a b c) W σ G Q = (wpE Γ a W σ G fun x G1 => wpE Γ b W σ G1 fun y G2 => cmpD op x y G2 fun z G3 => blK z fun k => if k = true then wpE Γ c W σ G3 fun w G4 => cmpD op' y w G4 fun z' G5 => blK z' fun k' => Q k' G5 else Q false G3) := rfl
@[simp ↓] theorem wp32 {Γ : GE} {es : MEs} {W : WD} {σ : Sg} {G : DH} {Q : Bool → DH → Prop} : wpT Γ (.and es) W σ G Q = (wpTAnd Γ es W σ G Q) := rfl
@[simp ↓] theorem wp33 {Γ : GE} {es : MEs} {W : WD} {σ : Sg} {G : DH} {Q : Bool → DH → Prop} : wpT Γ (.or es) W σ G Q = (wpTOr Γ es W σ G Q) := rfl
@[simp ↓] theorem wp34 {Γ : GE} {a : ME} {W : WD} {σ : Sg} {G : DH} {Q : Bool → DH → Prop} : wpT Γ (.not a) W σ G Q = (wpT Γ a W σ G fun b G1 => Q (!b) G1) := rfl
@[simp ↓] theorem wp35 {Γ : GE} {c : ME} {a : ME} {b : ME} {W : WD} {σ : Sg} {G : DH} {Q : Bool → DH → Prop} : wpT Γ (.ifx c a b) W σ G Q = (wpT Γ c W σ G fun t G1 => if t = true then wpT Γ a W σ G1 Q else wpT Γ b W σ G1 Q) := rfl
@[simp ↓] theorem wp36 {Γ : GE} {i : Nat} {W_ : WD} {σ : Sg} {G : DH} {Q : Bool → DH → Prop} : wpT Γ (.var i) W_ σ G Q = (optK (gt σ i) fun d => truD d G Q) := rfl
@[simp ↓] theorem wp37 {Γ : GE} {b : Bool} {W_ : WD} {σ_ : Sg} {G : DH} {Q : Bool → DH → Prop} : wpT Γ (.bl b) W_ σ_ G Q = (Q b G) := rfl
@[simp ↓] theorem wp38 {Γ : GE} {a : ME} {i : ME} {W : WD} {σ : Sg} {G : DH} {Q : Bool → DH → Prop} : wpT Γ (.ix a i) W σ G Q = (wpE Γ a W σ G fun x G1 => wpE Γ i W σ G1 fun y G2 => ixD x y G2 fun z G3 => truD z G3 Q) := rfl
@[simp ↓] theorem wp39 {Γ : GE} {f : Str} {es : MEs} {W : WD} {σ : Sg} {G : DH} {Q : Bool → DH → Prop} : wpT Γ (.call f es) W σ G Q = (optK (Γ.fn f) fun fi => wpEs Γ es W σ G fun ds G1 => ds.length = fi.ps.length ∧ fi.sp ds G1 (fun z G2 => truD z G2 Q) fun xd G2 => W xd σ G2) := rfl
@[simp ↓] theorem wp40 {Γ : GE} {f : Str} {es : MEs} {ks : List Str} {kes : MEs} {W : WD} {σ : Sg} {G : DH} {Q : Bool → DH → Prop} : wpT Γ (.callk f es ks kes) W σ G Q = (optK (Γ.fn f) fun fi => optK (kwF fi.kws es.n ks) fun p => wpEs Γ es W σ G fun ds G1 => wpEs Γ kes W σ G1 fun zs G2 => ds.length = es.n ∧ zs.length = ks.length ∧ (permL p (ds ++ zs ++ fi.dfl)).length = fi.ps.length ∧ fi.sp (permL p (ds ++ zs ++ fi.dfl)) G2 (fun z G3 => truD z G3 Q) fun xd G3 => W xd σ G3) := rfl
@[simp ↓] theorem wp41 {Γ : GE} {b : BI} {es : MEs} {W : WD} {σ : Sg} {G : DH} {Q : Bool → DH → Prop} : wpT Γ (.bi b es) W σ G Q = (wpEs Γ es W σ G fun ds G1 => biD b ds G1 fun z G2 => truD z G2 Q) := rfl
@[simp ↓] theorem wp42 {Γ : GE} {a : ME} {t : Ty} {W : WD} {σ : Sg} {G : DH} {Q : Bool → DH → Prop} : wpT Γ (.isi a t) W σ G Q = (wpE Γ a W σ G fun x G1 => optK (tyD G1 x) fun u => Q (u.sub t) G1) := rfl
@[simp ↓] theorem wp43 {Γ : GE} {W_ : WD} {σ_ : Sg} {G_ : DH} {Q_ : QD} : wpAnd Γ (.nil) W_ σ_ G_ Q_ = (False) := rfl
@[simp ↓] theorem wp44 {Γ : GE} {e : ME} {W : WD} {σ : Sg} {G : DH} {Q : QD} : wpAnd Γ (.cons e .nil) W σ G Q = (wpE Γ e W σ G Q) := rfl
@[simp ↓] theorem wp45 {Γ : GE} {e : ME} {e2 : ME} {es : MEs} {W : WD} {σ : Sg} {G : DH} {Q : QD} : wpAnd Γ (.cons e (.cons e2 es)) W σ G Q = (wpE Γ e W σ G fun x G1 => truD x G1 fun b G2 => G2 = G1 ∧ if b = true then wpAnd Γ (.cons e2 es) W σ G1 Q else Q x G1) := rfl
@[simp ↓] theorem wp46 {Γ : GE} {W_ : WD} {σ_ : Sg} {G_ : DH} {Q_ : QD} : wpOr Γ (.nil) W_ σ_ G_ Q_ = (False) := rfl
@[simp ↓] theorem wp47 {Γ : GE} {e : ME} {W : WD} {σ : Sg} {G : DH} {Q : QD} : wpOr Γ (.cons e .nil) W σ G Q = (wpE Γ e W σ G Q) := rfl
@[simp ↓] theorem wp48 {Γ : GE} {e : ME} {e2 : ME} {es : MEs} {W : WD} {σ : Sg} {G : DH} {Q : QD} : wpOr Γ (.cons e (.cons e2 es)) W σ G Q = (wpE Γ e W σ G fun x G1 => truD x G1 fun b G2 => G2 = G1 ∧ if b = true then Q x G1 else wpOr Γ (.cons e2 es) W σ G1 Q) := rfl
@[simp ↓] theorem wp49 {Γ : GE} {W_ : WD} {σ_ : Sg} {G_ : DH} {Q_ : Bool → DH → Prop} : wpTAnd Γ (.nil) W_ σ_ G_ Q_ = (False) := rfl
@[simp ↓] theorem wp93 {Γ : GE} {op : Operator} {a : ME} {b : ME} {W : WD} {σ : Sg} {G : DH} {Q : Bool → DH → Prop} : wpT Γ (.bin op a b) W σ G Q = (wpE Γ a W σ G fun x G1 => wpE Γ b W σ G1 fun y G2 => binD op x y G2 fun z G3 => truD z G3 Q) := rfl
@[simp ↓] theorem wp50 {Γ : GE} {e : ME} {W : WD} {σ : Sg} {G : DH} {Q : Bool → DH → Prop} : wpTAnd Γ (.cons e .nil) W σ G Q = (wpT Γ e W σ G Q) := rfl
@[simp ↓] theorem wp51 {Γ : GE} {e : ME} {e2 : ME} {es : MEs} {W : WD} {σ : Sg} {G : DH} {Q : Bool → DH → Prop} : wpTAnd Γ (.cons e (.cons e2 es)) W σ G Q = (wpT Γ e W σ G fun b G1 => if b = true then wpTAnd Γ (.cons e2 es) W σ G1 Q else Q false G1) := rfl
@[simp ↓] theorem wp52 {Γ : GE} {W_ : WD} {σ_ : Sg} {G_ : DH} {Q_ : Bool → DH → Prop} : wpTOr Γ (.nil) W_ σ_ G_ Q_ = (False) := rfl
@[simp ↓] theorem wp53 {Γ : GE} {e : ME} {W : WD} {σ : Sg} {G : DH} {Q : Bool → DH → Prop} : wpTOr Γ (.cons e .nil) W σ G Q = (wpT Γ e W σ G Q) := rfl
@[simp ↓] theorem wp54 {Γ : GE} {e : ME} {e2 : ME} {es : MEs} {W : WD} {σ : Sg} {G : DH} {Q : Bool → DH → Prop} : wpTOr Γ (.cons e (.cons e2 es)) W σ G Q = (wpT Γ e W σ G fun b G1 => if b = true then Q true G1 else wpTOr Γ (.cons e2 es) W σ G1 Q) := rfl
@[simp ↓] theorem wp55 {Γ : GE} {W_ : WD} {σ_ : Sg} {G : DH} {Q : List D → DH → Prop} : wpEs Γ (.nil) W_ σ_ G Q = (Q [] G) := rfl
@[simp ↓] theorem wp56 {Γ : GE} {e : ME} {es : MEs} {W : WD} {σ : Sg} {G : DH} {Q : List D → DH → Prop} : wpEs Γ (.cons e es) W σ G Q = (wpE Γ e W σ G fun x G1 => wpEs Γ es W σ G1 fun ds G2 => Q (x :: ds) G2) := rfl
@[simp ↓] theorem wp57 {Γ : GE} {W_ : WD} {acc : Str} {σ_ : Sg} {G : DH} {Q : Str → DH → Prop} : wpJ Γ (.nil) W_ acc σ_ G Q = (Q acc G) := rfl
@[simp ↓] theorem wp58 {Γ : GE} {e : ME} {es : MEs} {W : WD} {acc : Str} {σ : Sg} {G : DH} {Q : Str → DH → Prop} : wpJ Γ (.cons e es) W acc σ G Q = (wpE Γ e W σ G fun x G1 => strD x G1 fun y G2 => (acc ++ y).length ≤ sizeLine ∧ wpJ Γ es W (acc ++ y) σ G2 Q) := rfl
@[simp ↓] theorem wp59 {Γ : GE} {W_ : WD} {σ_ : Sg} {G : DH} {Q : Option Int → DH → Prop} : wpO Γ (.none) W_ σ_ G Q = (Q none G) := rfl
@[simp ↓] theorem wp60 {Γ : GE} {e : ME} {W : WD} {σ : Sg} {G : DH} {Q : Option Int → DH → Prop} : wpO Γ (.some e) W σ G Q = (wpE Γ e W σ G fun x G1 => partD x G1 Q) := rfl
@[simp ↓] theorem wp61 {Γ : GE} {W_ : WD} {σ_ : Sg} {G : DH} {Q : Bool → DH → Prop} : wpC Γ (.none) W_ σ_ G Q = (Q true G) := rfl
@[simp ↓] theorem wp62 {Γ : GE} {e : ME} {W : WD} {σ : Sg} {G : DH} {Q : Bool → DH → Prop} : wpC Γ (.some e) W σ G Q = (wpT Γ e W σ G Q) := rfl
@[simp ↓] theorem wp63 {Γ : GE} {i : Nat} {d : D} {W_ : WD} {σ : Sg} {G : DH} {Q : Sg → DH → Prop} : wpG Γ (.name i) d W_ σ G Q = (Q (st σ i (some d)) G) := rfl
@[simp ↓] theorem wp64 {Γ : GE} {gs : MGs} {d : D} {W : WD} {σ : Sg} {G : DH} {Q : Sg → DH → Prop} : wpG Γ (.tup gs) d W σ G Q = (ofTup d G fun ds => ds.length = gs.n ∧ wpGs Γ gs ds W σ G Q) := rfl
@[simp ↓] theorem wp65 {Γ : GE} {o : ME} {i : ME} {d : D} {W : WD} {σ : Sg} {G : DH} {Q : Sg → DH → Prop} : wpG Γ (.sub o i) d W σ G Q = (wpE Γ o W σ G fun x G1 => wpE Γ i W σ G1 fun y G2 => setD x y d G2 fun G3 => Q σ G3) := rfl
@[simp ↓] theorem wp66 {Γ : GE} {ds : List D} {W_ : WD} {σ : Sg} {G : DH} {Q : Sg → DH → Prop} : wpGs Γ (.nil) ds W_ σ G Q = (ds = [] ∧ Q σ G) := rfl
@[simp ↓] theorem wp67 {Γ : GE} {g : MG} {gs : MGs} {ds : List D} {W : WD} {σ : Sg} {G : DH} {Q : Sg → DH → Prop} : wpGs Γ (.cons g gs) ds W σ G Q = (ofCons ds fun d r => wpG Γ g d W σ G fun σ1 G1 => wpGs Γ gs r W σ1 G1 Q) := rfl
@[simp ↓] theorem wp68 {Γ : GE} {e : ME} {W : WD} {σ : Sg} {G : DH} {Q : IK} : wpI Γ (.seq e) W σ G Q = (wpE Γ e W σ G fun x G1 => itSeq x G1 Q) := rfl
@[simp ↓] theorem wp69 {Γ : GE} {e : ME} {W : WD} {σ : Sg} {G : DH} {Q : IK} : wpI Γ (.enum e) W σ G Q = (wpE Γ e W σ G fun x G1 => itEnum x G1 Q) := rfl
@[simp ↓] theorem wp70 {Γ : GE} {e : ME} {W : WD} {σ : Sg} {G : DH} {Q : IK} : wpI Γ (.rev e) W σ G Q = (wpE Γ e W σ G fun x G1 => itRev x G1 Q) := rfl
@[simp ↓] theorem wp71 {Γ : GE} {a : ME} {b : ME} {W : WD} {σ : Sg} {G : DH} {Q : IK} : wpI Γ (.zip a b) W σ G Q = (wpE Γ a W σ G fun x G1 => wpE Γ b W σ G1 fun y G2 => itZip x y G2 Q) := rfl
@[simp ↓] theorem wp72 {Γ : GE} {es : MEs} {W : WD} {σ : Sg} {G : DH} {Q : IK} : wpI Γ (.range es) W σ G Q = (wpEs Γ es W σ G fun ds G1 => itRange ds G1 Q) := rfl
@[simp ↓] theorem wp73 {Γ : GE} {W : WD} {D : DEnds} {h : MH} {hs : List MH} {xd : XD} {σ : Sg} {G : DH} : wpH Γ W D [] = W := rfl
@[simp ↓] theorem wp74 {Γ : GE} {W : WD} {D : DEnds} {h : MH} {hs : List MH} {xd : XD} {σ : Sg} {G : DH} : wpH Γ W D (h :: hs) xd σ G = (optK (Γ.exm xd.cls h.cls) fun m => (m = true → ∀ a, G a = none → wpE { Γ with cur := some (a, xd) } h.ret nowish (match h.as with | none => σ | some i => st σ i (some (.ref a))) G D.rt) ∧ (m = false → wpH Γ W D hs xd σ G)) := rfl
@[simp ↓] theorem wp75 {Γ : GE} {i : Nat} {j : Nat} {es : MEs} {W : WD} {D : DEnds} {σ : Sg} {G : DH} : wpS Γ (.par2 i j es) W D σ G = (wpEs Γ es W σ G fun ds G1 => two ds fun x y => D.nx (st (st σ i (some x)) j (some y)) G1) := rfl
@[simp ↓] theorem wp76 {Γ : GE} {i : Nat} {j : Nat} {l : Nat} {es : MEs} {W : WD} {D : DEnds} {σ : Sg} {G : DH} : wpS Γ (.par3 i j l es) W D σ G = (wpEs Γ es W σ G fun ds G1 => three ds fun x y z => D.nx (st (st (st σ i (some x)) j (some y)) l (some z)) G1) := rfl
@[simp ↓] theorem wp77 {Γ : GE} {e : ME} {W : WD} {D : DEnds} {σ : Sg} {G : DH} : wpS Γ (.expr e) W D σ G = (wpE Γ e W σ G fun _ G1 => D.nx σ G1) := rfl
@[simp ↓] theorem wp78 {Γ : GE} {e : ME} {W : WD} {D : DEnds} {σ : Sg} {G : DH} : wpS Γ (.ret e) W D σ G = (wpE Γ e W σ G D.rt) := rfl
@[simp ↓] theorem wp79 {Γ : GE} {W_ : WD} {D : DEnds} {σ_ : Sg} {G : DH} : wpS Γ (.retN) W_ D σ_ G = (D.rt .non G) := rfl
@[simp ↓] theorem wp80 {Γ : GE} {g : MG} {e : ME} {W : WD} {D : DEnds} {σ : Sg} {G : DH} : wpS Γ (.asg g e) W D σ G = (wpE Γ e W σ G fun x G1 => wpG Γ g x W σ G1 D.nx) := rfl
@[simp ↓] theorem wp81 {Γ : GE} {i : Nat} {op : Operator} {e : ME} {W : WD} {D : DEnds} {σ : Sg} {G : DH} : wpS Γ (.aug i op e) W D σ G = (optK (gt σ i) fun x => wpE Γ e W σ G fun y G1 => augD op x y G1 fun z G2 => D.nx (st σ i (some z)) G2) := rfl
@[simp ↓] theorem wp82 {Γ : GE} {o : ME} {i : ME} {op : Operator} {e : ME} {W : WD} {D : DEnds} {σ : Sg} {G : DH} : wpS Γ (.augS o i op e) W D σ G = (wpE Γ o W σ G fun a G1 => wpE Γ i W σ G1 fun k G2 => refK a fun l => ixD (.ref l) k G2 fun x G3 => wpE Γ e W σ G3 fun y G4 => augD op x y G4 fun z G5 => setD (.ref l) k z G5 fun G6 => D.nx σ G6) := rfl
@[simp ↓] theorem wp83 {Γ : GE} {c : ME} {a : MSs} {b : MSs} {W : WD} {D : DEnds} {σ : Sg} {G : DH} : wpS Γ (.ifs c a b) W D σ G = (wpT Γ c W σ G fun t G1 => if t = true then wpSs Γ a W D σ G1 else wpSs Γ b W D σ G1) := rfl
@[simp ↓] theorem wp86 {Γ : GE} {x : Str} {es : MEs} {W : WD} {D_ : DEnds} {σ : Sg} {G : DH} : wpS Γ (.raise x es) W D_ σ G = (optK (Γ.exc x) fun fs => fs.length = es.n ∧ wpEs Γ es W σ G fun ds G1 => W ⟨x, fs.zip ds⟩ σ G1) := rfl
@[simp ↓] theorem wp87 {Γ : GE} {b : MSs} {hs : List MH} {W : WD} {D : DEnds} {σ : Sg} {G : DH} : wpS Γ (.tryy b hs) W D σ G = ((hs.all fun h => Γ.exb h.cls) = true ∧ wpSs Γ b (wpH Γ W D hs) D σ G) := rfl
@[simp ↓] theorem wp88 {Γ : GE} {W_ : WD} {D : DEnds} {σ : Sg} {G : DH} : wpS Γ (.pass) W_ D σ G = (D.nx σ G) := rfl
@[simp ↓] theorem wp89 {Γ : GE} {W_ : WD} {D : DEnds} {σ : Sg} {G : DH} : wpS Γ (.brk) W_ D σ G = (D.bk σ G) := rfl
@[simp ↓] theorem wp90 {Γ : GE} {W_ : WD} {D : DEnds} {σ : Sg} {G : DH} : wpS Γ (.cont) W_ D σ G = (D.ct σ G) := rfl
@[simp ↓] theorem wp91 {Γ : GE} {W_ : WD} {D : DEnds} {σ : Sg} {G : DH} : wpSs Γ (.nil) W_ D σ G = (D.nx σ G) := rfl
@[simp ↓] theorem wp92 {Γ : GE} {s : MS} {ss : MSs} {W : WD} {D : DEnds} {σ : Sg} {G : DH} : wpSs Γ (.cons s ss) W D σ G = (wpS Γ s W { D with nx := fun σ' G' => wpSs Γ ss W D σ' G' } σ G) := rfl
section
variable {x y : D} {ys : List D} {s t : Str} {i j : Int} {a b : Bool}
@[simp] theorem ft_str : flT (.str s) = true := rfl
@[simp] theorem ft_int : flT (.int i) = true := rfl
@[simp] theorem ft_non : flT .non = true := rfl
@[simp] theorem ft_bl : flT (.bl a) = true := rfl
@[simp] theorem ft_tup : flT (.tup ys) = true := rfl
@[simp] theorem fl_str : flD (.str s) = true := rfl
@[simp] theorem fl_int : flD (.int i) = true := rfl
@[simp] theorem fl_non : flD .non = true := rfl
@[simp] theorem fl_bl : flD (.bl a) = true := rfl
@[simp] theorem in_nil : inD x [] = false := rfl
@[simp] theorem in_cons : inD x (y :: ys) = (feqD y x || inD x ys) := rfl
@[simp] theorem feq_ss : feqD (.str s) (.str t) = decide (s = t) := by show (s == t) = _; rw [Bool.eq_iff_iff]; simp
@[simp] theorem feq_ii : feqD (.int i) (.int j) = decide (i = j) := by show (i == j) = _; rw [Bool.eq_iff_iff]; simp
@[simp] theorem feq_bb : feqD (.bl a) (.bl b) = decide (a = b) := by show (a == b) = _; rw [Bool.eq_iff_iff]; simp
@[simp] theorem feq_nn : feqD .non .non = true := rfl
@[simp] theorem feq_ns : feqD .non (.str s) = false := rfl
@[simp] theorem feq_sn : feqD (.str s) .non = false := rfl
@[simp] theorem feq_ni : feqD .non (.int i) = false := rfl
@[simp] theorem feq_in : feqD (.int i) .non = false := rfl
@[simp] theorem feq_is : feqD (.int i) (.str s) = false := rfl
@[simp] theorem feq_si : feqD (.str s) (.int i) = false := rfl
end
@[simp ↓] theorem fi_sp {ps : List Str} {S : DSp} {kws : List (Nat × List Str × List Nat)} {dfl ds : List D} {G : DH} {Q : QD} {E : ED} : FI.sp ⟨ps, S, kws, dfl⟩ ds G Q E = S ds G Q E := rfl
/-! ### loops that wait for their rules -/
def gD (Γ : GE) (g : MG) (W : WD) : D → Sg → DH → (Sg → DH → Prop) → Prop := fun d σ G Q => wpG Γ g d W σ G Q
def bD (Γ : GE) (b : MSs) (W : WD) : DEnds → Sg → DH → Prop := fun De σ G => wpSs Γ b W De σ G
def cD (Γ : GE) (c : ME) (W : WD) : Sg → DH → (Bool → DH → Prop) → Prop := fun σ G Q => wpT Γ c W σ G Q
def oD' (Γ : GE) (c : MO) : Sg → DH → (Bool → DH → Prop) → Prop := fun σ G Q => wpC Γ c nowish σ G Q
def eD (Γ : GE) (e : ME) : Sg → DH → QD → Prop := fun σ G Q => wpE Γ e nowish σ G Q
section
variable {Γ : GE} {W : WD} {De : DEnds} {σ : Sg} {G : DH} {Q : QD} {g : MG} {it : MI} {b : MSs} {c e : ME} {o : MO} {d : D} {own : List (Str × Nat)}
@[simp ↓] theorem gD_app {Q : Sg → DH → Prop} : gD Γ g W d σ G Q = wpG Γ g d W σ G Q := rfl
@[simp ↓] theorem bD_app : bD Γ b W De σ G = wpSs Γ b W De σ G := rfl
@[simp ↓] theorem cD_app {Q : Bool → DH → Prop} : cD Γ c W σ G Q = wpT Γ c W σ G Q := rfl
@[simp ↓] theorem oD_app {Q : Bool → DH → Prop} : oD' Γ o σ G Q = wpC Γ o nowish σ G Q := rfl
@[simp ↓] theorem eD_app : eD Γ e σ G Q = wpE Γ e nowish σ G Q := rfl
@[simp ↓] theorem wp_for : wpS Γ (.forr g it b) W De σ G = wpI Γ it W σ G fun ds src G1 => loopD src (gD Γ g W) (bD Γ b W) De ds σ G1 := rfl
@[simp ↓] theorem wp_whl : wpS Γ (.whl c b) W De σ G = ∃ n, whD (cD Γ c W) (bD Γ b W) De n σ G := rfl
@[simp ↓] theorem wp_lc : wpE Γ (.lc own g it o e) W σ G Q = wpI Γ it W σ G fun ds src G1 => ds.length ≤ sizeLine ∧ lcD src (gD Γ g nowish) (oD' Γ o) (eD Γ e) (fun acc G2 => ∀ p, G2 p = none → Q (.ref p) (put G2 p (.lst acc))) (wipeD σ own) ds [] G1 := rfl
def refK2 (x y : D) (G : DH) (k : Addr → Addr → List D → List D → Prop) : Prop := ∃ p q ds es, x = .ref p ∧ y = .ref q ∧ sqAt G p = some ds ∧ sqAt G q = some es ∧ k p q ds es
@[simp ↓] theorem wp_zlc {i j : Nat} {a c : ME} {ss : MSs} : wpSs Γ (.zlc i a c j own g e ss) W De σ G = wpE Γ a W σ G fun x G1 => wpE Γ c W σ G1 fun y G2 => refK2 x y G2 fun p q ds es => (zipL ds es).length ≤ sizeLine ∧
    lcD [(p, ds), (q, es)] (gD Γ g nowish) (oD' Γ .none) (eD Γ e) (fun acc G3 => ∀ r, G3 r = none → wpSs Γ ss W De (st (st σ i none) j (some (.ref r))) (put G3 r (.lst acc))) (wipeD (st σ i none) own) (zipL ds es) [] G2 := rfl
end
/-! ### heaps of which one list changes -/
/-- the list at a is l, what stood elsewhere stands -/
def Ext (a : Addr) (l : List D) (G G' : DH) : Prop := G' a = some (.lst l) ∧ ∀ b o, b ≠ a → G b = some o → G' b = some o
section
variable {a p : Addr} {l l' : List D} {G G1 G2 : DH} {o : DO}
theorem Ext.same (h : G a = some (.lst l)) : Ext a l G G := ⟨h, fun _ _ _ e => e⟩
theorem Ext.put : Ext a l G (put G a (.lst l)) := ⟨put_same, fun b o h e => by rw [put_ne h]; exact e⟩
theorem Ext.trans (e : Ext a l G G1) (f : Ext a l' G1 G2) : Ext a l' G G2 := ⟨f.1, fun b o h q => f.2 b o h (e.2 b o h q)⟩
theorem Ext.new (e : Ext a l G G1) (hp : G1 p = none) : Ext a l G (DL.put G1 p o) := by
  refine ⟨?_, fun b u h q => ?_⟩
  · rw [put_ne (ne_free e.1 hp)]; exact e.1
  · have := e.2 b u h q
    rw [put_ne (ne_free this hp)]; exact this
theorem Ext.sub (e : Ext a l G G1) (s : Sub G1 G2) : Ext a l G G2 := ⟨s a _ e.1, fun b o h q => s b o (e.2 b o h q)⟩
end
/-! ### sizes of ints -/
def Sz (n : Nat) (x : Int) : Prop := x.natAbs < 2 ^ n
section
variable {m n : Nat} {x y : Int}
theorem Sz.mono (h : Sz m x) (hm : m ≤ n) : Sz n x := Nat.lt_of_lt_of_le h (Nat.pow_le_pow_right (by decide) hm)
theorem Sz.mul (h : Sz m x) (h' : Sz n y) : Sz (m + n) (x * y) := by
  unfold Sz at *
  rw [Int.natAbs_mul, Nat.pow_add]
  exact Nat.mul_lt_mul'' h h'
theorem Sz.add (h : Sz m x) (h' : Sz m y) : Sz (m + 1) (x + y) := by
  unfold Sz at *
  have := Int.natAbs_add_le x y
  rw [Nat.pow_succ]; omega
theorem Sz.neg (h : Sz m x) : Sz m (-x) := by unfold Sz at *; rwa [Int.natAbs_neg]
theorem Sz.sub (h : Sz m x) (h' : Sz m y) : Sz (m + 1) (x - y) := by rw [Int.sub_eq_add_neg]; exact h.add h'.neg
theorem Sz.log (h : Sz n x) (hn : 0 < n) : x.natAbs.log2 < n := by
  by_cases h0 : x.natAbs = 0
  · rw [h0]; exact hn
  · exact (Nat.log2_lt h0).mpr h
theorem Sz.bits (h : Sz n x) : Builtin.Int.intBits x ≤ n := by
  unfold Builtin.Int.intBits
  split
  · exact Nat.zero_le _
  · rename_i hx
    have h0 : x.natAbs ≠ 0 := by simpa using hx
    have := (Nat.log2_lt h0).mpr h
    omega
theorem mul_ok (h : Sz m x) (h' : Sz n y) (hs : m + n ≤ 100000000) : IntMulOk x y := by
  have h1 := h.bits
  have h2 := h'.bits
  unfold IntMulOk Builtin.Int.intTooBig
  have : ¬ (((Builtin.Int.intBits x : Nat) : Int) + ((Builtin.Int.intBits y : Nat) : Int) > ((PySem.bitsLine : Nat) : Int)) := by
    have e : PySem.bitsLine = 134217728 := rfl
    rw [e]
    omega
  rw [decide_eq_false this]
  simp
end
theorem nat_inj {s t : List Char} (h : s.map Char.toNat = t.map Char.toNat) : s = t := by
  induction s generalizing t with
  | nil => cases t with
    | nil => rfl
    | cons _ _ => cases h
  | cons c s ih => cases t with
    | nil => cases h
    | cons d t =>
      rw [List.map_cons, List.map_cons] at h
      injection h with h1 h2
      have : c = d := Char.ext (UInt32.toNat_inj.mp h1)
      rw [this, ih h2]
@[simp] theorem ofString_inj {s t : String} : (Str.ofString s = Str.ofString t) ↔ s = t := by
  constructor
  · intro h
    have e := congrArg TL.tl h
    rw [TL.tl_ofString, TL.tl_ofString] at e
    exact String.toList_inj.mp (nat_inj e)
  · exact fun h => by rw [h]
theorem Ext.ty {a : Addr} {l l0 : List D} {G G1 : DH} {x : D} {t : Ty} (e : Ext a l G G1) (h0 : G a = some (.lst l0)) (h : tyD G x = some t) : tyD G1 x = some t := by
  cases x with
  | ref b =>
    simp only [tyD] at h ⊢
    by_cases hb : b = a
    · subst hb
      rw [h0] at h
      rw [e.1]
      exact h
    · cases q : G b with
      | none => rw [q] at h; cases h
      | some o =>
        rw [q] at h
        rw [e.2 b o hb q]
        exact h
  | _ => exact h
/-! ### the end -/
def spLaw (K : PySem.W.Frag) : Sp := fun vs H Q _ => ∃ (a : Addr) (ns : List Int), vs = [.ref a] ∧ SqV K H a (ns.map V.int) ∧ ns.length ≤ 63 ∧ ∀ H', Q (.bl true) H'
def SLaw : DSp := fun ds _ Q _ => ∃ ns : List Int, ds = [.lsv (ns.map D.int)] ∧ ns.length ≤ 63 ∧ ∀ G', Q (.bl true) G'
theorem sqv_only {K : PySem.W.Frag} {H : Hp} {a : Addr} {xs : List V} (o : Only H) (h : SqL K H a xs) : SqV K H a xs := .of h fun ys z => by
  rcases o a with e | ⟨_, _, e⟩
  · rw [e] at z; cases z
  · rw [e] at z; cases z
theorem rps_ints {K : PySem.W.Frag} {H : Hp} : ∀ ns : List Int, Rps K H (ns.map D.int) (ns.map V.int)
  | [] => rfl
  | n :: ns => ⟨_, _, rfl, rfl, rps_ints ns⟩
theorem law_imp {K : PySem.W.Frag} {mg : Str → Option Value} {vs : List V} {H : Hp} {Q : VK} {E : XK} (h : spLaw K vs H Q E) : toSp K mg 1 SLaw vs H Q E := by
  obtain ⟨a, ns, e, q, hl, hQ⟩ := h
  subst e
  refine ⟨[.lsv (ns.map D.int)], fun _ => none, fun d _ => d = .bl true, fun _ _ => False, rfl, ⟨_, _, rfl, ⟨a, _, rfl, q, rps_ints ns⟩, rfl⟩, fun _ _ z => (by cases z), ⟨ns, rfl, hl, fun _ => rfl⟩, fun d G' v H' ed rd _ _ => ?_, fun _ _ _ _ _ z => False.elim z⟩
  subst ed
  rw [show v = V.bl true from rd]
  exact hQ H'
end DL

set_option Elab.async false
set_option linter.all false
set_option maxRecDepth 100000
set_option maxHeartbeats 4000000
/-! DL21: defs with defaults. -/
namespace DL
open PySem PySem.Spec PyProof.Rows L2
section
variable {Γ : GE} {k : Nat} {g : Nat} {P : Program} {w : World} {K : PySem.W.Frag} {mg : Str → Option Value} {base : Heap}
/-- what k_is tells of a def with defaults -/
theorem fund_mk {x qual : Str} {st : Stmt} {f T : Addr} {oc : Value} {od an : Option Addr} {osl : Array (Option Value)} {kV doc pm cdv ct : Value} {o : Obj} {its : List Value} {n : Nat} {dvs : List V}
    (l : K.lookup f = some ⟨oc, od, .func (PySem.W.fnOf x qual (defArgs st) (defBody st) (defScope st) (.ref T) kV doc pm an cdv ct), osl⟩) (c : PySem.W.codeIn K cdv qual = true) (kp : PySem.W.keepIn K (.ref f) = true)
    (lT : K.lookup T = some o) (oT : o.data = .seq its.toArray n) (rT : Vals dvs its) (hd : dvs ≠ []) :
    FunD K x qual (defArgs st) (defBody st) (defScope st) dvs [] f (PySem.W.fnOf x qual (defArgs st) (defBody st) (defScope st) (.ref T) kV doc pm an cdv ct) :=
  ⟨⟨oc, od, _, kV, doc, pm, an, cdv, ct, osl, rfl, l, c, .inr ⟨hd, T, o, its, n, rfl, lT, oT, rT⟩, .inl rfl⟩, kp⟩
/-- a def of the text with defaults -/
theorem def_okD {x qual : Str} {st : Stmt} {f : Addr} {fd : FuncData} {N ps : List Str} {ms : MSs} {S : DSp} {dvs : List V} (ok : GOk Γ k g P w K mg base) (k2 : 34 ≤ k) (F : FunD K x qual (defArgs st) (defBody st) (defScope st) dvs [] f fd) (sc : FnScope N ps (defScope st))
    (ck : chSs ⟨N, defScope st, defScope st, false, g⟩ ms (defBody st) = true) (run : ∀ ds G Q E, ds.length = ps.length → S ds G Q E → Runs Γ ms N.length ds G Q E) : FnOk P w K mg base (L2.CX P w) (k + 1) f fd ps (toSp K mg ps.length S) := by
  obtain ⟨oc, od, dV, kV, doc, pm, an, cdv, ct, osl, rfl, lk, hcd, _, _⟩ := F.ex
  exact def_okA ok k2 lk hcd sc ck run
theorem kbdD_mk {x qual : Str} {st : Stmt} {f : Addr} {fd : FuncData} {ps ks : List Str} {n : Nat} {p : List Nat} {dvs : List V} {dfl : List D} (F : FunD K x qual (defArgs st) (defBody st) (defScope st) dvs [] f fd) (hd : dvs ≠ []) (hr : ∀ H, Rps K H dfl dvs)
    (h : ∀ (T : Addr) (kV doc pm : Value) (an : Option Addr) (cdv ct : Value) (us ws its : List Value), us.length = n → ws.length = ks.length → its.length = dvs.length →
      ∃ k, bindArgs (PySem.W.fnOf x qual (defArgs st) (defBody st) (defScope st) (.ref T) kV doc pm an cdv ct) ⟨us, ks.zip ws⟩ = seqItems? (.ref T) >>= k ∧ k (some its.toArray) = pure (ps.zip (permL p (us ++ ws ++ its)))) : KBd K fd ps n ks p dfl := by
  obtain ⟨oc, od, dV, kV, doc, pm, an, cdv, ct, osl, rfl, lk, hcd, hD, hK⟩ := F.ex
  rcases hD with ⟨e, _⟩ | ⟨_, T, o, its, m, rfl, lT, oT, rT⟩
  · exact absurd e hd
  · refine ⟨its, dvs, rT, hr, fun s us ws X h1 h2 => ?_⟩
    obtain ⟨k, e1, e2⟩ := h T kV doc pm an cdv ct us ws its h1 h2 rT.length.symm
    refine BindsTo.of_looks fun M => ?_
    rw [e1]
    exact looks_items X lT oT (.of_pure e2)
theorem bindsD {x qual : Str} {st : Stmt} {f : Addr} {fd : FuncData} {ps : List Str} {dvs : List V} (F : FunD K x qual (defArgs st) (defBody st) (defScope st) dvs [] f fd) (hd : dvs ≠ [])
    (h : ∀ (T : Addr) (kV doc pm : Value) (an : Option Addr) (cdv ct : Value) (us its : List Value), us.length = ps.length → its.length = dvs.length →
      ∃ k, bindArgs (PySem.W.fnOf x qual (defArgs st) (defBody st) (defScope st) (.ref T) kV doc pm an cdv ct) ⟨us, []⟩ = seqItems? (.ref T) >>= k ∧ k (some its.toArray) = pure (ps.zip (us ++ its.drop dvs.length))) : Binds K fd ps [] := by
  obtain ⟨ds, r, b⟩ := F.binds1 ps.length dvs.length hd (by omega) h
  rw [List.drop_length] at r
  cases r
  exact b
theorem GOk.addK (ok : GOk Γ k g P w K mg base) {f : Str} {fi : FI} {a : Addr} {fd : FuncData} (hm : mg f = some (.ref a)) (kp : PySem.W.keepIn K (.ref a) = true) (F : FnOk P w K mg base (L2.CX P w) k a fd fi.ps (toSp K mg fi.ps.length fi.sp)) (B : Binds K fd fi.ps [])
    (KB : ∀ q ∈ fi.kws, KBd K fd fi.ps q.1 q.2.1 q.2.2 fi.dfl) : GOk (Γ.add f fi) k g P w K mg base :=
  ⟨fun f' fi' e => by
    by_cases hf : f' = f
    · subst hf
      have e' : fi = fi' := by simpa [GE.add] using e
      subst e'
      exact ⟨a, fd, hm, kp, F, B, KB⟩
    · exact ok.fn f' fi' (by simpa [GE.add, hf] using e), ok.bt, ok.gcd, ok.cmb, ok.con, ok.exc, ok.exb, ok.exm, ok.exi, ok.ns, ok.tr⟩
end
end DL

set_option Elab.async false
set_option linter.all false
set_option maxRecDepth 100000
set_option maxHeartbeats 4000000
/-! DL22: facts about the module's names; the chain from an empty table, one name after another. -/
namespace DL
open PySem PySem.Spec PyProof.Rows L2
/-- f keeps S: for callers by position -/
def Fn (Γ : GE) (f : Str) (ps : List Str) (S : DSp) : Prop := ∃ k d, Γ.fn f = some ⟨ps, S, k, d⟩
/-- .. and for callers that give so many by position, these by name -/
def Fk (Γ : GE) (f : Str) (ps : List Str) (S : DSp) (n : Nat) (ks : List Str) (p : List Nat) (dfl : List D) : Prop := ∃ k, Γ.fn f = some ⟨ps, S, k, dfl⟩ ∧ kwF k n ks = some p
@[simp] theorem permL_eq {α : Type} {p : List Nat} {l : List α} : permL p l = p.filterMap fun i => l[i]? := rfl
/-- a test, by cases -/
theorem ite_l {c : Prop} [Decidable c] {A B : Prop} (h : (¬ c ∧ B) ∨ (c ∧ A)) : if c then A else B := by
  rcases h with ⟨n, b⟩ | ⟨y, a⟩
  · rw [if_neg n]; exact b
  · rw [if_pos y]; exact a
/-! ### the table -/
def GE0 : GE := { fn := fun _ => none, con := fun _ => none, exc := fun _ => none, exb := fun _ => false, exm := fun _ _ => none }
def GE.addC (Γ : GE) (x : Str) (d : D) : GE := { Γ with con := fun y => if y = x then some d else Γ.con y }
def GE.addX (Γ : GE) (x : Str) (fs : List Str) : GE := { Γ with exc := fun y => if y = x then some fs else Γ.exc y, exb := fun y => if y = x then true else Γ.exb y }
def GE.addM (Γ : GE) (x y : Str) (m : Bool) : GE := { Γ with exm := fun u v => if u = x ∧ v = y then some m else Γ.exm u v }
def GE.addI (Γ : GE) (x y : Str) (m : Bool) : GE := { Γ with exi := fun u v => if u = x ∧ v = y then some m else Γ.exi u v }
section
variable {Γ : GE} {k : Nat} {g : Nat} {P : Program} {w : World} {K : PySem.W.Frag} {mg : Str → Option Value} {base h : Heap}
theorem GOk.zero (bt : ∀ x ∈ bNames, mg x = none) (gc : 1 ≤ g → mg "gcd" = some (.builtin "math.gcd")) (cm : 2 ≤ g → mg "comb" = some (.builtin "math.comb")) (ns : base.NoSeer) (tr : P.given.tree = none) : GOk GE0 k g P w K mg base :=
  ⟨fun _ _ e => (by cases e), bt, gc, cm, fun _ _ e => (by cases e), fun _ _ e => (by cases e), fun _ e => (by cases e), fun _ _ _ e => (by cases e), fun _ _ _ e => (by cases e), ns, tr⟩
theorem GOk.addC (ok : GOk Γ k g P w K mg base) {x : Str} {d : D} (h : ∃ u v, mg x = some u ∧ RelV v u ∧ ∀ H, Rp K H d v) : GOk (Γ.addC x d) k g P w K mg base :=
  ⟨ok.fn, ok.bt, ok.gcd, ok.cmb, fun y e' e => by
    by_cases hy : y = x
    · subst hy
      have e2 : d = e' := by simpa [GE.addC] using e
      subst e2
      exact h
    · exact ok.con y e' (by simpa [GE.addC, hy] using e), ok.exc, ok.exb, ok.exm, ok.exi, ok.ns, ok.tr⟩
theorem GOk.addX (ok : GOk Γ k g P w K mg base) {x : Str} {fs : List Str} (h : ExOk P w K mg base x fs) (hd : (x == ("__debug__" : Str)) = false) : GOk (Γ.addX x fs) k g P w K mg base :=
  ⟨ok.fn, ok.bt, ok.gcd, ok.cmb, ok.con, fun y e' e => by
    by_cases hy : y = x
    · subst hy
      have e2 : fs = e' := by simpa [GE.addX] using e
      subst e2
      exact h
    · exact ok.exc y e' (by simpa [GE.addX, hy] using e), fun y e => by
    by_cases hy : y = x
    · subst hy
      refine ⟨hd, ?_⟩
      rcases fs with _ | ⟨f, _ | ⟨f2, fs⟩⟩
      · obtain ⟨C, m, _⟩ := h; exact ⟨C, m⟩
      · obtain ⟨C, _, _, m, _⟩ := h; exact ⟨C, m⟩
      · exact h.elim
    · exact ok.exb y (by simpa [GE.addX, hy] using e), ok.exm, ok.exi, ok.ns, ok.tr⟩
theorem GOk.addM (ok : GOk Γ k g P w K mg base) {x y : Str} {m : Bool} (h : ∃ Cx Cy, mg x = some (.ref Cx) ∧ mg y = some (.ref Cy) ∧ PySem.W.exmOne K (.ref Cx) (.ref Cy) = some m) : GOk (Γ.addM x y m) k g P w K mg base :=
  ⟨ok.fn, ok.bt, ok.gcd, ok.cmb, ok.con, ok.exc, ok.exb, fun u v e' e => by
    by_cases hy : u = x ∧ v = y
    · obtain ⟨rfl, rfl⟩ := hy
      have e2 : m = e' := by simpa [GE.addM] using e
      subst e2
      exact h
    · exact ok.exm u v e' (by simpa [GE.addM, hy] using e), ok.exi, ok.ns, ok.tr⟩
/-! ### what k_is tells, collected -/
/-- a def of the text -/
structure DefAt (K : PySem.W.Frag) (x : Str) (st : Stmt) : Prop where
  ex : ∃ f fd, PySem.W.nsIn K mainGlobals x = some (some (.ref f)) ∧ Fun K x x st f fd
theorem defAt_mk {x : Str} {st : Stmt} {f : Addr} {oc : Value} {od an : Option Addr} {osl : Array (Option Value)} {kV doc pm cdv ct : Value} (a : PySem.W.nsIn K mainGlobals x = some (some (.ref f)))
    (l : K.lookup f = some ⟨oc, od, .func (PySem.W.fnOf x x (defArgs st) (defBody st) (defScope st) .none kV doc pm an cdv ct), osl⟩) (c : PySem.W.codeIn K cdv x = true) (k : PySem.W.keepIn K (.ref f) = true) : DefAt K x st := ⟨f, _, a, fun_mk l c k⟩
/-- a def of the text with defaults -/
structure DefAtD (K : PySem.W.Frag) (x : Str) (st : Stmt) (dvs : List V) : Prop where
  ex : ∃ f fd, PySem.W.nsIn K mainGlobals x = some (some (.ref f)) ∧ FunD K x x (defArgs st) (defBody st) (defScope st) dvs [] f fd
theorem defAtD_mk {x : Str} {st : Stmt} {f T : Addr} {oc : Value} {od an : Option Addr} {osl : Array (Option Value)} {kV doc pm cdv ct : Value} {o : Obj} {its : List Value} {n : Nat} {dvs : List V} (a : PySem.W.nsIn K mainGlobals x = some (some (.ref f)))
    (l : K.lookup f = some ⟨oc, od, .func (PySem.W.fnOf x x (defArgs st) (defBody st) (defScope st) (.ref T) kV doc pm an cdv ct), osl⟩) (lT : K.lookup T = some o) (oT : o.data = .seq its.toArray n) (c : PySem.W.codeIn K cdv x = true) (kp : PySem.W.keepIn K (.ref f) = true) (rT : Vals dvs its) (hd : dvs ≠ []) : DefAtD K x st dvs :=
  ⟨f, _, a, fund_mk l c kp lT oT rT hd⟩
theorem step (X : K.In h) (hG : h.Ns mainGlobals mg) (ok : GOk Γ k g P w K mg base) (k2 : 34 ≤ k) (x : Str) (fi : FI) {st : Stmt} (A : DefAt K x st) {N : List Str} {ms : MSs} (hd : fi.dfl = [])
    (sc : FnScope N fi.ps (defScope st)) (ck : chSs ⟨N, defScope st, defScope st, false, g⟩ ms (defBody st) = true) (run : ∀ ds G Q E, ds.length = fi.ps.length → fi.sp ds G Q E → Runs Γ ms N.length ds G Q E)
    (hb : ∀ (kV doc pm : Value) (an : Option Addr) (cdv ct : Value) (us : List Value), us.length = fi.ps.length → bindArgs (PySem.W.fnOf x x (defArgs st) (defBody st) (defScope st) .none kV doc pm an cdv ct) ⟨us, []⟩ = pure (fi.ps.zip us))
    (kb : ∀ q ∈ fi.kws, ∀ (kV doc pm : Value) (an : Option Addr) (cdv ct : Value) (us ws : List Value), us.length = q.1 → ws.length = q.2.1.length → bindArgs (PySem.W.fnOf x x (defArgs st) (defBody st) (defScope st) .none kV doc pm an cdv ct) ⟨us, q.2.1.zip ws⟩ = pure (fi.ps.zip (permL q.2.2 (us ++ ws)))) :
    GOk (Γ.add x fi) (k + 1) g P w K mg base := by
  obtain ⟨f, fd, a, F⟩ := A.ex
  exact GOk.add (ok.mono (Nat.le_succ k)) (PySem.W.mg_of X hG a) F (def_ok ok k2 F sc ck run) (F.binds hb) fun q hq => by rw [hd]; exact kbd_mk F (kb q hq)
/-- how a call of a def with defaults binds -/
def BndD (x : Str) (st : Stmt) (n m : Nat) (ks : List Str) (r : List Value → List Value → List Value → List (Str × Value)) : Prop :=
  ∀ (T : Addr) (kV doc pm : Value) (an : Option Addr) (cdv ct : Value) (us ws its : List Value), us.length = n → ws.length = ks.length → its.length = m →
    ∃ k, bindArgs (PySem.W.fnOf x x (defArgs st) (defBody st) (defScope st) (.ref T) kV doc pm an cdv ct) ⟨us, ks.zip ws⟩ = seqItems? (.ref T) >>= k ∧ k (some its.toArray) = pure (r us ws its)
theorem stepD (X : K.In h) (hG : h.Ns mainGlobals mg) (ok : GOk Γ k g P w K mg base) (k2 : 34 ≤ k) (x : Str) (fi : FI) {st : Stmt} {dvs : List V} (A : DefAtD K x st dvs) {N : List Str} {ms : MSs} (hd : dvs ≠ []) (hr : ∀ H, Rps K H fi.dfl dvs)
    (sc : FnScope N fi.ps (defScope st)) (ck : chSs ⟨N, defScope st, defScope st, false, g⟩ ms (defBody st) = true) (run : ∀ ds G Q E, ds.length = fi.ps.length → fi.sp ds G Q E → Runs Γ ms N.length ds G Q E)
    (hb : BndD x st fi.ps.length dvs.length [] fun us _ its => fi.ps.zip (us ++ its.drop dvs.length))
    (kb : ∀ q ∈ fi.kws, BndD x st q.1 dvs.length q.2.1 fun us ws its => fi.ps.zip (permL q.2.2 (us ++ ws ++ its))) :
    GOk (Γ.add x fi) (k + 1) g P w K mg base := by
  obtain ⟨f, fd, a, F⟩ := A.ex
  exact GOk.addK (ok.mono (Nat.le_succ k)) (PySem.W.mg_of X hG a) F.kp (def_okD ok k2 F sc ck run) (bindsD F hd fun T kV doc pm an cdv ct us its h1 h2 => hb T kV doc pm an cdv ct us [] its h1 rfl h2) fun q hq => kbdD_mk F hd hr (kb q hq)
theorem GOk.addI (ok : GOk Γ k g P w K mg base) {x y : Str} {m : Bool} (h : ∃ Cx Cy, mg x = some (.ref Cx) ∧ mg y = some (.ref Cy) ∧ XisC K Cx ∧ PySem.W.kitOne K (.ref Cx) (.ref Cy) = some m) : GOk (Γ.addI x y m) k g P w K mg base :=
  ⟨ok.fn, ok.bt, ok.gcd, ok.cmb, ok.con, ok.exc, ok.exb, ok.exm, fun u v e' e => by
    by_cases hy : u = x ∧ v = y
    · simp [GE.addI, hy] at e
      subst e
      rw [hy.1, hy.2]
      exact h
    · exact ok.exi u v e' (by simpa [GE.addI, hy] using e), ok.ns, ok.tr⟩
theorem xisC_mk {C : Addr} (a1 : PySem.W.isClsIn K C = true) (a2 : PySem.W.findIn K (.ref C) "__getattribute__" = some (some (.builtin "BaseException.__getattribute__"))) (a3 : PySem.W.findIn K (.ref C) "__getattr__" = some none) (a4 : PySem.W.subIn K (.ref C) (.type "BaseException") = some true)
    (a5 : PySem.W.findIn K (.ref C) "__class__" = some (some (.builtin "object.__class__"))) (a6 : PySem.W.specialIn K (.builtin "object.__class__") "__get__" = some (some (.builtin "getset_descriptor.__get__"))) (a7 : PySem.W.takesIn K (.builtin "object.__class__") = some true) (a8 : PySem.W.mroIn K C (.type "object") = some true) : XisC K C := ⟨a1, a2, a3, a4, a5, a6, a7, a8⟩
theorem exm_mk {S C : Addr} {m : Bool} (h1 : PySem.W.subIn K (.ref C) (.type "BaseException") = some true) (h2 : PySem.W.isClsIn K C = true) (h3 : PySem.W.typeIn K (.ref C) = some (.type "type")) (h4 : PySem.W.subIn K (.ref S) (.ref C) = some m) :
    PySem.W.exmOne K (.ref S) (.ref C) = some m := by
  have e1 : (PySem.W.subIn K (.ref C) (.type "BaseException") == some true) = true := by rw [h1]; cases m <;> rfl
  have e2 : ((PySem.W.clsIn K C).isSome && PySem.W.typeIn K (.ref C) == some (.type "type")) = true := by
    have h2' : (PySem.W.clsIn K C).isSome = true := h2
    rw [h2', h3] <;> rfl
  show (if (PySem.W.subIn K (.ref C) (.type "BaseException") == some true) = true then (if ((PySem.W.clsIn K C).isSome && PySem.W.typeIn K (.ref C) == some (.type "type")) = true then PySem.W.subIn K (.ref S) (.ref C) else none) else none) = some m
  rw [if_pos e1, if_pos e2]
  exact h4
/-- an own exception class with one field -/
structure ExcAt (K : PySem.W.Frag) (C : Addr) (f : Str) (st : Stmt) : Prop where
  ex : ∃ fI fd qual, OexC K C ∧ PySem.W.findIn K (.ref C) "__init__" = some (some (.ref fI)) ∧ PySem.W.typeIn K (.ref fI) = some (.type "function") ∧ Fun K "__init__" qual st fI fd ∧ PySem.W.findIn K (.ref C) f = some none ∧ XfC K C
theorem excAt_mk {C : Addr} {f : Str} {st : Stmt} {nm q : Str} {N : Addr} {bs bm : List Value} {sn : List Str} {sub : List Value} {ab : Bool} {col : Option Bool} {dd : Option Addr} {m0 m1 m2 m3 m5 : Option Value}
    {qual : Str} {fa : Addr} {oc : Value} {od an : Option Addr} {osl : Array (Option Value)} {kV doc pm cdv ct : Value}
    (xL : K.lookup C = some (excClassObj nm q C N bs bm true sn sub ab col dd m0 m1 m2 m3 m5 "ValueError.__new__")) (xv : PySem.HandSPX.refsVE bm = true)
    (sa : PySem.W.findIn K (.ref C) "__setattr__" = some (some (.builtin "object.__setattr__"))) (ga : PySem.W.findIn K (.ref C) "__getattribute__" = some (some (.builtin "BaseException.__getattribute__"))) (gg : PySem.W.findIn K (.ref C) "__getattr__" = some none)
    (nb : PySem.W.findIn K (.ref C) f = some none) (a1 : PySem.W.findIn K (.ref C) "__init__" = some (some (.ref fa))) (t1 : PySem.W.typeIn K (.ref fa) = some (.type "function"))
    (l1 : K.lookup fa = some ⟨oc, od, .func (PySem.W.fnOf "__init__" qual (defArgs st) (defBody st) (defScope st) .none kV doc pm an cdv ct), osl⟩) (c1 : PySem.W.codeIn K cdv qual = true) (k1 : PySem.W.keepIn K (.ref fa) = true)
    (kC : PySem.W.keepIn K (.ref C) = true) (eC : PySem.W.subIn K (.ref C) (.type "BaseException") = some true) (tC : PySem.W.typeIn K (.ref C) = some (.type "type")) (hC : PySem.W.hasDictIn K C = true) : ExcAt K C f st :=
  ⟨fa, _, qual, ⟨⟨_, _, _, _, _, _, _, _, _, _, _, _, _, _, _, xL, xv⟩, sa, eC, tC, kC⟩, a1, t1, fun_mk l1 c1 k1, nb, ⟨ga, gg, eC, hC⟩⟩
theorem ex_field (X : K.In h) (hG : h.Ns mainGlobals mg) {x f : Str} {C : Addr} {st : Stmt} (a : PySem.W.nsIn K mainGlobals x = some (some (.ref C))) (A : ExcAt K C f st)
    (sc : FnScope ["self", f] ["self", f] (defScope st)) {p1 p2 p3 p4 pos : Pos} (hb : defBody st = [.Assign [.Attribute (.Name "self" p1) f p2] (.Name f p3) pos]) (h1 : (defScope st).names.lookup ("self" : Str) = some NameKind.local) (h2 : (defScope st).names.lookup f = some NameKind.local) (hf : okName f = true)
    (hbi : ∀ (qual : Str) (kV doc pm : Value) (an : Option Addr) (cdv ct : Value) (us : List Value), us.length = (["self", f] : List Str).length → bindArgs (PySem.W.fnOf "__init__" qual (defArgs st) (defBody st) (defScope st) .none kV doc pm an cdv ct) ⟨us, []⟩ = pure ((["self", f] : List Str).zip us)) : ExOk P w K mg base x [f] := by
  obtain ⟨fI, fd, qual, o, i, t, F, n, xf⟩ := A.ex
  exact ⟨C, fI, fd, PySem.W.mg_of X hG a, o, i, t, init_ok (p4 := p4) F sc hb h1 h2 hf, F.binds (hbi qual), n, xf⟩
theorem ex_plain (X : K.In h) (hG : h.Ns mainGlobals mg) {x : Str} {C : Addr} (a : PySem.W.nsIn K mainGlobals x = some (some (.ref C))) (zX : PySem.W.excIn K C veB "ValueError.__new__" = true) (zK : PySem.W.keepIn K (.ref C) = true) (zB : PySem.W.subIn K (.ref C) (.type "BaseException") = some true) (zT : PySem.W.typeIn K (.ref C) = some (.type "type")) : ExOk P w K mg base x [] :=
  ⟨C, PySem.W.mg_of X hG a, zX, zK, zB, zT⟩
/-! ### constants -/
theorem con_int (X : K.In h) (hG : h.Ns mainGlobals mg) {x : Str} {i : Int} {t : Tok} (a : PySem.W.nsIn K mainGlobals x = some (some (.int i t))) : ∃ u v, mg x = some u ∧ RelV v u ∧ ∀ H, Rp K H (.int i) v := ⟨_, .int i, PySem.W.mg_of X hG a, ⟨_, rfl⟩, fun _ => rfl⟩
theorem con_str (X : K.In h) (hG : h.Ns mainGlobals mg) {x : Str} {i : Str} {t : Tok} (a : PySem.W.nsIn K mainGlobals x = some (some (.str i t))) : ∃ u v, mg x = some u ∧ RelV v u ∧ ∀ H, Rp K H (.str i) v := ⟨_, .str i, PySem.W.mg_of X hG a, ⟨_, rfl⟩, fun _ => rfl⟩
theorem rps_intsV {K : PySem.W.Frag} {H : Hp} : ∀ ns : List Int, Rps K H (ns.map D.int) (ns.map V.int)
  | [] => rfl
  | n :: ns => ⟨_, _, rfl, rfl, rps_intsV ns⟩
/-- a tuple of ints -/
theorem con_ints (X : K.In h) (hG : h.Ns mainGlobals mg) {x : Str} {T : Addr} {o : Obj} {its : List Value} {n : Nat} {ns : List Int} (a : PySem.W.nsIn K mainGlobals x = some (some (.ref T))) (lT : K.lookup T = some o) (cT : o.cls = .type "tuple") (oT : o.data = .seq its.toArray n) (r : Vals (ns.map V.int) its) (hz : its.length ≤ 1000) :
    ∃ u v, mg x = some u ∧ RelV v u ∧ ∀ H, Rp K H (.tup (ns.map D.int)) v :=
  ⟨_, .ref T, PySem.W.mg_of X hG a, rfl, fun H => ⟨T, ns.map V.int, rfl, .inr ⟨o, its.toArray, n, lT, cT, oT, by rw [List.size_toArray, sizeLine_eq]; omega, by simpa using r⟩, rps_intsV ns⟩⟩
/-! ### the end -/
theorem law_last {N : Nat} {ms : MSs} {M : List Str} (X : K.In h) (hG : h.Ns mainGlobals mg) {fa : Addr} (hmg : mg "law" = some (.ref fa)) {st : Stmt} (A : DefAt K "law" st) (sc : FnScope M ["script"] (defScope st)) (ck : chSs ⟨M, defScope st, defScope st, false, g⟩ ms (defBody st) = true)
    (hN : 34 ≤ N) (ok : ∀ base : Heap, base.NoSeer → GOk Γ N g P w K mg base) (run : ∀ ds G Q E, ds.length = 1 → SLaw ds G Q E → Runs Γ ms M.length ds G Q E)
    (hb : ∀ (kV doc pm : Value) (an : Option Addr) (cdv ct : Value) (us : List Value), us.length = (["script"] : List Str).length → bindArgs (PySem.W.fnOf "law" "law" (defArgs st) (defBody st) (defScope st) .none kV doc pm an cdv ct) ⟨us, []⟩ = pure ((["script"] : List Str).zip us)) :
    ∃ fd : FuncData, (∀ (s : Shared) (u : Value), BindsTo s fd ⟨[u], []⟩ [("script", u)]) ∧ ∀ base : Heap, K.In base → base.Ns mainGlobals mg → base.NoSeer → FnOk P w K mg base (L2.CX P w) (N + 1) fa fd ["script"] (spLaw K) := by
  obtain ⟨f, fd, a, F⟩ := A.ex
  have e := hmg.symm.trans (PySem.W.mg_of X hG a)
  cases e
  refine ⟨fd, ?_, fun base _ _ hS => (def_ok (ok base hS) hN F sc ck (S := SLaw) run).imp fun vs H Q E h => law_imp h⟩
  obtain ⟨oc, od, kV, doc, pm, an, cdv, ct, osl, rfl, lk, hcd⟩ := F.ex
  exact fun s u => .of_eq (hb kV doc pm an cdv ct [u] rfl)
theorem bt_of (X : K.In h) (hG : h.Ns mainGlobals mg) (bt : ∀ x ∈ bNames, PySem.W.nsIn K mainGlobals x = some none) : ∀ x ∈ bNames, mg x = none := fun x hx => PySem.W.mg_none_of X hG (bt x hx)
end
theorem cInt_mk {K : PySem.W.Frag} {x : Str} {n : Int} {t : _} (a : PySem.W.nsIn K mainGlobals x = some (some (.int n t))) : ∃ t, PySem.W.nsIn K mainGlobals x = some (some (.int n t)) := ⟨t, a⟩
theorem cStr_mk {K : PySem.W.Frag} {x z : Str} {t : _} (a : PySem.W.nsIn K mainGlobals x = some (some (.str z t))) : ∃ t, PySem.W.nsIn K mainGlobals x = some (some (.str z t)) := ⟨t, a⟩
theorem cTup_mk {K : PySem.W.Frag} {x : Str} {ds : List V} {T : Addr} {o : Obj} {its : Array Value} {n : Nat} (a : PySem.W.nsIn K mainGlobals x = some (some (.ref T))) (b : K.lookup T = some o) (c : o.cls = .type "tuple") (d : o.data = .seq its n) (e : Vals ds its.toList) :
    ∃ T o its n, PySem.W.nsIn K mainGlobals x = some (some (.ref T)) ∧ K.lookup T = some o ∧ o.cls = .type "tuple" ∧ o.data = .seq its n ∧ Vals ds its.toList := ⟨T, o, its, n, a, b, c, d, e⟩
theorem exX_mk {K : PySem.W.Frag} {x f : Str} {C : Addr} {st : Stmt} (a : PySem.W.nsIn K mainGlobals x = some (some (.ref C))) (b : ExcAt K C f st) : ∃ C, PySem.W.nsIn K mainGlobals x = some (some (.ref C)) ∧ ExcAt K C f st := ⟨C, a, b⟩
theorem exP_mk {K : PySem.W.Frag} {x : Str} {C : Addr} (a : PySem.W.nsIn K mainGlobals x = some (some (.ref C))) (b1 : PySem.W.excIn K C veB "ValueError.__new__" = true) (b2 : PySem.W.keepIn K (.ref C) = true) (b3 : PySem.W.subIn K (.ref C) (.type "BaseException") = some true) (b4 : PySem.W.typeIn K (.ref C) = some (.type "type")) :
    ∃ C, PySem.W.nsIn K mainGlobals x = some (some (.ref C)) ∧ PySem.W.excIn K C veB "ValueError.__new__" = true ∧ PySem.W.keepIn K (.ref C) = true ∧ PySem.W.subIn K (.ref C) (.type "BaseException") = some true ∧ PySem.W.typeIn K (.ref C) = some (.type "type") := ⟨C, a, b1, b2, b3, b4⟩
theorem exI_mk {K : PySem.W.Frag} {x y : Str} {Cx Cy : Addr} {m : Bool} (a : PySem.W.nsIn K mainGlobals x = some (some (.ref Cx))) (b : PySem.W.nsIn K mainGlobals y = some (some (.ref Cy))) (c : XisC K Cx) (d : PySem.W.kitOne K (.ref Cx) (.ref Cy) = some m) :
    ∃ Cx Cy, PySem.W.nsIn K mainGlobals x = some (some (.ref Cx)) ∧ PySem.W.nsIn K mainGlobals y = some (some (.ref Cy)) ∧ XisC K Cx ∧ PySem.W.kitOne K (.ref Cx) (.ref Cy) = some m := ⟨Cx, Cy, a, b, c, d⟩
theorem exM_mk {K : PySem.W.Frag} {x y : Str} {Cx Cy : Addr} {m : Bool} (a : PySem.W.nsIn K mainGlobals x = some (some (.ref Cx))) (b : PySem.W.nsIn K mainGlobals y = some (some (.ref Cy))) (c : PySem.W.exmOne K (.ref Cx) (.ref Cy) = some m) :
    ∃ Cx Cy, PySem.W.nsIn K mainGlobals x = some (some (.ref Cx)) ∧ PySem.W.nsIn K mainGlobals y = some (some (.ref Cy)) ∧ PySem.W.exmOne K (.ref Cx) (.ref Cy) = some m := ⟨Cx, Cy, a, b, c⟩
theorem bt_mk {p : Str → Prop} (z0 : p "len") (z1 : p "abs") (z2 : p "int") (z3 : p "str") (z4 : p "sum") (z5 : p "max") (z6 : p "min") (z7 : p "all") (z8 : p "any") (z9 : p "list") (z10 : p "tuple") (z11 : p "bool") (z12 : p "dict") (z13 : p "isinstance") (z14 : p "range") (z15 : p "enumerate") (z16 : p "zip") (z17 : p "reversed") : ∀ x ∈ bNames, p x := by
  intro x hx
  simp only [bNames, List.mem_cons, List.not_mem_nil, or_false] at hx
  rcases hx with rfl | rfl | rfl | rfl | rfl | rfl | rfl | rfl | rfl | rfl | rfl | rfl | rfl | rfl | rfl | rfl | rfl | rfl <;> assumption
end DL

set_option Elab.async false
set_option linter.all false
set_option maxRecDepth 100000
set_option maxHeartbeats 4000000
/-! DL23: the end of a law whose base nobody watches (so that any int may be divided). -/
namespace DL
open PySem PySem.Spec PyProof.Rows L2
theorem seer_hid {h : Heap} {T : Hp} (n : ∀ b (o : Obj), h.get? b = some o → (∃ es ep, o.data = .dict es ep) → T b = none) (m : ∀ b (o : Obj), h.get? b = some o → o.cls = .type "module" → T b = none) (S : h.NoSeer) : (hidT h T).NoSeer := by
  have up : ∀ {b : Addr} {f : Str → Option Value}, h.Ns b f → (hidT h T).Ns b f := fun {b f} x => by
    obtain ⟨o, es, ep, e, d, r⟩ := x
    exact ⟨o, es, ep, hidT_get e (n b o e ⟨es, ep, d⟩), d, r⟩
  obtain ⟨⟨f1, s1, t1⟩, ⟨f2, s2, t2⟩, ⟨f3, s3, t3⟩, ⟨f4, bm, ob, s4, t4, t5, t6, t7⟩⟩ := S
  exact ⟨⟨f1, up s1, t1⟩, ⟨f2, up s2, t2⟩, ⟨f3, up s3, t3⟩, ⟨f4, bm, ob, up s4, t4, hidT_get t5 (m bm ob t5 t6), t6, t7⟩⟩
section
variable {P : Program} {w : World} {K : PySem.W.Frag} {mg mb : Str → Option Value} {cx : CXT} {k : Nat} {fa a : Addr} {fd : FuncData} {x : Str} {sp : Sp} {s₁ : Shared} {us : List Value} {ns : List Int}
/-- the call, over a heap in which at most the script is tracked -/
theorem call_hid {T : Hp} (kin : K.In s₁.heap) (hg : s₁.heap.Ns mainGlobals mg) (hb : s₁.heap.Ns builtinsNs mb) (hbb : ∀ x : Str, x ≠ "__name__" → mb x = bootBuiltins x) (lim : s₁.heap.NoLimit) (see : s₁.heap.NoSeer) (gen0 : s₁.gens = #[])
    (ea : s₁.heap.get? a = some { cls := .type "list", data := .seq us.toArray }) (room : Room k callerA) (F : ∀ base : Heap, K.In base → base.Ns mainGlobals mg → base.NoSeer → FnOk P w K mg base cx k fa fd [x] sp)
    (bind : ∀ (s : Shared) (u : Value), BindsTo s fd ⟨[u], []⟩ [(x, u)]) (noX : ∀ H e s', cx [] H s₁ (fun _ _ _ => False) e s' → False)
    (only : Only T) (hok : HOk P w T s₁.heap) (at_a : ∀ b, T b ≠ none → b = a) (ka : T a ≠ none → K.lookup a = none) (spT : sp [.ref a] T (fun v _ => v = .bl true) fun _ _ _ => False) :
    codeAny (model P w) callerA (.call (.ref fa) ⟨[.ref a], []⟩) (fun r s' => r = .ok (.ret (.bool true)) ∧ OldK s₁.heap s'.heap ∧ s'.os = s₁.os ∧ AllBare s'.gens) s₁ := by
  have free : ∀ b (o : Obj), s₁.heap.get? b = some o → o ≠ { cls := .type "list", data := .seq us.toArray } → T b = none := fun b o e d => by
    cases q : T b with
    | none => rfl
    | some u =>
      have z := at_a b (by rw [q]; exact fun z => by cases z)
      rw [z, ea] at e
      exact absurd (Option.some.inj e).symm d
  have dicts : ∀ b (o : Obj), s₁.heap.get? b = some o → (∃ es ep, o.data = .dict es ep) → T b = none := fun b o e ⟨es, ep, d⟩ => free b o e fun z => by rw [z] at d; cases d
  have mods : ∀ b (o : Obj), s₁.heap.get? b = some o → o.cls = .type "module" → T b = none := fun b o e d => free b o e fun z => by
    rw [z] at d
    exact absurd (show Value.type "list" = Value.type "module" from d) (by decide)
  have up : ∀ {b : Addr} {f : Str → Option Value}, s₁.heap.Ns b f → (hidT s₁.heap T).Ns b f := fun {b f} y => by
    obtain ⟨o, es, ep, e, d, r⟩ := y
    exact ⟨o, es, ep, hidT_get e (dicts b o e ⟨es, ep, d⟩), d, r⟩
  have kinT : K.In (hidT s₁.heap T) := fun b o e => by
    refine hidT_get (kin b o e) ?_
    cases q : T b with
    | none => rfl
    | some u =>
      have z := at_a b (by rw [q]; exact fun z => by cases z)
      subst z
      have := ka (by rw [q]; exact fun z => by cases z)
      rw [this] at e
      cases e
  have modT : Mod K mg (hidT s₁.heap T) := by
    obtain ⟨mc, l1, l2⟩ := lim
    exact ⟨kinT, up hg, ⟨mb, up hb, hbb⟩, ⟨mc, up l1, l2⟩⟩
  have start : Env0 P w K mg (hidT s₁.heap T) callerA [] s₁ T := ⟨rfl, modT, fun b o e => of_hidT e, Nat.le_of_eq (hidT_size _ _), trivial, fun b z => absurd (show b ∈ ([] : List Addr) from z) (by simp), hok, .of_eq gen0⟩
  have run := (F _ kinT (up hg) (seer_hid dicts mods see)).run callerA [] s₁ T ⟨[.ref a], []⟩ [.ref a] [.ref a] _ _ room start (bind s₁ (.ref a)) (.cons rfl .nil) spT
  refine codeAny_mono run fun r s' post => ?_
  rcases r with e | (_ | _ | _ | u)
  · exact (noX T e s' post).elim
  all_goals first | exact False.elim post | skip
  obtain ⟨v, T', os, bare, un, hok', rel, qv⟩ := post
  have ev : v = .bl true := qv
  subst ev
  have eu : u = Value.bool true := rel
  subst eu
  refine ⟨rfl, OldK.of_keep fun b o e => ?_, os, bare⟩
  cases q : T b with
  | none => exact un.keep b o e q (fun z => absurd (show b ∈ ([] : List Addr) from z) (by simp)) (by simp)
  | some u =>
    rcases only b with z | ⟨ob, ys, z⟩
    · rw [q] at z
      cases z
    · have z' := un.frzs b ob _ z
      have e1 := (hok b _ z).1
      have e2 := (hok' b _ z').1
      rw [e] at e1
      cases e1
      exact e2
/-- whether the script is one of the module's own objects or not -/
theorem law_callS (kin : K.In s₁.heap) (hg : s₁.heap.Ns mainGlobals mg) (hb : s₁.heap.Ns builtinsNs mb) (hbb : ∀ x : Str, x ≠ "__name__" → mb x = bootBuiltins x) (lim : s₁.heap.NoLimit) (see : s₁.heap.NoSeer) (gen0 : s₁.gens = #[])
    (ea : s₁.heap.get? a = some { cls := .type "list", data := .seq us.toArray }) (hi : IntsAre us ns) (hl : ns.length ≤ sizeLine) (room : Room k callerA) (F : ∀ base : Heap, K.In base → base.Ns mainGlobals mg → base.NoSeer → FnOk P w K mg base cx k fa fd [x] sp)
    (bind : ∀ (s : Shared) (u : Value), BindsTo s fd ⟨[u], []⟩ [(x, u)]) (noX : ∀ H e s', cx [] H s₁ (fun _ _ _ => False) e s' → False) (spT : ∀ T : Hp, Only T → SqL K T a (ns.map V.int) → sp [.ref a] T (fun v _ => v = .bl true) fun _ _ _ => False) :
    codeAny (model P w) callerA (.call (.ref fa) ⟨[.ref a], []⟩) (fun r s' => r = .ok (.ret (.bool true)) ∧ OldK s₁.heap s'.heap ∧ s'.os = s₁.os ∧ AllBare s'.gens) s₁ := by
  have rel := vals_ints hi
  have len := hi.length
  cases ek : K.lookup a with
  | some o =>
    have e := kin a o ek
    rw [ea] at e
    cases e
    have only : Only fun _ => none := fun _ => .inl rfl
    have sq : SqL K (fun _ => none) a (ns.map V.int) := .inr ⟨_, us.toArray, _, ek, rfl, rfl, rfl, by rw [List.size_toArray, len]; exact hl, by simpa using rel⟩
    exact call_hid kin hg hb hbb lim see gen0 ea room F bind noX only (fun b u z => by cases (show (none : Option HO) = some u from z)) (fun b z => absurd rfl z) (fun z => absurd rfl z) (spT _ only sq)
  | none =>
    let T : Hp := fun b => if b = a then some (.frz { cls := .type "list", data := .seq us.toArray } (.lst (ns.map V.int))) else none
    have Ta : T a = some (.frz { cls := .type "list", data := .seq us.toArray } (.lst (ns.map V.int))) := if_pos rfl
    have Tn : ∀ b, b ≠ a → T b = none := fun b z => if_neg z
    have only : Only T := fun b => by
      by_cases z : b = a
      · rw [z]; exact .inr ⟨_, _, Ta⟩
      · exact .inl (Tn b z)
    refine call_hid (T := T) kin hg hb hbb lim see gen0 ea room F bind noX only (fun b u z => ?_) (fun b z => ?_) (fun _ => ek) (spT T only (.inl (.inr ⟨_, Ta⟩)))
    · by_cases e : b = a
      · subst e
        rw [Ta] at z
        cases z
        exact ⟨ea, by rw [List.length_map]; exact hl, us, _, rel, ea⟩
      · rw [Tn b e] at z
        cases z
    · by_cases e : b = a
      · exact e
      · exact absurd (Tn b e) z
end
/-- the law, from its promise -/
theorem walk_ofS {l : PySem.W.OpenLaw} {n k : Nat} {q : Program} {loose : List Str} {XP : (Str → Option Value) → Heap → Prop} {YP : World → Heap → Prop} {d : DefRec} {K : Params → PySem.W.Frag} {cx : World → CXT} {sp : World → Sp} {x : Str}
    (hn : l.most = some n) (hn2 : n ≤ sizeLine) (hdf : d.params.defaults = []) (room : Room k callerA) (imp : importsNone q = true) (hY : ∀ (w : World) (h : Heap), YP w h → (K w.params).In h)
    (F : ∀ (w : World) (mg : Str → Option Value) (fa : Addr) (h : Heap), (K w.params).In h → h.Ns mainGlobals mg → mg d.name = some (.ref fa) → ∃ fd : FuncData, (∀ (s : Shared) (u : Value), BindsTo s fd ⟨[u], []⟩ [(x, u)]) ∧
      ∀ base : Heap, (K w.params).In base → base.Ns mainGlobals mg → base.NoSeer → FnOk l.prog w (K w.params) mg base (cx w) k fa fd [x] (sp w))
    (spT : ∀ (w : World) (T : Hp) (a : Addr) (ns : List Int), ns.length ≤ n → Only T → SqL (K w.params) T a (ns.map V.int) → sp w [.ref a] T (fun v _ => v = .bl true) fun _ _ _ => False)
    (noX : ∀ (w : World) (H : Hp) (s : Shared) (e : Value) (s' : Shared), cx w [] H s (fun _ _ _ => False) e s' → False) : PySem.W.WalkO q loose XP YP l.row.toRowW d [] (fun f vs => PySem.call f vs) := by
  refine Att.attach_call hn hdf fun w s₀ s₁ mg mb fa o pm cd doc a vs ns G Y ho hd hcd hmg hobj hints hlen hg => ?_
  obtain ⟨fd, bind, hF⟩ := F w mg fa _ (hY w _ Y) G.T.g hmg
  exact law_callS (hY w _ Y) G.T.g G.T.b G.T.builtins G.T.nolimit (G.T.seer imp) hg hobj hints (Nat.le_trans hlen hn2) room hF bind (fun H e s' => noX w H s₁ e s') fun T h1 h2 => spT w T a ns hlen h1 h2
end DL

set_option Elab.async false
set_option linter.all false
set_option maxRecDepth 100000
set_option maxHeartbeats 4000000
namespace DL.LW
open PySem PySem.Spec PyProof.Rows L2 DL
/-- is_integer: value; calls  -/
def m_is_integer : MSs := (.cons (.ret (.and (.cons (.isi (.var 0) .int) (.cons (.not (.isi (.var 0) .bool)) .nil)))) .nil)
/-- is_tuple_of: value many; calls  -/
def m_is_tuple_of : MSs := (.cons (.ret (.and (.cons (.isi (.var 0) .tuple) (.cons (.cmp .Eq (.bi .len (.cons (.var 0) .nil)) (.var 1)) .nil)))) .nil)
/-- is_decimal: word most digits sign; calls  -/
def m_is_decimal : MSs := (.cons (.asg (.name 2) (.ifx (.cmp .Eq (.slc (.var 0) .none (.some (.int 1))) (.str "-")) (.slc (.var 0) (.some (.int 1)) .none) (.var 0))) (.cons (.ifs (.or (.cons (.not (.chain .LtE .LtE (.int 1) (.bi .len (.cons (.var 2) .nil)) (.var 1))) (.cons (.not (.bi .all (.cons (.lc [("sign", 3)] (.name 3) (.seq (.var 2)) .none (.cmp .In (.var 3) (.glob "DIGITS"))) .nil))) .nil))) (.cons (.ret (.bl false)) .nil) .nil) (.cons (.ret (.or (.cons (.cmp .NotEq (.ix (.var 2) (.int 0)) (.str "0")) (.cons (.cmp .Eq (.var 0) (.str "0")) .nil)))) .nil)))
/-- is_fraction: value item; calls is_tuple_of is_integer -/
def m_is_fraction : MSs := (.cons (.ifs (.or (.cons (.not (.call "is_tuple_of" (.cons (.var 0) (.cons (.int 2) .nil)))) (.cons (.not (.bi .all (.cons (.lc [("item", 1)] (.name 1) (.seq (.var 0)) .none (.call "is_integer" (.cons (.var 1) .nil))) .nil))) .nil))) (.cons (.ret (.bl false)) .nil) .nil) (.cons (.ret (.and (.cons (.cmp .Gt (.ix (.var 0) (.int 1)) (.int 0)) (.cons (.cmp .Eq (.bi .gcd (.cons (.ix (.var 0) (.int 0)) (.cons (.ix (.var 0) (.int 1)) .nil))) (.int 1)) .nil)))) .nil))
/-- lowest: numerator denominator common; calls  -/
def m_lowest : MSs := (.cons (.asg (.name 2) (.bi .gcd (.cons (.var 0) (.cons (.var 1) .nil)))) (.cons (.ifs (.cmp .Lt (.var 1) (.int 0)) (.cons (.asg (.name 2) (.neg (.var 2))) .nil) .nil) (.cons (.ret (.tup (.cons (.bin .FloorDiv (.var 0) (.var 2)) (.cons (.bin .FloorDiv (.var 1) (.var 2)) .nil)))) .nil)))
/-- fraction: numerator denominator; calls is_integer lowest -/
def m_fraction : MSs := (.cons (.ifs (.not (.call "is_integer" (.cons (.var 0) .nil))) (.cons (.raise "InvalidNumber" (.cons (.var 0) .nil)) .nil) .nil) (.cons (.ifs (.or (.cons (.not (.call "is_integer" (.cons (.var 1) .nil))) (.cons (.cmp .Eq (.var 1) (.int 0)) .nil))) (.cons (.raise "InvalidNumber" (.cons (.var 1) .nil)) .nil) .nil) (.cons (.ret (.call "lowest" (.cons (.var 0) (.cons (.var 1) .nil)))) .nil)))
/-- whole: number; calls  -/
def m_whole : MSs := (.cons (.ret (.tup (.cons (.var 0) (.cons (.int 1) .nil)))) .nil)
/-- add: one other; calls lowest -/
def m_add : MSs := (.cons (.ret (.call "lowest" (.cons (.bin .Add (.bin .Mult (.ix (.var 0) (.int 0)) (.ix (.var 1) (.int 1))) (.bin .Mult (.ix (.var 1) (.int 0)) (.ix (.var 0) (.int 1)))) (.cons (.bin .Mult (.ix (.var 0) (.int 1)) (.ix (.var 1) (.int 1))) .nil)))) .nil)
/-- subtract: one other; calls lowest -/
def m_subtract : MSs := (.cons (.ret (.call "lowest" (.cons (.bin .Sub (.bin .Mult (.ix (.var 0) (.int 0)) (.ix (.var 1) (.int 1))) (.bin .Mult (.ix (.var 1) (.int 0)) (.ix (.var 0) (.int 1)))) (.cons (.bin .Mult (.ix (.var 0) (.int 1)) (.ix (.var 1) (.int 1))) .nil)))) .nil)
/-- multiply: one other; calls lowest -/
def m_multiply : MSs := (.cons (.ret (.call "lowest" (.cons (.bin .Mult (.ix (.var 0) (.int 0)) (.ix (.var 1) (.int 0))) (.cons (.bin .Mult (.ix (.var 0) (.int 1)) (.ix (.var 1) (.int 1))) .nil)))) .nil)
/-- divide: one other; calls lowest -/
def m_divide : MSs := (.cons (.ifs (.cmp .Eq (.ix (.var 1) (.int 0)) (.int 0)) (.cons (.raise "DividedByZero" .nil) .nil) .nil) (.cons (.ret (.call "lowest" (.cons (.bin .Mult (.ix (.var 0) (.int 0)) (.ix (.var 1) (.int 1))) (.cons (.bin .Mult (.ix (.var 0) (.int 1)) (.ix (.var 1) (.int 0))) .nil)))) .nil))
/-- compare: one other left right; calls  -/
def m_compare : MSs := (.cons (.par2 2 3 (.cons (.bin .Mult (.ix (.var 0) (.int 0)) (.ix (.var 1) (.int 1))) (.cons (.bin .Mult (.ix (.var 1) (.int 0)) (.ix (.var 0) (.int 1))) .nil))) (.cons (.ret (.bin .Sub (.bi .int (.cons (.cmp .Gt (.var 2) (.var 3)) .nil)) (.bi .int (.cons (.cmp .Lt (.var 2) (.var 3)) .nil)))) .nil))
/-- text_of_fraction: one; calls  -/
def m_text_of_fraction : MSs := (.cons (.ret (.ifx (.cmp .Eq (.ix (.var 0) (.int 1)) (.int 1)) (.bi .str (.cons (.ix (.var 0) (.int 0)) .nil)) (.fstr (.cons (.fmt (.ix (.var 0) (.int 0))) (.cons (.str "/") (.cons (.fmt (.ix (.var 0) (.int 1))) .nil)))))) .nil)
/-- fraction_in: text found above sign below; calls is_decimal whole is_fraction -/
def m_fraction_in : MSs := (.cons (.asg (.tup (.cons (.name 2) (.cons (.name 3) (.cons (.name 4) .nil)))) (.meth .partition (.var 0) (.cons (.str "/") .nil))) (.cons (.ifs (.not (.call "is_decimal" (.cons (.var 2) (.cons (.glob "MOST_DIGITS") .nil)))) (.cons (.ret .non) .nil) .nil) (.cons (.ifs (.cmp .Eq (.var 3) (.str "")) (.cons (.ret (.call "whole" (.cons (.bi .int (.cons (.var 2) .nil)) .nil))) .nil) .nil) (.cons (.ifs (.or (.cons (.not (.call "is_decimal" (.cons (.var 4) (.cons (.glob "MOST_DIGITS") .nil)))) (.cons (.cmp .Eq (.ix (.var 4) (.int 0)) (.str "-")) .nil))) (.cons (.ret .non) .nil) .nil) (.cons (.asg (.name 1) (.tup (.cons (.bi .int (.cons (.var 2) .nil)) (.cons (.bi .int (.cons (.var 4) .nil)) .nil)))) (.cons (.ret (.ifx (.and (.cons (.cmp .Gt (.ix (.var 1) (.int 1)) (.int 1)) (.cons (.call "is_fraction" (.cons (.var 1) .nil)) .nil))) (.var 1) .non)) .nil))))))
/-- read_fraction: text found; calls fraction_in -/
def m_read_fraction : MSs := (.cons (.asg (.name 1) (.ifx (.isi (.var 0) .str) (.call "fraction_in" (.cons (.var 0) .nil)) .non)) (.cons (.ifs (.cmp .Is (.var 1) .non) (.cons (.raise "InvalidText" (.cons (.var 0) .nil)) .nil) .nil) (.cons (.ret (.var 1)) .nil)))
/-- _law_cell: script k; calls  -/
def m_f_law_cell : MSs := (.cons (.ret (.ifx (.cmp .Lt (.var 1) (.bi .len (.cons (.var 0) .nil))) (.ix (.var 0) (.var 1)) (.bin .Add (.bin .Mult (.int 6007) (.var 1)) (.bin .Mod (.bi .int (.cons (.bi .sum (.cons (.slc (.var 0) .none (.some (.int 1))) .nil)) .nil)) (.int 1000033))))) .nil)
/-- _law_box: great; calls  -/
def m_f_law_box : MSs := (.cons (.ret (.lst (.cons (.bi .abs (.cons (.var 0) .nil)) (.cons (.cmp .GtE (.bi .abs (.cons (.var 0) .nil)) (.bin .Pow (.int 10) (.int 18))) (.cons (.bin .Mod (.bi .int (.cons (.bi .abs (.cons (.var 0) .nil)) .nil)) (.int 2147483629)) (.cons (.int 0) .nil)))))) .nil)
/-- _law_take: box many mixed digit; calls  -/
def m_f_law_take : MSs := (.cons (.ifs (.and (.cons (.ix (.var 0) (.int 1)) (.cons (.cmp .Gt (.ix (.var 0) (.int 0)) (.int 0)) .nil))) (.cons (.asg (.name 3) (.bin .Mod (.bi .int (.cons (.ix (.var 0) (.int 0)) .nil)) (.var 1))) (.cons (.asg (.sub (.var 0) (.int 0)) (.bin .FloorDiv (.ix (.var 0) (.int 0)) (.var 1))) (.cons (.ret (.var 3)) .nil))) .nil) (.cons (.asg (.sub (.var 0) (.int 3)) (.bin .Add (.ix (.var 0) (.int 3)) (.int 1))) (.cons (.asg (.name 2) (.bin .Mod (.bi .int (.cons (.bin .Pow (.bin .Add (.bin .Add (.ix (.var 0) (.int 2)) (.bin .Mult (.int 15485863) (.ix (.var 0) (.int 3)))) (.int 179424673)) (.int 5)) .nil)) (.int 2147483647))) (.cons (.ret (.bin .Mod (.bi .int (.cons (.bin .FloorDiv (.bin .Mod (.bi .int (.cons (.bin .Pow (.bin .Add (.bin .Mult (.var 2) (.int 48271)) (.bin .Mult (.int 104729) (.ix (.var 0) (.int 3)))) (.int 3)) .nil)) (.int 2147483587)) (.int 64)) .nil)) (.var 1))) .nil))))
/-- _law_same: told due k; calls _law_same -/
def m_f_law_same : MSs := (.cons (.ifs (.or (.cons (.cmp .Is (.var 1) .non) (.cons (.isi (.var 1) .bool) .nil))) (.cons (.ret (.ifx (.cmp .Is (.var 1) .non) (.cmp .Is (.var 0) .non) (.and (.cons (.isi (.var 0) .bool) (.cons (.cmp .Eq (.cmp .Is (.var 0) (.bl true)) (.cmp .Is (.var 1) (.bl true))) .nil))))) .nil) .nil) (.cons (.ifs (.isi (.var 1) .int) (.cons (.ret (.and (.cons (.isi (.var 0) .int) (.cons (.not (.isi (.var 0) .bool)) (.cons (.cmp .Eq (.bin .Sub (.bi .int (.cons (.var 0) .nil)) (.var 1)) (.int 0)) .nil))))) .nil) .nil) (.cons (.ifs (.isi (.var 1) .str) (.cons (.ret (.and (.cons (.isi (.var 0) .str) (.cons (.cmp .Eq (.bi .len (.cons (.var 0) .nil)) (.bi .len (.cons (.var 1) .nil))) (.cons (.cmp .Eq (.lc [("k", 2)] (.name 2) (.range (.cons (.bi .len (.cons (.var 1) .nil)) .nil)) (.some (.cmp .NotEq (.slc (.var 0) (.some (.var 2)) (.some (.bin .Add (.var 2) (.int 1)))) (.ix (.var 1) (.var 2)))) (.var 2)) (.lst .nil)) .nil))))) .nil) .nil) (.cons (.ifs (.or (.cons (.cmp .NotEq (.isi (.var 0) .list) (.isi (.var 1) .list)) (.cons (.cmp .NotEq (.isi (.var 0) .tuple) (.isi (.var 1) .tuple)) .nil))) (.cons (.ret (.bl false)) .nil) .nil) (.cons (.ret (.and (.cons (.cmp .Eq (.bi .len (.cons (.var 0) .nil)) (.bi .len (.cons (.var 1) .nil))) (.cons (.cmp .Eq (.lc [("k", 2)] (.name 2) (.range (.cons (.bi .len (.cons (.var 1) .nil)) .nil)) (.some (.not (.call "_law_same" (.cons (.ix (.var 0) (.var 2)) (.cons (.ix (.var 1) (.var 2)) .nil))))) (.var 2)) (.lst .nil)) .nil)))) .nil)))))
/-- _law_gcd: a b; calls  -/
def m_f_law_gcd : MSs := (.cons (.par2 0 1 (.cons (.bi .abs (.cons (.var 0) .nil)) (.cons (.bi .abs (.cons (.var 1) .nil)) .nil))) (.cons (.whl (.cmp .NotEq (.var 1) (.int 0)) (.cons (.par2 0 1 (.cons (.var 1) (.cons (.bin .Mod (.var 0) (.var 1)) .nil))) .nil)) (.cons (.ret (.var 0)) .nil)))
/-- _law_low: top bottom by; calls _law_gcd -/
def m_f_law_low : MSs := (.cons (.ifs (.cmp .Lt (.var 1) (.int 0)) (.cons (.par2 0 1 (.cons (.neg (.var 0)) (.cons (.neg (.var 1)) .nil))) .nil) .nil) (.cons (.asg (.name 2) (.call "_law_gcd" (.cons (.var 0) (.cons (.var 1) .nil)))) (.cons (.ret (.tup (.cons (.bin .FloorDiv (.var 0) (.var 2)) (.cons (.bin .FloorDiv (.var 1) (.var 2)) .nil)))) .nil)))
/-- _law_add: one other; calls _law_low -/
def m_f_law_add : MSs := (.cons (.ret (.call "_law_low" (.cons (.bin .Add (.bin .Mult (.ix (.var 0) (.int 0)) (.ix (.var 1) (.int 1))) (.bin .Mult (.ix (.var 1) (.int 0)) (.ix (.var 0) (.int 1)))) (.cons (.bin .Mult (.ix (.var 0) (.int 1)) (.ix (.var 1) (.int 1))) .nil)))) .nil)
/-- _law_less: one other; calls _law_low -/
def m_f_law_less : MSs := (.cons (.ret (.call "_law_low" (.cons (.bin .Sub (.bin .Mult (.ix (.var 0) (.int 0)) (.ix (.var 1) (.int 1))) (.bin .Mult (.ix (.var 1) (.int 0)) (.ix (.var 0) (.int 1)))) (.cons (.bin .Mult (.ix (.var 0) (.int 1)) (.ix (.var 1) (.int 1))) .nil)))) .nil)
/-- _law_mul: one other; calls _law_low -/
def m_f_law_mul : MSs := (.cons (.ret (.call "_law_low" (.cons (.bin .Mult (.ix (.var 0) (.int 0)) (.ix (.var 1) (.int 0))) (.cons (.bin .Mult (.ix (.var 0) (.int 1)) (.ix (.var 1) (.int 1))) .nil)))) .nil)
/-- _law_div: one other; calls _law_low -/
def m_f_law_div : MSs := (.cons (.ret (.call "_law_low" (.cons (.bin .Mult (.ix (.var 0) (.int 0)) (.ix (.var 1) (.int 1))) (.cons (.bin .Mult (.ix (.var 0) (.int 1)) (.ix (.var 1) (.int 0))) .nil)))) .nil)
/-- _law_very: told word value; calls _law_same -/
def m_f_law_very : MSs := (.cons (.ret (.and (.cons (.cmp .Eq (.ix (.var 0) (.int 0)) (.var 1)) (.cons (.ifx (.isi (.var 2) .dict) (.isi (.ix (.var 0) (.int 1)) .dict) (.call "_law_same" (.cons (.ix (.var 0) (.int 1)) (.cons (.var 2) .nil)))) .nil)))) .nil)
/-- _law_caught: box word one other by_name e; calls _law_take fraction add subtract multiply divide compare text_of_fraction read_fraction is_fraction -/
def m_f_law_caught : MSs := (.cons (.asg (.name 4) (.cmp .Eq (.call "_law_take" (.cons (.var 0) (.cons (.int 2) .nil))) (.int 1))) (.cons (.tryy (.cons (.ifs (.cmp .Eq (.var 1) (.str "make")) (.cons (.ret (.tup (.cons (.str "told") (.cons (.ifx (.var 4) (.callk "fraction" .nil ["denominator", "numerator"] (.cons (.var 3) (.cons (.var 2) .nil))) (.call "fraction" (.cons (.var 2) (.cons (.var 3) .nil)))) .nil)))) .nil) .nil) (.cons (.ifs (.cmp .Eq (.var 1) (.str "add")) (.cons (.ret (.tup (.cons (.str "told") (.cons (.ifx (.var 4) (.callk "add" .nil ["other", "one"] (.cons (.var 3) (.cons (.var 2) .nil))) (.call "add" (.cons (.var 2) (.cons (.var 3) .nil)))) .nil)))) .nil) .nil) (.cons (.ifs (.cmp .Eq (.var 1) (.str "subtract")) (.cons (.ret (.tup (.cons (.str "told") (.cons (.ifx (.var 4) (.callk "subtract" .nil ["other", "one"] (.cons (.var 3) (.cons (.var 2) .nil))) (.call "subtract" (.cons (.var 2) (.cons (.var 3) .nil)))) .nil)))) .nil) .nil) (.cons (.ifs (.cmp .Eq (.var 1) (.str "multiply")) (.cons (.ret (.tup (.cons (.str "told") (.cons (.ifx (.var 4) (.callk "multiply" .nil ["other", "one"] (.cons (.var 3) (.cons (.var 2) .nil))) (.call "multiply" (.cons (.var 2) (.cons (.var 3) .nil)))) .nil)))) .nil) .nil) (.cons (.ifs (.cmp .Eq (.var 1) (.str "divide")) (.cons (.ret (.tup (.cons (.str "told") (.cons (.ifx (.var 4) (.callk "divide" .nil ["other", "one"] (.cons (.var 3) (.cons (.var 2) .nil))) (.call "divide" (.cons (.var 2) (.cons (.var 3) .nil)))) .nil)))) .nil) .nil) (.cons (.ifs (.cmp .Eq (.var 1) (.str "compare")) (.cons (.ret (.tup (.cons (.str "told") (.cons (.ifx (.var 4) (.callk "compare" .nil ["other", "one"] (.cons (.var 3) (.cons (.var 2) .nil))) (.call "compare" (.cons (.var 2) (.cons (.var 3) .nil)))) .nil)))) .nil) .nil) (.cons (.ifs (.cmp .Eq (.var 1) (.str "text")) (.cons (.ret (.tup (.cons (.str "told") (.cons (.ifx (.var 4) (.callk "text_of_fraction" .nil ["one"] (.cons (.var 2) .nil)) (.call "text_of_fraction" (.cons (.var 2) .nil))) .nil)))) .nil) .nil) (.cons (.ifs (.cmp .Eq (.var 1) (.str "read")) (.cons (.ret (.tup (.cons (.str "told") (.cons (.ifx (.var 4) (.callk "read_fraction" .nil ["text"] (.cons (.var 2) .nil)) (.call "read_fraction" (.cons (.var 2) .nil))) .nil)))) .nil) .nil) (.cons (.ret (.tup (.cons (.str "told") (.cons (.ifx (.var 4) (.callk "is_fraction" .nil ["value"] (.cons (.var 2) .nil)) (.call "is_fraction" (.cons (.var 2) .nil))) .nil)))) .nil))))))))) [⟨"InvalidNumber", some 5, (.tup (.cons (.str "number") (.cons (.exf 5 "given") .nil)))⟩, ⟨"InvalidText", some 5, (.tup (.cons (.str "text") (.cons (.exf 5 "given") .nil)))⟩, ⟨"DividedByZero", none, (.tup (.cons (.str "zero") (.cons .non .nil)))⟩]) .nil))
/-- _law_pair: box wide top; calls _law_take _law_low -/
def m_f_law_pair : MSs := (.cons (.asg (.name 1) (.ix (.lst (.cons (.int 4) (.cons (.int 10) (.cons (.int 100) (.cons (.bin .Pow (.int 10) (.int 6)) (.cons (.bin .Pow (.int 10) (.int 25)) .nil)))))) (.call "_law_take" (.cons (.var 0) (.cons (.int 5) .nil))))) (.cons (.asg (.name 2) (.bin .Mult (.bin .Mult (.call "_law_take" (.cons (.var 0) (.cons (.var 1) .nil))) (.bin .Sub (.int 1) (.bin .Mult (.int 2) (.call "_law_take" (.cons (.var 0) (.cons (.int 2) .nil)))))) (.bi .int (.cons (.cmp .NotEq (.call "_law_take" (.cons (.var 0) (.cons (.int 8) .nil))) (.int 0)) .nil)))) (.cons (.ret (.call "_law_low" (.cons (.var 2) (.cons (.bin .Add (.int 1) (.call "_law_take" (.cons (.var 0) (.cons (.ix (.lst (.cons (.int 1) (.cons (.var 1) .nil))) (.bi .int (.cons (.cmp .Gt (.call "_law_take" (.cons (.var 0) (.cons (.int 4) .nil))) (.int 0)) .nil))) .nil)))) .nil)))) .nil)))
/-- _law_digits: number left found; calls  -/
def m_f_law_digits : MSs := (.cons (.par2 1 2 (.cons (.bi .abs (.cons (.var 0) .nil)) (.cons (.str "") .nil))) (.cons (.whl (.cmp .Gt (.var 1) (.int 0)) (.cons (.par2 2 1 (.cons (.bin .Add (.ix (.str "0123456789") (.bin .Mod (.var 1) (.int 10))) (.var 2)) (.cons (.bin .FloorDiv (.var 1) (.int 10)) .nil))) .nil)) (.cons (.ret (.bin .Add (.ifx (.cmp .Lt (.var 0) (.int 0)) (.str "-") (.str "")) (.ifx (.cmp .NotEq (.var 2) (.str "")) (.var 2) (.str "0")))) .nil)))
/-- _law_text: one; calls _law_digits -/
def m_f_law_text : MSs := (.cons (.ret (.bin .Add (.call "_law_digits" (.cons (.ix (.var 0) (.int 0)) .nil)) (.ifx (.cmp .Eq (.ix (.var 0) (.int 1)) (.int 1)) (.str "") (.bin .Add (.str "/") (.call "_law_digits" (.cons (.ix (.var 0) (.int 1)) .nil)))))) .nil)
/-- _law_pairs_right: box one other cross dues due word; calls _law_add _law_less _law_mul _law_same _law_caught _law_div -/
def m_f_law_pairs_right : MSs := (.cons (.asg (.name 3) (.lst (.cons (.bin .Mult (.ix (.var 1) (.int 0)) (.ix (.var 2) (.int 1))) (.cons (.bin .Mult (.ix (.var 2) (.int 0)) (.ix (.var 1) (.int 1))) .nil)))) (.cons (.asg (.name 4) (.lst (.cons (.tup (.cons (.str "add") (.cons (.call "_law_add" (.cons (.var 1) (.cons (.var 2) .nil))) .nil))) (.cons (.tup (.cons (.str "subtract") (.cons (.call "_law_less" (.cons (.var 1) (.cons (.var 2) .nil))) .nil))) (.cons (.tup (.cons (.str "multiply") (.cons (.call "_law_mul" (.cons (.var 1) (.cons (.var 2) .nil))) .nil))) .nil))))) (.cons (.expr (.meth .append (.var 4) (.cons (.tup (.cons (.str "compare") (.cons (.bin .Sub (.bi .int (.cons (.cmp .Gt (.ix (.var 3) (.int 0)) (.ix (.var 3) (.int 1))) .nil)) (.bi .int (.cons (.cmp .Lt (.ix (.var 3) (.int 0)) (.ix (.var 3) (.int 1))) .nil))) .nil))) .nil))) (.cons (.forr (.tup (.cons (.name 6) (.cons (.name 5) .nil))) (.seq (.var 4)) (.cons (.ifs (.not (.call "_law_same" (.cons (.call "_law_caught" (.cons (.var 0) (.cons (.var 6) (.cons (.var 1) (.cons (.var 2) .nil))))) (.cons (.tup (.cons (.str "told") (.cons (.var 5) .nil))) .nil)))) (.cons (.ret (.bl false)) .nil) .nil) .nil)) (.cons (.asg (.name 5) (.ifx (.cmp .Eq (.ix (.var 2) (.int 0)) (.int 0)) (.tup (.cons (.str "zero") (.cons .non .nil))) (.tup (.cons (.str "told") (.cons (.call "_law_div" (.cons (.var 1) (.cons (.var 2) .nil))) .nil))))) (.cons (.ret (.call "_law_same" (.cons (.call "_law_caught" (.cons (.var 0) (.cons (.str "divide") (.cons (.var 1) (.cons (.var 2) .nil))))) (.cons (.var 5) .nil)))) .nil))))))
/-- _law_texts_right: box one text double bad value handed item; calls _law_text _law_same _law_caught _law_digits _law_very -/
def m_f_law_texts_right : MSs := (.cons (.asg (.name 2) (.call "_law_text" (.cons (.var 1) .nil))) (.cons (.ifs (.or (.cons (.not (.call "_law_same" (.cons (.call "_law_caught" (.cons (.var 0) (.cons (.str "text") (.cons (.var 1) (.cons .non .nil))))) (.cons (.tup (.cons (.str "told") (.cons (.var 2) .nil))) .nil)))) (.cons (.not (.call "_law_same" (.cons (.call "_law_caught" (.cons (.var 0) (.cons (.str "read") (.cons (.var 2) (.cons .non .nil))))) (.cons (.tup (.cons (.str "told") (.cons (.var 1) .nil))) .nil)))) .nil))) (.cons (.ret (.bl false)) .nil) .nil) (.cons (.asg (.name 3) (.bin .Add (.bin .Add (.call "_law_digits" (.cons (.bin .Mult (.int 2) (.ix (.var 1) (.int 0))) .nil)) (.str "/")) (.call "_law_digits" (.cons (.bin .Mult (.int 2) (.ix (.var 1) (.int 1))) .nil)))) (.cons (.asg (.name 4) (.lst (.cons (.str "") (.cons (.bin .Add (.str " ") (.var 2)) (.cons (.bin .Add (.var 2) (.str " ")) (.cons (.bin .Add (.str "+") (.var 2)) (.cons (.bin .Add (.str "0") (.var 2)) (.cons (.bin .Add (.var 2) (.str "/1")) (.cons (.bin .Add (.var 2) (.str "/")) (.cons (.bin .Add (.str "/") (.var 2)) (.cons (.var 3) (.cons (.bin .Add (.var 2) (.str "/0")) (.cons (.bin .Add (.str "--") (.var 2)) (.cons (.str "-0") (.cons (.str "1/-2") (.cons (.str "00") .nil)))))))))))))))) (.cons (.asg (.name 4) (.bin .Add (.var 4) (.lst (.cons (.str "1.5") (.cons (.str "1/02") (.cons (.str "x") (.cons (.str "3//4") (.cons (.str "-") (.cons (.str "1 /2") (.cons (.str "2/4") (.cons (.str "0/3") (.cons (.str "1/2/3") (.cons .non (.cons (.int 0) (.cons (.int 1) (.cons (.tup (.cons (.str "1") .nil)) (.cons (.lst (.cons (.var 2) .nil)) (.cons .dct0 (.cons (.bl true) .nil))))))))))))))))))) (.cons (.forr (.name 5) (.seq (.var 4)) (.cons (.asg (.name 6) (.ifx (.isi (.var 5) .list) (.lc [("item", 7)] (.name 7) (.seq (.var 5)) .none (.var 7)) (.var 5))) (.cons (.ifs (.not (.call "_law_very" (.cons (.call "_law_caught" (.cons (.var 0) (.cons (.str "read") (.cons (.var 6) (.cons .non .nil))))) (.cons (.str "text") (.cons (.var 5) .nil))))) (.cons (.ret (.bl false)) .nil) .nil) .nil))) (.cons (.ret (.bl true)) .nil)))))))
/-- _law_values_right: box one bad top bottom value; calls _law_same _law_caught -/
def m_f_law_values_right : MSs := (.cons (.ifs (.not (.call "_law_same" (.cons (.call "_law_caught" (.cons (.var 0) (.cons (.str "is") (.cons (.var 1) (.cons .non .nil))))) (.cons (.tup (.cons (.str "told") (.cons (.bl true) .nil))) .nil)))) (.cons (.ret (.bl false)) .nil) .nil) (.cons (.asg (.tup (.cons (.name 3) (.cons (.name 4) .nil))) (.var 1)) (.cons (.asg (.name 2) (.lst (.cons .non (.cons (.var 3) (.cons (.str "1") (.cons (.tup .nil) (.cons (.tup (.cons (.var 3) .nil)) (.cons (.lst (.cons (.var 3) (.cons (.var 4) .nil))) (.cons (.tup (.cons (.bin .Mult (.int 2) (.var 3)) (.cons (.bin .Mult (.int 2) (.var 4)) .nil))) (.cons (.tup (.cons (.var 3) (.cons (.neg (.var 4)) .nil))) (.cons (.tup (.cons (.var 3) (.cons (.int 0) .nil))) (.cons (.tup (.cons (.bl true) (.cons (.int 1) .nil))) (.cons (.tup (.cons (.int 1) (.cons (.bl true) .nil))) (.cons (.tup (.cons (.var 3) (.cons (.var 4) (.cons (.int 1) .nil)))) (.cons (.tup (.cons (.str "1") (.cons (.int 2) .nil))) .nil))))))))))))))) (.cons (.asg (.name 2) (.bin .Add (.var 2) (.lst (.cons (.tup (.cons (.int 1) (.cons .non .nil))) (.cons (.tup (.cons (.int 0) (.cons (.int 2) .nil))) (.cons (.tup (.cons (.int 2) (.cons (.int 4) .nil))) (.cons .dct0 (.cons (.tup (.cons (.tup (.cons (.int 1) (.cons (.int 1) .nil))) (.cons (.int 1) .nil))) (.cons (.tup (.cons (.neg (.int 3)) (.cons (.neg (.int 1)) .nil))) .nil))))))))) (.cons (.ret (.cmp .Eq (.lc [("value", 5)] (.name 5) (.seq (.var 2)) (.some (.not (.call "_law_same" (.cons (.call "_law_caught" (.cons (.var 0) (.cons (.str "is") (.cons (.var 5) (.cons .non .nil))))) (.cons (.tup (.cons (.str "told") (.cons (.bl false) .nil))) .nil))))) (.var 5)) (.lst .nil))) .nil)))))
/-- _law_made_right: box turn bad wide a b by one other; calls _law_take _law_same _law_caught _law_low _law_very -/
def m_f_law_made_right : MSs := (.cons (.forr (.name 1) (.range (.cons (.int 4) .nil)) (.cons (.asg (.name 3) (.ix (.lst (.cons (.int 5) (.cons (.int 13) (.cons (.int 1000) (.cons (.bin .Pow (.int 10) (.int 20)) .nil))))) (.call "_law_take" (.cons (.var 0) (.cons (.int 4) .nil))))) (.cons (.par3 4 5 6 (.cons (.bin .Sub (.call "_law_take" (.cons (.var 0) (.cons (.bin .Add (.bin .Mult (.int 2) (.var 3)) (.int 1)) .nil))) (.var 3)) (.cons (.bin .Sub (.call "_law_take" (.cons (.var 0) (.cons (.bin .Add (.bin .Mult (.int 2) (.var 3)) (.int 1)) .nil))) (.var 3)) (.cons (.bin .Add (.int 1) (.call "_law_take" (.cons (.var 0) (.cons (.int 6) .nil)))) .nil)))) (.cons (.ifs (.and (.cons (.cmp .NotEq (.var 5) (.int 0)) (.cons (.not (.call "_law_same" (.cons (.call "_law_caught" (.cons (.var 0) (.cons (.str "make") (.cons (.bin .Mult (.var 4) (.var 6)) (.cons (.bin .Mult (.var 5) (.var 6)) .nil))))) (.cons (.tup (.cons (.str "told") (.cons (.call "_law_low" (.cons (.var 4) (.cons (.var 5) .nil))) .nil))) .nil)))) .nil))) (.cons (.ret (.bl false)) .nil) .nil) (.cons (.ifs (.not (.call "_law_very" (.cons (.call "_law_caught" (.cons (.var 0) (.cons (.str "make") (.cons (.var 4) (.cons (.int 0) .nil))))) (.cons (.str "number") (.cons (.int 0) .nil))))) (.cons (.ret (.bl false)) .nil) .nil) .nil))))) (.cons (.forr (.name 2) (.seq (.lst (.cons .non (.cons (.bl true) (.cons (.bl false) (.cons (.str "1") (.cons (.tup (.cons (.int 1) (.cons (.int 1) .nil))) (.cons (.lst (.cons (.int 1) .nil)) (.cons .dct0 (.cons (.tup (.cons (.int 1) .nil)) .nil)))))))))) (.cons (.forr (.tup (.cons (.name 7) (.cons (.name 8) .nil))) (.seq (.lst (.cons (.tup (.cons (.var 2) (.cons .non .nil))) (.cons (.tup (.cons (.var 2) (.cons (.int 1) .nil))) (.cons (.tup (.cons (.var 2) (.cons (.int 0) .nil))) (.cons (.tup (.cons (.int 3) (.cons (.var 2) .nil))) .nil)))))) (.cons (.ifs (.not (.call "_law_very" (.cons (.call "_law_caught" (.cons (.var 0) (.cons (.str "make") (.cons (.var 7) (.cons (.var 8) .nil))))) (.cons (.str "number") (.cons (.var 2) .nil))))) (.cons (.ret (.bl false)) .nil) .nil) .nil)) .nil)) (.cons (.ret (.bl true)) .nil)))
/-- law: script k box one other first second; calls _law_box _law_cell _law_pair _law_pairs_right _law_texts_right _law_values_right _law_made_right -/
def m_law : MSs := (.cons (.forr (.name 1) (.range (.cons (.bi .max (.cons (.int 3) (.cons (.bi .min (.cons (.int 6) (.cons (.bi .len (.cons (.var 0) .nil)) .nil))) .nil))) .nil)) (.cons (.asg (.name 2) (.call "_law_box" (.cons (.call "_law_cell" (.cons (.var 0) (.cons (.var 1) .nil))) .nil))) (.cons (.par2 3 4 (.cons (.call "_law_pair" (.cons (.var 2) .nil)) (.cons (.call "_law_pair" (.cons (.var 2) .nil)) .nil))) (.cons (.forr (.tup (.cons (.name 5) (.cons (.name 6) .nil))) (.seq (.lst (.cons (.tup (.cons (.var 3) (.cons (.var 4) .nil))) (.cons (.tup (.cons (.var 4) (.cons (.var 3) .nil))) (.cons (.tup (.cons (.var 3) (.cons (.var 3) .nil))) (.cons (.tup (.cons (.var 3) (.cons (.tup (.cons (.int 0) (.cons (.int 1) .nil))) .nil))) (.cons (.tup (.cons (.tup (.cons (.int 0) (.cons (.int 1) .nil))) (.cons (.var 4) .nil))) .nil))))))) (.cons (.ifs (.not (.call "_law_pairs_right" (.cons (.var 2) (.cons (.var 5) (.cons (.var 6) .nil))))) (.cons (.ret (.bl false)) .nil) .nil) .nil)) (.cons (.ifs (.or (.cons (.not (.call "_law_texts_right" (.cons (.var 2) (.cons (.var 3) .nil)))) (.cons (.not (.call "_law_values_right" (.cons (.var 2) (.cons (.var 3) .nil)))) (.cons (.not (.call "_law_values_right" (.cons (.var 2) (.cons (.var 4) .nil)))) (.cons (.not (.call "_law_made_right" (.cons (.var 2) .nil))) .nil))))) (.cons (.ret (.bl false)) .nil) .nil) .nil))))) (.cons (.ret (.bl true)) .nil))
end DL.LW

set_option Elab.async false
set_option linter.all false
set_option maxRecDepth 100000
set_option maxHeartbeats 4000000
namespace DL.LW
open PySem PySem.Spec PyProof.Rows L2 DL
/-- is_integer_polynomial: value item; calls is_integer -/
def m_is_integer_polynomial : MSs := (.cons (.ifs (.or (.cons (.not (.isi (.var 0) .tuple)) (.cons (.not (.bi .all (.cons (.lc [("item", 1)] (.name 1) (.seq (.var 0)) .none (.call "is_integer" (.cons (.var 1) .nil))) .nil))) .nil))) (.cons (.ret (.bl false)) .nil) .nil) (.cons (.ret (.or (.cons (.cmp .Eq (.var 0) (.tup .nil)) (.cons (.cmp .NotEq (.ix (.var 0) (.neg (.int 1))) (.int 0)) .nil)))) .nil))
/-- check_polynomial: value; calls is_integer_polynomial -/
def m_check_polynomial : MSs := (.cons (.ifs (.not (.call "is_integer_polynomial" (.cons (.var 0) .nil))) (.cons (.raise "InvalidPolynomial" (.cons (.var 0) .nil)) .nil) .nil) .nil)
/-- check_number: value least most; calls is_integer -/
def m_check_number : MSs := (.cons (.ifs (.not (.call "is_integer" (.cons (.var 0) .nil))) (.cons (.raise "InvalidNumber" (.cons (.var 0) .nil)) .nil) .nil) (.cons (.ifs (.or (.cons (.and (.cons (.cmp .IsNot (.var 1) .non) (.cons (.cmp .Lt (.var 0) (.var 1)) .nil))) (.cons (.and (.cons (.cmp .IsNot (.var 2) .non) (.cons (.cmp .Gt (.var 0) (.var 2)) .nil))) .nil))) (.cons (.raise "InvalidNumber" (.cons (.var 0) .nil)) .nil) .nil) .nil))
/-- check_degree: number; calls  -/
def m_check_degree : MSs := (.cons (.ifs (.cmp .Gt (.var 0) (.glob "MOST_DEGREE")) (.cons (.raise "TooMany" (.cons (.var 0) .nil)) .nil) .nil) .nil)
/-- trimmed: items many; calls  -/
def m_trimmed : MSs := (.cons (.asg (.name 1) (.bi .len (.cons (.var 0) .nil))) (.cons (.whl (.and (.cons (.cmp .Gt (.var 1) (.int 0)) (.cons (.cmp .Eq (.ix (.var 0) (.bin .Sub (.var 1) (.int 1))) (.int 0)) .nil))) (.cons (.aug 1 .Sub (.int 1)) .nil)) (.cons (.ret (.bi .tuple (.cons (.slc (.var 0) .none (.some (.var 1))) .nil))) .nil)))
/-- item_at: one place; calls  -/
def m_item_at : MSs := (.cons (.ret (.ifx (.cmp .Lt (.var 1) (.bi .len (.cons (.var 0) .nil))) (.ix (.var 0) (.var 1)) (.int 0))) .nil)
/-- sum_of: one other factor many place; calls trimmed item_at -/
def m_sum_of : MSs := (.cons (.asg (.name 3) (.bi .max (.cons (.bi .len (.cons (.var 0) .nil)) (.cons (.bi .len (.cons (.var 1) .nil)) .nil)))) (.cons (.ret (.call "trimmed" (.cons (.lc [("place", 4)] (.name 4) (.range (.cons (.var 3) .nil)) .none (.bin .Add (.call "item_at" (.cons (.var 0) (.cons (.var 4) .nil))) (.bin .Mult (.var 2) (.call "item_at" (.cons (.var 1) (.cons (.var 4) .nil)))))) .nil))) .nil))
/-- multiple_of: one number item; calls trimmed -/
def m_multiple_of : MSs := (.cons (.ret (.call "trimmed" (.cons (.lc [("item", 2)] (.name 2) (.seq (.var 0)) .none (.bin .Mult (.var 1) (.var 2))) .nil))) .nil)
/-- product_of: one other found place item more factor; calls trimmed -/
def m_product_of : MSs := (.cons (.asg (.name 2) (.bin .Mult (.lst (.cons (.int 0) .nil)) (.bi .max (.cons (.int 0) (.cons (.bin .Sub (.bin .Add (.bi .len (.cons (.var 0) .nil)) (.bi .len (.cons (.var 1) .nil))) (.int 1)) .nil))))) (.cons (.forr (.tup (.cons (.name 3) (.cons (.name 4) .nil))) (.enum (.var 0)) (.cons (.forr (.tup (.cons (.name 5) (.cons (.name 6) .nil))) (.enum (.var 1)) (.cons (.augS (.var 2) (.bin .Add (.var 3) (.var 5)) .Add (.bin .Mult (.var 4) (.var 6))) .nil)) .nil)) (.cons (.ret (.call "trimmed" (.cons (.var 2) .nil))) .nil)))
/-- product_of_all: polynomials found one; calls product_of -/
def m_product_of_all : MSs := (.cons (.asg (.name 1) (.tup (.cons (.int 1) .nil))) (.cons (.forr (.name 2) (.seq (.var 0)) (.cons (.asg (.name 1) (.call "product_of" (.cons (.var 1) (.cons (.var 2) .nil)))) .nil)) (.cons (.ret (.var 1)) .nil)))
/-- power_of: one number; calls product_of_all -/
def m_power_of : MSs := (.cons (.ret (.call "product_of_all" (.cons (.bin .Mult (.lst (.cons (.var 0) .nil)) (.var 1)) .nil))) .nil)
/-- degree_of: one; calls  -/
def m_degree_of : MSs := (.cons (.ret (.bin .Sub (.bi .len (.cons (.var 0) .nil)) (.int 1))) .nil)
/-- value_of: one number found item; calls  -/
def m_value_of : MSs := (.cons (.asg (.name 2) (.int 0)) (.cons (.forr (.name 3) (.seq (.revl (.var 0))) (.cons (.asg (.name 2) (.bin .Add (.bin .Mult (.var 2) (.var 1)) (.var 3))) .nil)) (.cons (.ret (.var 2)) .nil)))
/-- derivative_of: one place item; calls trimmed -/
def m_derivative_of : MSs := (.cons (.ret (.call "trimmed" (.cons (.slc (.lc [("place", 1), ("item", 2)] (.tup (.cons (.name 1) (.cons (.name 2) .nil))) (.enum (.var 0)) .none (.bin .Mult (.var 1) (.var 2))) (.some (.int 1)) .none) .nil))) .nil)
/-- composition_of: one other found item; calls sum_of product_of trimmed -/
def m_composition_of : MSs := (.cons (.asg (.name 2) (.tup .nil)) (.cons (.forr (.name 3) (.seq (.revl (.var 0))) (.cons (.asg (.name 2) (.callk "sum_of" (.cons (.call "product_of" (.cons (.var 2) (.cons (.var 1) .nil))) (.cons (.call "trimmed" (.cons (.lst (.cons (.var 3) .nil)) .nil)) .nil)) [] .nil)) .nil)) (.cons (.ret (.var 2)) .nil)))
/-- content_of: one found item; calls  -/
def m_content_of : MSs := (.cons (.asg (.name 1) (.int 0)) (.cons (.forr (.name 2) (.seq (.var 0)) (.cons (.asg (.name 1) (.bi .gcd (.cons (.var 1) (.cons (.var 2) .nil)))) .nil)) (.cons (.ret (.var 1)) .nil)))
/-- primitive_of: one factor item; calls content_of -/
def m_primitive_of : MSs := (.cons (.ifs (.cmp .Eq (.var 0) (.tup .nil)) (.cons (.ret (.tup .nil)) .nil) .nil) (.cons (.asg (.name 1) (.ifx (.cmp .Gt (.ix (.var 0) (.neg (.int 1))) (.int 0)) (.call "content_of" (.cons (.var 0) .nil)) (.neg (.call "content_of" (.cons (.var 0) .nil))))) (.cons (.ret (.bi .tuple (.cons (.lc [("item", 2)] (.name 2) (.seq (.var 0)) .none (.bin .FloorDiv (.var 2) (.var 1))) .nil))) .nil)))
/-- degree: one; calls check_polynomial degree_of -/
def m_degree : MSs := (.cons (.expr (.call "check_polynomial" (.cons (.var 0) .nil))) (.cons (.ret (.call "degree_of" (.cons (.var 0) .nil))) .nil))
/-- plus: one other; calls check_polynomial sum_of -/
def m_plus : MSs := (.cons (.expr (.call "check_polynomial" (.cons (.var 0) .nil))) (.cons (.expr (.call "check_polynomial" (.cons (.var 1) .nil))) (.cons (.ret (.callk "sum_of" (.cons (.var 0) (.cons (.var 1) .nil)) [] .nil)) .nil)))
/-- minus: one other; calls check_polynomial sum_of -/
def m_minus : MSs := (.cons (.expr (.call "check_polynomial" (.cons (.var 0) .nil))) (.cons (.expr (.call "check_polynomial" (.cons (.var 1) .nil))) (.cons (.ret (.call "sum_of" (.cons (.var 0) (.cons (.var 1) (.cons (.neg (.int 1)) .nil))))) .nil)))
/-- times: one other; calls check_polynomial check_degree degree_of product_of -/
def m_times : MSs := (.cons (.expr (.call "check_polynomial" (.cons (.var 0) .nil))) (.cons (.expr (.call "check_polynomial" (.cons (.var 1) .nil))) (.cons (.expr (.call "check_degree" (.cons (.bin .Add (.call "degree_of" (.cons (.var 0) .nil)) (.call "degree_of" (.cons (.var 1) .nil))) .nil))) (.cons (.ret (.call "product_of" (.cons (.var 0) (.cons (.var 1) .nil)))) .nil))))
/-- scaled: one number; calls check_polynomial check_number multiple_of -/
def m_scaled : MSs := (.cons (.expr (.call "check_polynomial" (.cons (.var 0) .nil))) (.cons (.expr (.callk "check_number" (.cons (.var 1) .nil) [] .nil)) (.cons (.ret (.call "multiple_of" (.cons (.var 0) (.cons (.var 1) .nil)))) .nil)))
/-- to_power: one number; calls check_polynomial check_number check_degree degree_of power_of -/
def m_to_power : MSs := (.cons (.expr (.call "check_polynomial" (.cons (.var 0) .nil))) (.cons (.expr (.call "check_number" (.cons (.var 1) (.cons (.int 0) (.cons (.glob "MOST_POWER") .nil))))) (.cons (.expr (.call "check_degree" (.cons (.bin .Mult (.call "degree_of" (.cons (.var 0) .nil)) (.var 1)) .nil))) (.cons (.ret (.call "power_of" (.cons (.var 0) (.cons (.var 1) .nil)))) .nil))))
/-- value_at: one number; calls check_polynomial check_number value_of -/
def m_value_at : MSs := (.cons (.expr (.call "check_polynomial" (.cons (.var 0) .nil))) (.cons (.expr (.callk "check_number" (.cons (.var 1) .nil) [] .nil)) (.cons (.ret (.call "value_of" (.cons (.var 0) (.cons (.var 1) .nil)))) .nil)))
/-- derived: one; calls check_polynomial derivative_of -/
def m_derived : MSs := (.cons (.expr (.call "check_polynomial" (.cons (.var 0) .nil))) (.cons (.ret (.call "derivative_of" (.cons (.var 0) .nil))) .nil))
/-- composed: one other; calls check_polynomial degree_of check_degree composition_of -/
def m_composed : MSs := (.cons (.expr (.call "check_polynomial" (.cons (.var 0) .nil))) (.cons (.expr (.call "check_polynomial" (.cons (.var 1) .nil))) (.cons (.ifs (.and (.cons (.cmp .Gt (.call "degree_of" (.cons (.var 0) .nil)) (.int 0)) (.cons (.cmp .Gt (.call "degree_of" (.cons (.var 1) .nil)) (.int 0)) .nil))) (.cons (.expr (.call "check_degree" (.cons (.bin .Mult (.call "degree_of" (.cons (.var 0) .nil)) (.call "degree_of" (.cons (.var 1) .nil))) .nil))) .nil) .nil) (.cons (.ret (.call "composition_of" (.cons (.var 0) (.cons (.var 1) .nil)))) .nil))))
/-- shifted: one number; calls check_polynomial check_number composition_of -/
def m_shifted : MSs := (.cons (.expr (.call "check_polynomial" (.cons (.var 0) .nil))) (.cons (.expr (.callk "check_number" (.cons (.var 1) .nil) [] .nil)) (.cons (.ret (.call "composition_of" (.cons (.var 0) (.cons (.tup (.cons (.var 1) (.cons (.int 1) .nil))) .nil)))) .nil)))
/-- mirrored: one place item; calls check_polynomial -/
def m_mirrored : MSs := (.cons (.expr (.call "check_polynomial" (.cons (.var 0) .nil))) (.cons (.ret (.bi .tuple (.cons (.lc [("place", 1), ("item", 2)] (.tup (.cons (.name 1) (.cons (.name 2) .nil))) (.enum (.var 0)) .none (.ifx (.cmp .Eq (.bin .Mod (.var 1) (.int 2)) (.int 1)) (.neg (.var 2)) (.var 2))) .nil))) .nil))
/-- turned: one; calls check_polynomial trimmed -/
def m_turned : MSs := (.cons (.expr (.call "check_polynomial" (.cons (.var 0) .nil))) (.cons (.ret (.call "trimmed" (.cons (.revl (.var 0)) .nil))) .nil))
/-- content: one; calls check_polynomial content_of -/
def m_content : MSs := (.cons (.expr (.call "check_polynomial" (.cons (.var 0) .nil))) (.cons (.ret (.call "content_of" (.cons (.var 0) .nil))) .nil))
/-- primitive: one; calls check_polynomial primitive_of -/
def m_primitive : MSs := (.cons (.expr (.call "check_polynomial" (.cons (.var 0) .nil))) (.cons (.ret (.call "primitive_of" (.cons (.var 0) .nil))) .nil))
/-- _law_trim: items found; calls  -/
def m_f_law_trim : MSs := (.cons (.asg (.name 1) (.bi .list (.cons (.var 0) .nil))) (.cons (.whl (.and (.cons (.cmp .NotEq (.var 1) (.lst .nil)) (.cons (.cmp .Eq (.ix (.var 1) (.neg (.int 1))) (.int 0)) .nil))) (.cons (.expr (.meth .pop (.var 1) .nil)) .nil)) (.cons (.ret (.var 1)) .nil)))
/-- _law_times: one other found i j; calls _law_trim -/
def m_f_law_times : MSs := (.cons (.ifs (.or (.cons (.cmp .Eq (.var 0) (.lst .nil)) (.cons (.cmp .Eq (.var 1) (.lst .nil)) .nil))) (.cons (.ret (.lst .nil)) .nil) .nil) (.cons (.asg (.name 2) (.bin .Mult (.lst (.cons (.int 0) .nil)) (.bin .Sub (.bin .Add (.bi .len (.cons (.var 0) .nil)) (.bi .len (.cons (.var 1) .nil))) (.int 1)))) (.cons (.forr (.name 3) (.range (.cons (.bi .len (.cons (.var 0) .nil)) .nil)) (.cons (.forr (.name 4) (.range (.cons (.bi .len (.cons (.var 1) .nil)) .nil)) (.cons (.asg (.sub (.var 2) (.bin .Add (.var 3) (.var 4))) (.bin .Add (.ix (.var 2) (.bin .Add (.var 3) (.var 4))) (.bin .Mult (.ix (.var 0) (.var 3)) (.ix (.var 1) (.var 4))))) .nil)) .nil)) (.cons (.ret (.call "_law_trim" (.cons (.var 2) .nil))) .nil))))
/-- _law_plus: one other many k; calls _law_trim -/
def m_f_law_plus : MSs := (.cons (.asg (.name 2) (.bi .max (.cons (.bi .len (.cons (.var 0) .nil)) (.cons (.bi .len (.cons (.var 1) .nil)) .nil)))) (.cons (.ret (.call "_law_trim" (.cons (.lc [("k", 3)] (.name 3) (.range (.cons (.var 2) .nil)) .none (.bin .Add (.ifx (.cmp .Lt (.var 3) (.bi .len (.cons (.var 0) .nil))) (.ix (.var 0) (.var 3)) (.int 0)) (.ifx (.cmp .Lt (.var 3) (.bi .len (.cons (.var 1) .nil))) (.ix (.var 1) (.var 3)) (.int 0)))) .nil))) .nil))
/-- _law_at: one number found k; calls  -/
def m_f_law_at : MSs := (.cons (.asg (.name 2) (.int 0)) (.cons (.forr (.name 3) (.range (.cons (.bi .len (.cons (.var 0) .nil)) .nil)) (.cons (.asg (.name 2) (.bin .Add (.bin .Mult (.var 2) (.var 1)) (.ix (.var 0) (.bin .Sub (.bin .Sub (.bi .len (.cons (.var 0) .nil)) (.int 1)) (.var 3))))) .nil)) (.cons (.ret (.var 2)) .nil)))
/-- _law_derived: one k; calls _law_trim -/
def m_f_law_derived : MSs := (.cons (.ret (.call "_law_trim" (.cons (.lc [("k", 1)] (.name 1) (.range (.cons (.int 1) (.cons (.bi .len (.cons (.var 0) .nil)) .nil))) .none (.bin .Mult (.var 1) (.ix (.var 0) (.var 1)))) .nil))) .nil)
/-- _law_content: one found item; calls _law_gcd -/
def m_f_law_content : MSs := (.cons (.asg (.name 1) (.int 0)) (.cons (.forr (.name 2) (.seq (.var 0)) (.cons (.asg (.name 1) (.call "_law_gcd" (.cons (.var 1) (.cons (.var 2) .nil)))) .nil)) (.cons (.ret (.var 1)) .nil)))
/-- _law_primitive: one by item; calls _law_content -/
def m_f_law_primitive : MSs := (.cons (.asg (.name 1) (.call "_law_content" (.cons (.var 0) .nil))) (.cons (.ifs (.cmp .Eq (.var 1) (.int 0)) (.cons (.ret (.lst .nil)) .nil) .nil) (.cons (.asg (.name 1) (.ifx (.cmp .Gt (.ix (.var 0) (.neg (.int 1))) (.int 0)) (.var 1) (.bin .Sub (.int 0) (.var 1)))) (.cons (.ret (.lc [("item", 2)] (.name 2) (.seq (.var 0)) .none (.bin .FloorDiv (.var 2) (.var 1)))) .nil))))
/-- _law_roots_made: box many found turn p q; calls _law_take _law_times -/
def m_f_law_roots_made : MSs := (.cons (.asg (.name 2) (.lst (.cons (.int 1) .nil))) (.cons (.forr (.name 3) (.range (.cons (.var 1) .nil)) (.cons (.par2 4 5 (.cons (.bin .Sub (.call "_law_take" (.cons (.var 0) (.cons (.int 13) .nil))) (.int 6)) (.cons (.bin .Add (.int 1) (.bin .Mult (.call "_law_take" (.cons (.var 0) (.cons (.int 3) .nil))) (.bi .int (.cons (.cmp .Eq (.call "_law_take" (.cons (.var 0) (.cons (.int 3) .nil))) (.int 0)) .nil)))) .nil))) (.cons (.asg (.name 2) (.call "_law_times" (.cons (.var 2) (.cons (.lst (.cons (.bin .Sub (.int 0) (.var 4)) (.cons (.var 5) .nil))) .nil)))) (.cons (.ifs (.and (.cons (.cmp .Eq (.call "_law_take" (.cons (.var 0) (.cons (.int 6) .nil))) (.int 0)) (.cons (.cmp .Lt (.bi .len (.cons (.var 2) .nil)) (.var 1)) .nil))) (.cons (.asg (.name 2) (.call "_law_times" (.cons (.var 2) (.cons (.lst (.cons (.bin .Sub (.int 0) (.var 4)) (.cons (.var 5) .nil))) .nil)))) .nil) .nil) .nil)))) (.cons (.ret (.var 2)) .nil)))
/-- _law_drawn: box most wide any_one way many low one other found turn half k; calls _law_take _law_trim _law_roots_made _law_times _law_plus -/
def m_f_law_drawn : MSs := (.cons (.par2 4 5 (.cons (.call "_law_take" (.cons (.var 0) (.cons (.int 7) .nil))) (.cons (.call "_law_take" (.cons (.var 0) (.cons (.bin .Add (.var 1) (.int 1)) .nil))) .nil))) (.cons (.asg (.name 2) (.ix (.lst (.cons (.int 1) (.cons (.int 2) (.cons (.int 5) (.cons (.int 20) (.cons (.int 1000) .nil)))))) (.call "_law_take" (.cons (.var 0) (.cons (.int 5) .nil))))) (.cons (.asg (.name 3) (.call "_law_trim" (.cons (.lc [("k", 12)] (.name 12) (.range (.cons (.bin .Add (.var 5) (.int 1)) .nil)) .none (.bin .Sub (.call "_law_take" (.cons (.var 0) (.cons (.bin .Add (.bin .Mult (.int 2) (.var 2)) (.int 1)) .nil))) (.var 2))) .nil))) (.cons (.ifs (.cmp .Eq (.var 4) (.int 0)) (.cons (.ret (.var 3)) .nil) .nil) (.cons (.ifs (.cmp .Eq (.var 4) (.int 1)) (.cons (.ret (.call "_law_trim" (.cons (.slc (.call "_law_roots_made" (.cons (.var 0) (.cons (.var 5) .nil))) .none (.some (.bin .Add (.var 1) (.int 1)))) .nil))) .nil) .nil) (.cons (.ifs (.cmp .Eq (.var 4) (.int 2)) (.cons (.asg (.name 6) (.bin .FloorDiv (.var 5) (.int 2))) (.cons (.asg (.name 7) (.bin .Add (.lc [("k", 12)] (.name 12) (.range (.cons (.var 6) .nil)) .none (.bin .Sub (.call "_law_take" (.cons (.var 0) (.cons (.int 7) .nil))) (.int 3))) (.lst (.cons (.bin .Add (.int 1) (.call "_law_take" (.cons (.var 0) (.cons (.int 3) .nil)))) .nil)))) (.cons (.asg (.name 8) (.bin .Add (.lc [("k", 12)] (.name 12) (.range (.cons (.bin .Sub (.var 5) (.var 6)) .nil)) .none (.bin .Sub (.call "_law_take" (.cons (.var 0) (.cons (.int 7) .nil))) (.int 3))) (.lst (.cons (.int 1) .nil)))) (.cons (.ret (.call "_law_times" (.cons (.var 7) (.cons (.var 8) .nil)))) .nil)))) .nil) (.cons (.ifs (.cmp .Eq (.var 4) (.int 3)) (.cons (.asg (.name 9) (.bin .Mult (.lst (.cons (.int 0) .nil)) (.bin .Add (.var 5) (.int 1)))) (.cons (.forr (.name 10) (.range (.cons (.int 3) .nil)) (.cons (.asg (.sub (.var 9) (.call "_law_take" (.cons (.var 0) (.cons (.bin .Add (.var 5) (.int 1)) .nil)))) (.bin .Sub (.call "_law_take" (.cons (.var 0) (.cons (.bin .Add (.bin .Mult (.int 2) (.var 2)) (.int 1)) .nil))) (.var 2))) .nil)) (.cons (.ret (.call "_law_trim" (.cons (.var 9) .nil))) .nil))) .nil) (.cons (.ifs (.cmp .Eq (.var 4) (.int 4)) (.cons (.asg (.name 11) (.lc [("k", 12)] (.name 12) (.range (.cons (.bin .Add (.bin .FloorDiv (.var 5) (.int 2)) (.int 1)) .nil)) .none (.bin .Sub (.call "_law_take" (.cons (.var 0) (.cons (.int 5) .nil))) (.int 2)))) (.cons (.ret (.call "_law_trim" (.cons (.slc (.bin .Add (.var 11) (.revl (.var 11))) .none (.some (.bin .Add (.var 1) (.int 1)))) .nil))) .nil)) .nil) (.cons (.ifs (.cmp .Eq (.var 4) (.int 5)) (.cons (.asg (.name 11) (.bin .Add (.lc [("k", 12)] (.name 12) (.range (.cons (.bin .FloorDiv (.var 5) (.int 2)) .nil)) .none (.bin .Sub (.call "_law_take" (.cons (.var 0) (.cons (.int 7) .nil))) (.int 3))) (.lst (.cons (.int 1) .nil)))) (.cons (.ret (.call "_law_plus" (.cons (.call "_law_times" (.cons (.var 11) (.cons (.var 11) .nil))) (.cons (.lst (.cons (.bin .Sub (.call "_law_take" (.cons (.var 0) (.cons (.int 5) .nil))) (.int 2)) .nil)) .nil)))) .nil)) .nil) (.cons (.ret (.bin .Add (.lc [("k", 12)] (.name 12) (.range (.cons (.var 5) .nil)) .none (.bin .Sub (.call "_law_take" (.cons (.var 0) (.cons (.bin .Add (.bin .Mult (.int 2) (.var 2)) (.int 1)) .nil))) (.var 2))) (.lst (.cons (.int 1) .nil)))) .nil))))))))))
/-- _law_one: box way; calls _law_take _law_drawn -/
def m_f_law_one : MSs := (.cons (.asg (.name 1) (.call "_law_take" (.cons (.var 0) (.cons (.int 10) .nil)))) (.cons (.ifs (.cmp .Eq (.var 1) (.int 0)) (.cons (.ret (.tup .nil)) .nil) .nil) (.cons (.ifs (.cmp .Eq (.var 1) (.int 1)) (.cons (.ret (.tup (.cons (.bin .Mult (.bin .Add (.int 1) (.call "_law_take" (.cons (.var 0) (.cons (.int 6) .nil)))) (.bin .Sub (.int 1) (.bin .Mult (.int 2) (.call "_law_take" (.cons (.var 0) (.cons (.int 2) .nil)))))) .nil))) .nil) .nil) (.cons (.ret (.bi .tuple (.cons (.call "_law_drawn" (.cons (.var 0) (.cons (.ifx (.cmp .Gt (.var 1) (.int 2)) (.ix (.lst (.cons (.int 3) (.cons (.int 4) (.cons (.int 2) (.cons (.int 5) (.cons (.int 4) (.cons (.int 3) (.cons (.int 6) (.cons (.int 8) .nil))))))))) (.call "_law_take" (.cons (.var 0) (.cons (.int 8) .nil)))) (.int 12)) .nil))) .nil))) .nil))))
/-- _law_bad_ones: ; calls  -/
def m_f_law_bad_ones : MSs := (.cons (.ret (.lst (.cons .non (.cons (.str "1") (.cons (.int 0) (.cons (.lst .nil) (.cons (.lst (.cons (.int 1) .nil)) (.cons (.tup (.cons (.int 0) .nil)) (.cons (.tup (.cons (.int 1) (.cons (.int 0) .nil))) (.cons (.tup (.cons (.bl true) .nil)) (.cons (.tup (.cons (.str "1") .nil)) (.cons (.tup (.cons .non .nil)) (.cons .dct0 (.cons (.tup (.cons (.tup (.cons (.int 1) (.cons (.int 1) .nil))) .nil)) (.cons (.tup (.cons (.int 1) (.cons (.tup (.cons (.int 2) (.cons (.int 1) .nil))) .nil))) (.cons (.tup (.cons (.int 0) (.cons (.int 1) (.cons (.int 0) .nil)))) (.cons (.tup (.cons (.int 1) (.cons (.bl true) .nil))) (.cons (.tup (.cons (.int 1) (.cons .non .nil))) (.cons (.str "x") .nil))))))))))))))))))) .nil)
/-- _law_handed: value item; calls  -/
def m_f_law_handed : MSs := (.cons (.ret (.ifx (.isi (.var 0) .list) (.lc [("item", 1)] (.name 1) (.seq (.var 0)) .none (.var 1)) (.var 0))) .nil)
/-- _law_single: word one by_name; calls degree derived mirrored turned content primitive -/
def m_f_law_single : MSs := (.cons (.ifs (.cmp .Eq (.var 0) (.str "degree")) (.cons (.ret (.ifx (.var 2) (.callk "degree" .nil ["one"] (.cons (.var 1) .nil)) (.call "degree" (.cons (.var 1) .nil)))) .nil) .nil) (.cons (.ifs (.cmp .Eq (.var 0) (.str "derived")) (.cons (.ret (.ifx (.var 2) (.callk "derived" .nil ["one"] (.cons (.var 1) .nil)) (.call "derived" (.cons (.var 1) .nil)))) .nil) .nil) (.cons (.ifs (.cmp .Eq (.var 0) (.str "mirrored")) (.cons (.ret (.ifx (.var 2) (.callk "mirrored" .nil ["one"] (.cons (.var 1) .nil)) (.call "mirrored" (.cons (.var 1) .nil)))) .nil) .nil) (.cons (.ifs (.cmp .Eq (.var 0) (.str "turned")) (.cons (.ret (.ifx (.var 2) (.callk "turned" .nil ["one"] (.cons (.var 1) .nil)) (.call "turned" (.cons (.var 1) .nil)))) .nil) .nil) (.cons (.ifs (.cmp .Eq (.var 0) (.str "content")) (.cons (.ret (.ifx (.var 2) (.callk "content" .nil ["one"] (.cons (.var 1) .nil)) (.call "content" (.cons (.var 1) .nil)))) .nil) .nil) (.cons (.ret (.ifx (.var 2) (.callk "primitive" .nil ["one"] (.cons (.var 1) .nil)) (.call "primitive" (.cons (.var 1) .nil)))) .nil))))))
/-- _law_double: word one other by_name; calls plus minus times composed scaled to_power value_at shifted -/
def m_f_law_double : MSs := (.cons (.ifs (.cmp .Eq (.var 0) (.str "plus")) (.cons (.ret (.ifx (.var 3) (.callk "plus" .nil ["other", "one"] (.cons (.var 2) (.cons (.var 1) .nil))) (.call "plus" (.cons (.var 1) (.cons (.var 2) .nil))))) .nil) .nil) (.cons (.ifs (.cmp .Eq (.var 0) (.str "minus")) (.cons (.ret (.ifx (.var 3) (.callk "minus" .nil ["other", "one"] (.cons (.var 2) (.cons (.var 1) .nil))) (.call "minus" (.cons (.var 1) (.cons (.var 2) .nil))))) .nil) .nil) (.cons (.ifs (.cmp .Eq (.var 0) (.str "times")) (.cons (.ret (.ifx (.var 3) (.callk "times" .nil ["other", "one"] (.cons (.var 2) (.cons (.var 1) .nil))) (.call "times" (.cons (.var 1) (.cons (.var 2) .nil))))) .nil) .nil) (.cons (.ifs (.cmp .Eq (.var 0) (.str "composed")) (.cons (.ret (.ifx (.var 3) (.callk "composed" .nil ["other", "one"] (.cons (.var 2) (.cons (.var 1) .nil))) (.call "composed" (.cons (.var 1) (.cons (.var 2) .nil))))) .nil) .nil) (.cons (.ifs (.cmp .Eq (.var 0) (.str "scaled")) (.cons (.ret (.ifx (.var 3) (.callk "scaled" .nil ["number", "one"] (.cons (.var 2) (.cons (.var 1) .nil))) (.call "scaled" (.cons (.var 1) (.cons (.var 2) .nil))))) .nil) .nil) (.cons (.ifs (.cmp .Eq (.var 0) (.str "power")) (.cons (.ret (.ifx (.var 3) (.callk "to_power" .nil ["number", "one"] (.cons (.var 2) (.cons (.var 1) .nil))) (.call "to_power" (.cons (.var 1) (.cons (.var 2) .nil))))) .nil) .nil) (.cons (.ifs (.cmp .Eq (.var 0) (.str "value")) (.cons (.ret (.ifx (.var 3) (.callk "value_at" .nil ["number", "one"] (.cons (.var 2) (.cons (.var 1) .nil))) (.call "value_at" (.cons (.var 1) (.cons (.var 2) .nil))))) .nil) .nil) (.cons (.ret (.ifx (.var 3) (.callk "shifted" .nil ["number", "one"] (.cons (.var 2) (.cons (.var 1) .nil))) (.call "shifted" (.cons (.var 1) (.cons (.var 2) .nil))))) .nil))))))))
/-- _law_caught: box word one other by_name e; calls _law_take _law_single _law_double -/
def m_f_law_caught_v2 : MSs := (.cons (.asg (.name 4) (.cmp .Eq (.call "_law_take" (.cons (.var 0) (.cons (.int 2) .nil))) (.int 1))) (.cons (.tryy (.cons (.ifs (.cmp .In (.var 1) (.lst (.cons (.str "degree") (.cons (.str "derived") (.cons (.str "mirrored") (.cons (.str "turned") (.cons (.str "content") (.cons (.str "primitive") .nil)))))))) (.cons (.ret (.tup (.cons (.str "told") (.cons (.call "_law_single" (.cons (.var 1) (.cons (.var 2) (.cons (.var 4) .nil)))) .nil)))) .nil) .nil) (.cons (.ret (.tup (.cons (.str "told") (.cons (.call "_law_double" (.cons (.var 1) (.cons (.var 2) (.cons (.var 3) (.cons (.var 4) .nil))))) .nil)))) .nil)) [⟨"InvalidPolynomial", some 5, (.tup (.cons (.str "polynomial") (.cons (.exf 5 "given") .nil)))⟩, ⟨"InvalidNumber", some 5, (.tup (.cons (.str "number") (.cons (.exf 5 "given") .nil)))⟩, ⟨"TooMany", some 5, (.tup (.cons (.str "many") (.cons (.exf 5 "count") .nil)))⟩]) .nil))
/-- _law_composed: one other found k; calls _law_plus _law_times _law_trim -/
def m_f_law_composed : MSs := (.cons (.asg (.name 2) (.lst .nil)) (.cons (.forr (.name 3) (.range (.cons (.bin .Sub (.bi .len (.cons (.var 0) .nil)) (.int 1)) (.cons (.neg (.int 1)) (.cons (.neg (.int 1)) .nil)))) (.cons (.asg (.name 2) (.call "_law_plus" (.cons (.call "_law_times" (.cons (.var 2) (.cons (.bi .list (.cons (.var 1) .nil)) .nil))) (.cons (.call "_law_trim" (.cons (.lst (.cons (.ix (.var 0) (.var 3)) .nil)) .nil)) .nil)))) .nil)) (.cons (.ret (.var 2)) .nil)))
/-- _law_dues: box one other dues turn a b number power found k x; calls _law_take _law_derived _law_content _law_trim _law_primitive _law_plus _law_times _law_at _law_composed -/
def m_f_law_dues : MSs := (.cons (.asg (.tup (.cons (.name 5) (.cons (.name 6) (.cons (.name 7) .nil)))) (.tup (.cons (.bi .list (.cons (.var 1) .nil)) (.cons (.bi .list (.cons (.var 2) .nil)) (.cons (.ix (.lst (.cons (.bin .Sub (.call "_law_take" (.cons (.var 0) (.cons (.int 9) .nil))) (.int 4)) (.cons (.bin .Sub (.call "_law_take" (.cons (.var 0) (.cons (.bin .Pow (.int 10) (.int 12)) .nil))) (.bin .Mult (.int 5) (.bin .Pow (.int 10) (.int 11)))) .nil))) (.call "_law_take" (.cons (.var 0) (.cons (.int 2) .nil)))) .nil))))) (.cons (.asg (.name 3) (.lst (.cons (.tup (.cons (.str "degree") (.cons .non (.cons (.bin .Sub (.bi .len (.cons (.var 5) .nil)) (.int 1)) .nil)))) (.cons (.tup (.cons (.str "derived") (.cons .non (.cons (.bi .tuple (.cons (.call "_law_derived" (.cons (.var 5) .nil)) .nil)) .nil)))) (.cons (.tup (.cons (.str "content") (.cons .non (.cons (.call "_law_content" (.cons (.var 5) .nil)) .nil)))) .nil))))) (.cons (.expr (.meth .append (.var 3) (.cons (.tup (.cons (.str "mirrored") (.cons .non (.cons (.bi .tuple (.cons (.lc [("k", 10), ("x", 11)] (.tup (.cons (.name 10) (.cons (.name 11) .nil))) (.enum (.var 5)) .none (.bin .Mult (.var 11) (.bin .Sub (.int 1) (.bin .Mult (.int 2) (.bi .int (.cons (.bin .Mod (.bi .int (.cons (.var 10) .nil)) (.int 2)) .nil)))))) .nil)) .nil)))) .nil))) (.cons (.asg (.name 3) (.bin .Add (.var 3) (.lst (.cons (.tup (.cons (.str "turned") (.cons .non (.cons (.bi .tuple (.cons (.call "_law_trim" (.cons (.revl (.var 5)) .nil)) .nil)) .nil)))) (.cons (.tup (.cons (.str "primitive") (.cons .non (.cons (.bi .tuple (.cons (.call "_law_primitive" (.cons (.var 5) .nil)) .nil)) .nil)))) .nil))))) (.cons (.asg (.name 3) (.bin .Add (.var 3) (.lst (.cons (.tup (.cons (.str "plus") (.cons (.var 2) (.cons (.bi .tuple (.cons (.call "_law_plus" (.cons (.var 5) (.cons (.var 6) .nil))) .nil)) .nil)))) (.cons (.tup (.cons (.str "minus") (.cons (.var 2) (.cons (.bi .tuple (.cons (.call "_law_plus" (.cons (.var 5) (.cons (.lc [("x", 11)] (.name 11) (.seq (.var 6)) .none (.bin .Sub (.int 0) (.var 11))) .nil))) .nil)) .nil)))) .nil))))) (.cons (.asg (.name 3) (.bin .Add (.var 3) (.lst (.cons (.tup (.cons (.str "times") (.cons (.var 2) (.cons (.bi .tuple (.cons (.call "_law_times" (.cons (.var 5) (.cons (.var 6) .nil))) .nil)) .nil)))) (.cons (.tup (.cons (.str "scaled") (.cons (.var 7) (.cons (.bi .tuple (.cons (.call "_law_trim" (.cons (.lc [("x", 11)] (.name 11) (.seq (.var 5)) .none (.bin .Mult (.var 7) (.var 11))) .nil)) .nil)) .nil)))) .nil))))) (.cons (.asg (.name 3) (.bin .Add (.var 3) (.lst (.cons (.tup (.cons (.str "value") (.cons (.var 7) (.cons (.call "_law_at" (.cons (.var 5) (.cons (.var 7) .nil))) .nil)))) (.cons (.tup (.cons (.str "shifted") (.cons (.var 7) (.cons (.bi .tuple (.cons (.call "_law_composed" (.cons (.var 5) (.cons (.lst (.cons (.var 7) (.cons (.int 1) .nil))) .nil))) .nil)) .nil)))) .nil))))) (.cons (.ifs (.cmp .Lt (.bin .Mult (.bi .max (.cons (.bin .Sub (.bi .len (.cons (.var 5) .nil)) (.int 1)) (.cons (.int 0) .nil))) (.bi .max (.cons (.bin .Sub (.bi .len (.cons (.var 6) .nil)) (.int 1)) (.cons (.int 0) .nil)))) (.int 37)) (.cons (.expr (.meth .append (.var 3) (.cons (.tup (.cons (.str "composed") (.cons (.var 2) (.cons (.bi .tuple (.cons (.call "_law_composed" (.cons (.var 5) (.cons (.var 6) .nil))) .nil)) .nil)))) .nil))) .nil) .nil) (.cons (.par2 8 9 (.cons (.call "_law_take" (.cons (.var 0) (.cons (.int 4) .nil))) (.cons (.lst (.cons (.int 1) .nil)) .nil))) (.cons (.forr (.name 4) (.range (.cons (.var 8) .nil)) (.cons (.asg (.name 9) (.call "_law_times" (.cons (.var 9) (.cons (.var 5) .nil)))) .nil)) (.cons (.ret (.bin .Add (.var 3) (.lst (.cons (.tup (.cons (.str "power") (.cons (.var 8) (.cons (.bi .tuple (.cons (.var 9) .nil)) .nil)))) .nil)))) .nil)))))))))))
/-- _law_limits_right: box x rows k row; calls _law_take _law_same _law_caught -/
def m_f_law_limits_right : MSs := (.cons (.asg (.name 1) (.lc [("k", 3)] (.name 3) (.range (.cons (.int 31) .nil)) .none (.bin .Add (.bin .Mult (.tup (.cons (.int 0) .nil)) (.var 3)) (.tup (.cons (.bin .Add (.int 1) (.call "_law_take" (.cons (.var 0) (.cons (.int 3) .nil)))) .nil))))) (.cons (.ifs (.or (.cons (.not (.call "_law_same" (.cons (.ix (.call "_law_caught" (.cons (.var 0) (.cons (.str "composed") (.cons (.ix (.var 1) (.int 5)) (.cons (.ix (.var 1) (.int 12)) .nil))))) (.int 0)) (.cons (.str "told") .nil)))) (.cons (.not (.call "_law_same" (.cons (.ix (.call "_law_caught" (.cons (.var 0) (.cons (.str "times") (.cons (.ix (.var 1) (.int 30)) (.cons (.ix (.var 1) (.int 30)) .nil))))) (.int 0)) (.cons (.str "told") .nil)))) .nil))) (.cons (.ret (.bl false)) .nil) .nil) (.cons (.ifs (.or (.cons (.not (.call "_law_same" (.cons (.ix (.call "_law_caught" (.cons (.var 0) (.cons (.str "power") (.cons (.ix (.var 1) (.int 5)) (.cons (.int 12) .nil))))) (.int 0)) (.cons (.str "told") .nil)))) (.cons (.not (.call "_law_same" (.cons (.ix (.call "_law_caught" (.cons (.var 0) (.cons (.str "power") (.cons (.ix (.var 1) (.int 6)) (.cons (.int 10) .nil))))) (.int 0)) (.cons (.str "told") .nil)))) .nil))) (.cons (.ret (.bl false)) .nil) .nil) (.cons (.asg (.name 2) (.lst (.cons (.tup (.cons (.str "composed") (.cons (.ix (.var 1) (.int 7)) (.cons (.ix (.var 1) (.int 9)) (.cons (.int 63) .nil))))) (.cons (.tup (.cons (.str "composed") (.cons (.ix (.var 1) (.int 12)) (.cons (.ix (.var 1) (.int 12)) (.cons (.int 144) .nil))))) (.cons (.tup (.cons (.str "power") (.cons (.ix (.var 1) (.int 6)) (.cons (.int 11) (.cons (.int 66) .nil))))) (.cons (.tup (.cons (.str "power") (.cons (.ix (.var 1) (.int 12)) (.cons (.int 12) (.cons (.int 144) .nil))))) .nil)))))) (.cons (.asg (.name 2) (.bin .Add (.var 2) (.lst (.cons (.tup (.cons (.str "times") (.cons (.bin .Add (.ix (.var 1) (.int 30)) (.tup (.cons (.int 1) .nil))) (.cons (.ix (.var 1) (.int 30)) (.cons (.int 61) .nil))))) .nil)))) (.cons (.ret (.cmp .Eq (.lc [("row", 4)] (.name 4) (.seq (.var 2)) (.some (.not (.call "_law_same" (.cons (.call "_law_caught" (.cons (.var 0) (.cons (.ix (.var 4) (.int 0)) (.cons (.ix (.var 4) (.int 1)) (.cons (.ix (.var 4) (.int 2)) .nil))))) (.cons (.tup (.cons (.str "many") (.cons (.ix (.var 4) (.int 3)) .nil))) .nil))))) (.var 4)) (.lst .nil))) .nil))))))
/-- _law_refused_right: box one bad word; calls _law_bad_ones is_integer_polynomial _law_very _law_caught _law_handed -/
def m_f_law_refused_right : MSs := (.cons (.forr (.name 2) (.seq (.call "_law_bad_ones" .nil)) (.cons (.ifs (.cmp .IsNot (.call "is_integer_polynomial" (.cons (.var 2) .nil)) (.bl false)) (.cons (.ret (.bl false)) .nil) .nil) (.cons (.forr (.name 3) (.seq (.lst (.cons (.str "degree") (.cons (.str "derived") (.cons (.str "mirrored") (.cons (.str "turned") (.cons (.str "content") (.cons (.str "primitive") .nil)))))))) (.cons (.ifs (.not (.call "_law_very" (.cons (.call "_law_caught" (.cons (.var 0) (.cons (.var 3) (.cons (.call "_law_handed" (.cons (.var 2) .nil)) (.cons .non .nil))))) (.cons (.str "polynomial") (.cons (.var 2) .nil))))) (.cons (.ret (.bl false)) .nil) .nil) .nil)) (.cons (.forr (.name 3) (.seq (.lst (.cons (.str "plus") (.cons (.str "minus") (.cons (.str "times") (.cons (.str "composed") (.cons (.str "scaled") (.cons (.str "power") (.cons (.str "value") (.cons (.str "shifted") .nil)))))))))) (.cons (.ifs (.not (.call "_law_very" (.cons (.call "_law_caught" (.cons (.var 0) (.cons (.var 3) (.cons (.call "_law_handed" (.cons (.var 2) .nil)) (.cons .non .nil))))) (.cons (.str "polynomial") (.cons (.var 2) .nil))))) (.cons (.ret (.bl false)) .nil) .nil) .nil)) (.cons (.forr (.name 3) (.seq (.lst (.cons (.str "plus") (.cons (.str "minus") (.cons (.str "times") (.cons (.str "composed") .nil)))))) (.cons (.ifs (.not (.call "_law_very" (.cons (.call "_law_caught" (.cons (.var 0) (.cons (.var 3) (.cons (.var 1) (.cons (.call "_law_handed" (.cons (.var 2) .nil)) .nil))))) (.cons (.str "polynomial") (.cons (.var 2) .nil))))) (.cons (.ret (.bl false)) .nil) .nil) .nil)) .nil))))) (.cons (.forr (.name 2) (.seq (.lst (.cons .non (.cons (.bl true) (.cons (.str "1") (.cons (.tup (.cons (.int 1) .nil)) (.cons (.lst (.cons (.int 1) .nil)) (.cons .dct0 (.cons (.tup (.cons (.int 1) (.cons (.int 1) .nil))) .nil))))))))) (.cons (.forr (.name 3) (.seq (.lst (.cons (.str "scaled") (.cons (.str "power") (.cons (.str "value") (.cons (.str "shifted") .nil)))))) (.cons (.ifs (.not (.call "_law_very" (.cons (.call "_law_caught" (.cons (.var 0) (.cons (.var 3) (.cons (.var 1) (.cons (.call "_law_handed" (.cons (.var 2) .nil)) .nil))))) (.cons (.str "number") (.cons (.var 2) .nil))))) (.cons (.ret (.bl false)) .nil) .nil) .nil)) .nil)) (.cons (.ret (.cmp .Eq (.lc [("bad", 2)] (.name 2) (.seq (.lst (.cons (.neg (.int 1)) (.cons (.int 13) (.cons (.bin .Pow (.int 10) (.int 20)) .nil))))) (.some (.not (.call "_law_very" (.cons (.call "_law_caught" (.cons (.var 0) (.cons (.str "power") (.cons (.var 1) (.cons (.var 2) .nil))))) (.cons (.str "number") (.cons (.var 2) .nil)))))) (.var 2)) (.lst .nil))) .nil)))
/-- law: script k box one other first second word given due; calls _law_box _law_cell _law_one _law_dues _law_same _law_caught is_integer_polynomial _law_refused_right _law_limits_right -/
def m_law_v2 : MSs := (.cons (.forr (.name 1) (.range (.cons (.bi .max (.cons (.int 3) (.cons (.bi .min (.cons (.int 5) (.cons (.bi .len (.cons (.var 0) .nil)) .nil))) .nil))) .nil)) (.cons (.asg (.name 2) (.call "_law_box" (.cons (.call "_law_cell" (.cons (.var 0) (.cons (.var 1) .nil))) .nil))) (.cons (.par2 3 4 (.cons (.call "_law_one" (.cons (.var 2) .nil)) (.cons (.call "_law_one" (.cons (.var 2) .nil)) .nil))) (.cons (.forr (.tup (.cons (.name 5) (.cons (.name 6) .nil))) (.seq (.lst (.cons (.tup (.cons (.var 3) (.cons (.var 4) .nil))) (.cons (.tup (.cons (.var 4) (.cons (.var 3) .nil))) (.cons (.tup (.cons (.var 3) (.cons (.var 3) .nil))) .nil))))) (.cons (.forr (.tup (.cons (.name 7) (.cons (.name 8) (.cons (.name 9) .nil)))) (.seq (.call "_law_dues" (.cons (.var 2) (.cons (.var 5) (.cons (.var 6) .nil))))) (.cons (.ifs (.not (.call "_law_same" (.cons (.call "_law_caught" (.cons (.var 2) (.cons (.var 7) (.cons (.var 5) (.cons (.var 8) .nil))))) (.cons (.tup (.cons (.str "told") (.cons (.var 9) .nil))) .nil)))) (.cons (.ret (.bl false)) .nil) .nil) .nil)) (.cons (.ifs (.cmp .IsNot (.callk "is_integer_polynomial" .nil ["value"] (.cons (.var 5) .nil)) (.bl true)) (.cons (.ret (.bl false)) .nil) .nil) .nil))) (.cons (.ifs (.or (.cons (.not (.call "_law_refused_right" (.cons (.var 2) (.cons (.var 3) .nil)))) (.cons (.not (.call "_law_limits_right" (.cons (.var 2) .nil))) .nil))) (.cons (.ret (.bl false)) .nil) .nil) .nil))))) (.cons (.ret (.bl true)) .nil))
end DL.LW

set_option Elab.async false
set_option linter.all false
set_option maxRecDepth 100000
set_option maxHeartbeats 4000000
namespace DL.LW
open PySem PySem.Spec PyProof.Rows L2 DL
/-- quotient_of: one other place left found top more item; calls trimmed -/
def m_quotient_of : MSs := (.cons (.par2 3 4 (.cons (.bi .list (.cons (.var 0) .nil)) (.cons (.bin .Mult (.lst (.cons (.int 0) .nil)) (.bi .max (.cons (.int 0) (.cons (.bin .Add (.bin .Sub (.bi .len (.cons (.var 0) .nil)) (.bi .len (.cons (.var 1) .nil))) (.int 1)) .nil)))) .nil))) (.cons (.forr (.name 2) (.range (.cons (.bin .Sub (.bi .len (.cons (.var 4) .nil)) (.int 1)) (.cons (.neg (.int 1)) (.cons (.neg (.int 1)) .nil)))) (.cons (.asg (.name 5) (.ix (.var 3) (.bin .Sub (.bin .Add (.var 2) (.bi .len (.cons (.var 1) .nil))) (.int 1)))) (.cons (.ifs (.cmp .NotEq (.bin .Mod (.var 5) (.ix (.var 1) (.neg (.int 1)))) (.int 0)) (.cons (.ret .non) .nil) .nil) (.cons (.asg (.sub (.var 4) (.var 2)) (.bin .FloorDiv (.var 5) (.ix (.var 1) (.neg (.int 1))))) (.cons (.forr (.tup (.cons (.name 6) (.cons (.name 7) .nil))) (.enum (.var 1)) (.cons (.augS (.var 3) (.bin .Add (.var 2) (.var 6)) .Sub (.bin .Mult (.ix (.var 4) (.var 2)) (.var 7))) .nil)) .nil))))) (.cons (.ret (.ifx (.cmp .Eq (.call "trimmed" (.cons (.var 3) .nil)) (.tup .nil)) (.call "trimmed" (.cons (.var 4) .nil)) .non)) .nil)))
/-- pseudo_rest_of: one other left place top more item; calls trimmed -/
def m_pseudo_rest_of : MSs := (.cons (.asg (.name 2) (.bi .list (.cons (.var 0) .nil))) (.cons (.forr (.name 3) (.range (.cons (.bin .Sub (.bi .len (.cons (.var 0) .nil)) (.bi .len (.cons (.var 1) .nil))) (.cons (.neg (.int 1)) (.cons (.neg (.int 1)) .nil)))) (.cons (.asg (.name 4) (.ix (.var 2) (.bin .Sub (.bin .Add (.var 3) (.bi .len (.cons (.var 1) .nil))) (.int 1)))) (.cons (.asg (.name 2) (.lc [("item", 6)] (.name 6) (.seq (.var 2)) .none (.bin .Mult (.ix (.var 1) (.neg (.int 1))) (.var 6)))) (.cons (.forr (.tup (.cons (.name 5) (.cons (.name 6) .nil))) (.enum (.var 1)) (.cons (.augS (.var 2) (.bin .Add (.var 3) (.var 5)) .Sub (.bin .Mult (.var 4) (.var 6))) .nil)) .nil)))) (.cons (.ret (.call "trimmed" (.cons (.var 2) .nil))) .nil)))
/-- common_primitive: one other first second; calls primitive_of pseudo_rest_of -/
def m_common_primitive : MSs := (.cons (.par2 2 3 (.cons (.call "primitive_of" (.cons (.var 0) .nil)) (.cons (.call "primitive_of" (.cons (.var 1) .nil)) .nil))) (.cons (.whl (.cmp .NotEq (.var 3) (.tup .nil)) (.cons (.par2 2 3 (.cons (.var 3) (.cons (.call "primitive_of" (.cons (.call "pseudo_rest_of" (.cons (.var 2) (.cons (.var 3) .nil))) .nil)) .nil))) .nil)) (.cons (.ret (.var 2)) .nil)))
/-- common_of: one other; calls multiple_of common_primitive content_of -/
def m_common_of_v2 : MSs := (.cons (.ret (.call "multiple_of" (.cons (.call "common_primitive" (.cons (.var 0) (.cons (.var 1) .nil))) (.cons (.bi .gcd (.cons (.call "content_of" (.cons (.var 0) .nil)) (.cons (.call "content_of" (.cons (.var 1) .nil)) .nil))) .nil)))) .nil)
/-- common: one other; calls check_polynomial common_of -/
def m_common : MSs := (.cons (.expr (.call "check_polynomial" (.cons (.var 0) .nil))) (.cons (.expr (.call "check_polynomial" (.cons (.var 1) .nil))) (.cons (.ret (.call "common_of" (.cons (.var 0) (.cons (.var 1) .nil)))) .nil)))
/-- divides: one other; calls check_polynomial quotient_of -/
def m_divides : MSs := (.cons (.expr (.call "check_polynomial" (.cons (.var 0) .nil))) (.cons (.expr (.call "check_polynomial" (.cons (.var 1) .nil))) (.cons (.ret (.ifx (.cmp .Eq (.var 0) (.tup .nil)) (.cmp .Eq (.var 1) (.tup .nil)) (.cmp .IsNot (.call "quotient_of" (.cons (.var 1) (.cons (.var 0) .nil))) .non))) .nil)))
/-- quotient: one other; calls check_polynomial quotient_of -/
def m_quotient : MSs := (.cons (.expr (.call "check_polynomial" (.cons (.var 0) .nil))) (.cons (.expr (.call "check_polynomial" (.cons (.var 1) .nil))) (.cons (.ifs (.cmp .Eq (.var 0) (.tup .nil)) (.cons (.raise "DividedByZero" .nil) .nil) .nil) (.cons (.ret (.call "quotient_of" (.cons (.var 1) (.cons (.var 0) .nil)))) .nil))))
/-- pseudo_rest: one other; calls check_polynomial degree_of pseudo_rest_of -/
def m_pseudo_rest : MSs := (.cons (.expr (.call "check_polynomial" (.cons (.var 0) .nil))) (.cons (.expr (.call "check_polynomial" (.cons (.var 1) .nil))) (.cons (.ifs (.cmp .Eq (.var 1) (.tup .nil)) (.cons (.raise "DividedByZero" .nil) .nil) .nil) (.cons (.ret (.ifx (.cmp .GtE (.call "degree_of" (.cons (.var 0) .nil)) (.call "degree_of" (.cons (.var 1) .nil))) (.call "pseudo_rest_of" (.cons (.var 0) (.cons (.var 1) .nil))) (.var 0))) .nil))))
/-- _law_rest: one other found k head at item; calls _law_trim -/
def m_f_law_rest : MSs := (.cons (.asg (.name 2) (.bi .list (.cons (.var 0) .nil))) (.cons (.whl (.cmp .GtE (.bi .len (.cons (.var 2) .nil)) (.bi .len (.cons (.var 1) .nil))) (.cons (.par2 4 5 (.cons (.ix (.var 2) (.neg (.int 1))) (.cons (.bin .Sub (.bi .len (.cons (.var 2) .nil)) (.bi .len (.cons (.var 1) .nil))) .nil))) (.cons (.asg (.name 2) (.lc [("item", 6)] (.name 6) (.seq (.var 2)) .none (.bin .Mult (.var 6) (.ix (.var 1) (.neg (.int 1)))))) (.cons (.forr (.name 3) (.range (.cons (.bi .len (.cons (.var 1) .nil)) .nil)) (.cons (.asg (.sub (.var 2) (.bin .Add (.var 5) (.var 3))) (.bin .Sub (.ix (.var 2) (.bin .Add (.var 5) (.var 3))) (.bin .Mult (.var 4) (.ix (.var 1) (.var 3))))) .nil)) (.cons (.asg (.name 2) (.call "_law_trim" (.cons (.var 2) .nil))) .nil))))) (.cons (.ret (.var 2)) .nil)))
/-- _law_common: one other; calls _law_primitive _law_rest -/
def m_f_law_common : MSs := (.cons (.par2 0 1 (.cons (.call "_law_primitive" (.cons (.var 0) .nil)) (.cons (.call "_law_primitive" (.cons (.var 1) .nil)) .nil))) (.cons (.whl (.cmp .NotEq (.var 1) (.lst .nil)) (.cons (.par2 0 1 (.cons (.var 1) (.cons (.call "_law_primitive" (.cons (.call "_law_rest" (.cons (.var 0) (.cons (.var 1) .nil))) .nil)) .nil))) .nil)) (.cons (.ret (.var 0)) .nil)))
/-- _law_caught: box word one other by_name e; calls _law_take common divides quotient pseudo_rest -/
def m_f_law_caught_v4 : MSs := (.cons (.asg (.name 4) (.cmp .Eq (.call "_law_take" (.cons (.var 0) (.cons (.int 2) .nil))) (.int 1))) (.cons (.tryy (.cons (.ifs (.cmp .Eq (.var 1) (.str "common")) (.cons (.ret (.tup (.cons (.str "told") (.cons (.ifx (.var 4) (.callk "common" .nil ["other", "one"] (.cons (.var 3) (.cons (.var 2) .nil))) (.call "common" (.cons (.var 2) (.cons (.var 3) .nil)))) .nil)))) .nil) .nil) (.cons (.ifs (.cmp .Eq (.var 1) (.str "divides")) (.cons (.ret (.tup (.cons (.str "told") (.cons (.ifx (.var 4) (.callk "divides" .nil ["other", "one"] (.cons (.var 3) (.cons (.var 2) .nil))) (.call "divides" (.cons (.var 2) (.cons (.var 3) .nil)))) .nil)))) .nil) .nil) (.cons (.ifs (.cmp .Eq (.var 1) (.str "quotient")) (.cons (.ret (.tup (.cons (.str "told") (.cons (.ifx (.var 4) (.callk "quotient" .nil ["other", "one"] (.cons (.var 3) (.cons (.var 2) .nil))) (.call "quotient" (.cons (.var 2) (.cons (.var 3) .nil)))) .nil)))) .nil) .nil) (.cons (.ret (.tup (.cons (.str "told") (.cons (.ifx (.var 4) (.callk "pseudo_rest" .nil ["other", "one"] (.cons (.var 3) (.cons (.var 2) .nil))) (.call "pseudo_rest" (.cons (.var 2) (.cons (.var 3) .nil)))) .nil)))) .nil)))) [⟨"InvalidPolynomial", some 5, (.tup (.cons (.str "polynomial") (.cons (.exf 5 "given") .nil)))⟩, ⟨"DividedByZero", none, (.tup (.cons (.str "zero") (.cons .non .nil)))⟩]) .nil))
/-- _law_quotient: one other at left found k; calls _law_trim -/
def m_f_law_quotient : MSs := (.cons (.par2 3 4 (.cons (.bi .list (.cons (.var 1) .nil)) (.cons (.bin .Mult (.lst (.cons (.int 0) .nil)) (.bi .max (.cons (.int 0) (.cons (.bin .Add (.bin .Sub (.bi .len (.cons (.var 1) .nil)) (.bi .len (.cons (.var 0) .nil))) (.int 1)) .nil)))) .nil))) (.cons (.forr (.name 2) (.range (.cons (.bin .Sub (.bi .len (.cons (.var 4) .nil)) (.int 1)) (.cons (.neg (.int 1)) (.cons (.neg (.int 1)) .nil)))) (.cons (.ifs (.cmp .NotEq (.bin .Mod (.bi .int (.cons (.ix (.var 3) (.bin .Sub (.bin .Add (.var 2) (.bi .len (.cons (.var 0) .nil))) (.int 1))) .nil)) (.ix (.var 0) (.neg (.int 1)))) (.int 0)) (.cons (.ret .non) .nil) .nil) (.cons (.asg (.sub (.var 4) (.var 2)) (.bin .FloorDiv (.ix (.var 3) (.bin .Sub (.bin .Add (.var 2) (.bi .len (.cons (.var 0) .nil))) (.int 1))) (.ix (.var 0) (.neg (.int 1))))) (.cons (.forr (.name 5) (.range (.cons (.bi .len (.cons (.var 0) .nil)) .nil)) (.cons (.asg (.sub (.var 3) (.bin .Add (.var 2) (.var 5))) (.bin .Sub (.ix (.var 3) (.bin .Add (.var 2) (.var 5))) (.bin .Mult (.ix (.var 4) (.var 2)) (.ix (.var 0) (.var 5))))) .nil)) .nil)))) (.cons (.ret (.ifx (.cmp .Eq (.call "_law_trim" (.cons (.var 3) .nil)) (.lst .nil)) (.bi .tuple (.cons (.call "_law_trim" (.cons (.var 4) .nil)) .nil)) .non)) .nil)))
/-- _law_pseudo: one other left at head k x; calls _law_trim -/
def m_f_law_pseudo : MSs := (.cons (.ifs (.cmp .Lt (.bi .len (.cons (.var 0) .nil)) (.bi .len (.cons (.var 1) .nil))) (.cons (.ret (.bi .tuple (.cons (.var 0) .nil))) .nil) .nil) (.cons (.asg (.name 2) (.bi .list (.cons (.var 0) .nil))) (.cons (.forr (.name 3) (.range (.cons (.bin .Sub (.bi .len (.cons (.var 0) .nil)) (.bi .len (.cons (.var 1) .nil))) (.cons (.neg (.int 1)) (.cons (.neg (.int 1)) .nil)))) (.cons (.asg (.name 4) (.ix (.var 2) (.bin .Sub (.bin .Add (.var 3) (.bi .len (.cons (.var 1) .nil))) (.int 1)))) (.cons (.asg (.name 2) (.lc [("x", 6)] (.name 6) (.seq (.var 2)) .none (.bin .Mult (.var 6) (.ix (.var 1) (.neg (.int 1)))))) (.cons (.forr (.name 5) (.range (.cons (.bi .len (.cons (.var 1) .nil)) .nil)) (.cons (.asg (.sub (.var 2) (.bin .Add (.var 3) (.var 5))) (.bin .Sub (.ix (.var 2) (.bin .Add (.var 3) (.var 5))) (.bin .Mult (.var 4) (.ix (.var 1) (.var 5))))) .nil)) .nil)))) (.cons (.ret (.bi .tuple (.cons (.call "_law_trim" (.cons (.var 2) .nil)) .nil))) .nil))))
/-- _law_pair_right: box one other content due turn rest parts a b part told x; calls _law_gcd _law_content _law_common _law_same _law_caught _law_quotient _law_pseudo -/
def m_f_law_pair_right_v2 : MSs := (.cons (.par2 8 9 (.cons (.bi .list (.cons (.var 1) .nil)) (.cons (.bi .list (.cons (.var 2) .nil)) .nil))) (.cons (.asg (.name 3) (.call "_law_gcd" (.cons (.call "_law_content" (.cons (.var 8) .nil)) (.cons (.call "_law_content" (.cons (.var 9) .nil)) .nil)))) (.cons (.asg (.name 4) (.bi .tuple (.cons (.lc [("x", 12)] (.name 12) (.seq (.call "_law_common" (.cons (.var 8) (.cons (.var 9) .nil)))) .none (.bin .Mult (.var 3) (.var 12))) .nil))) (.cons (.forr (.name 5) (.range (.cons (.int 2) .nil)) (.cons (.ifs (.not (.call "_law_same" (.cons (.call "_law_caught" (.cons (.var 0) (.cons (.str "common") (.cons (.var 1) (.cons (.var 2) .nil))))) (.cons (.tup (.cons (.str "told") (.cons (.var 4) .nil))) .nil)))) (.cons (.ret (.bl false)) .nil) .nil) .nil)) (.cons (.ifs (.cmp .Eq (.var 1) (.tup .nil)) (.cons (.ifs (.not (.call "_law_same" (.cons (.call "_law_caught" (.cons (.var 0) (.cons (.str "divides") (.cons (.var 1) (.cons (.var 2) .nil))))) (.cons (.tup (.cons (.str "told") (.cons (.cmp .Eq (.var 2) (.tup .nil)) .nil))) .nil)))) (.cons (.ret (.bl false)) .nil) .nil) (.cons (.ifs (.not (.call "_law_same" (.cons (.call "_law_caught" (.cons (.var 0) (.cons (.str "quotient") (.cons (.var 1) (.cons (.var 2) .nil))))) (.cons (.tup (.cons (.str "zero") (.cons .non .nil))) .nil)))) (.cons (.ret (.bl false)) .nil) .nil) .nil)) (.cons (.asg (.name 10) (.call "_law_quotient" (.cons (.var 8) (.cons (.var 9) .nil)))) (.cons (.asg (.name 11) (.lst (.cons (.call "_law_caught" (.cons (.var 0) (.cons (.str "divides") (.cons (.var 1) (.cons (.var 2) .nil))))) (.cons (.call "_law_caught" (.cons (.var 0) (.cons (.str "quotient") (.cons (.var 1) (.cons (.var 2) .nil))))) .nil)))) (.cons (.ifs (.not (.call "_law_same" (.cons (.var 11) (.cons (.lst (.cons (.tup (.cons (.str "told") (.cons (.cmp .IsNot (.var 10) .non) .nil))) (.cons (.tup (.cons (.str "told") (.cons (.var 10) .nil))) .nil))) .nil)))) (.cons (.ret (.bl false)) .nil) .nil) .nil)))) (.cons (.asg (.name 6) (.ifx (.cmp .Eq (.var 2) (.tup .nil)) (.tup (.cons (.str "zero") (.cons .non .nil))) (.tup (.cons (.str "told") (.cons (.call "_law_pseudo" (.cons (.var 8) (.cons (.var 9) .nil))) .nil))))) (.cons (.ifs (.not (.call "_law_same" (.cons (.call "_law_caught" (.cons (.var 0) (.cons (.str "pseudo") (.cons (.var 1) (.cons (.var 2) .nil))))) (.cons (.var 6) .nil)))) (.cons (.ret (.bl false)) .nil) .nil) (.cons (.ifs (.cmp .Eq (.var 4) (.tup .nil)) (.cons (.ret (.bl true)) .nil) .nil) (.cons (.asg (.name 7) (.lst (.cons (.call "_law_quotient" (.cons (.bi .list (.cons (.var 4) .nil)) (.cons (.var 8) .nil))) (.cons (.call "_law_quotient" (.cons (.bi .list (.cons (.var 4) .nil)) (.cons (.var 9) .nil))) .nil)))) (.cons (.ifs (.cmp .In .non (.var 7)) (.cons (.ret (.bl false)) .nil) .nil) (.cons (.ret (.call "_law_same" (.cons (.call "_law_caught" (.cons (.var 0) (.cons (.str "common") (.cons (.ix (.var 7) (.int 0)) (.cons (.ix (.var 7) (.int 1)) .nil))))) (.cons (.tup (.cons (.str "told") (.cons (.tup (.cons (.int 1) .nil)) .nil))) .nil)))) .nil)))))))))))
/-- _law_pair: box one other way more by x; calls _law_one _law_take _law_trim _law_times -/
def m_f_law_pair_v2 : MSs := (.cons (.par3 1 2 3 (.cons (.call "_law_one" (.cons (.var 0) .nil)) (.cons (.call "_law_one" (.cons (.var 0) .nil)) (.cons (.call "_law_take" (.cons (.var 0) (.cons (.int 6) .nil))) .nil)))) (.cons (.ifs (.cmp .Lt (.var 3) (.int 3)) (.cons (.asg (.name 4) (.slc (.call "_law_one" (.cons (.var 0) .nil)) .none (.some (.int 4)))) (.cons (.asg (.name 4) (.bi .tuple (.cons (.call "_law_trim" (.cons (.var 4) .nil)) .nil))) (.cons (.par2 1 2 (.cons (.bi .tuple (.cons (.call "_law_times" (.cons (.bi .list (.cons (.slc (.var 1) .none (.some (.int 6))) .nil)) (.cons (.bi .list (.cons (.var 4) .nil)) .nil))) .nil)) (.cons (.bi .tuple (.cons (.call "_law_times" (.cons (.bi .list (.cons (.slc (.var 2) .none (.some (.int 5))) .nil)) (.cons (.bi .list (.cons (.var 4) .nil)) .nil))) .nil)) .nil))) .nil))) (.cons (.ifs (.cmp .Eq (.var 3) (.int 3)) (.cons (.asg (.name 2) (.bi .tuple (.cons (.call "_law_times" (.cons (.bi .list (.cons (.var 1) .nil)) (.cons (.bi .list (.cons (.slc (.var 2) .none (.some (.int 4))) .nil)) .nil))) .nil))) .nil) (.cons (.ifs (.cmp .Eq (.var 3) (.int 4)) (.cons (.asg (.name 5) (.bin .Add (.int 2) (.call "_law_take" (.cons (.var 0) (.cons (.int 5) .nil))))) (.cons (.par2 1 2 (.cons (.bi .tuple (.cons (.lc [("x", 6)] (.name 6) (.seq (.var 1)) .none (.bin .Mult (.var 5) (.var 6))) .nil)) (.cons (.bi .tuple (.cons (.lc [("x", 6)] (.name 6) (.seq (.var 2)) .none (.bin .Mult (.var 5) (.var 6))) .nil)) .nil))) .nil)) .nil) .nil)) .nil)) (.cons (.ret (.lst (.cons (.bi .tuple (.cons (.call "_law_trim" (.cons (.var 1) .nil)) .nil)) (.cons (.bi .tuple (.cons (.call "_law_trim" (.cons (.var 2) .nil)) .nil)) .nil)))) .nil)))
/-- law: script k box bad one other first second word; calls _law_box _law_cell _law_pair _law_pair_right _law_bad_ones _law_very _law_caught _law_handed -/
def m_law_v7 : MSs := (.cons (.forr (.name 1) (.range (.cons (.bi .max (.cons (.int 3) (.cons (.bi .min (.cons (.int 6) (.cons (.bi .len (.cons (.var 0) .nil)) .nil))) .nil))) .nil)) (.cons (.asg (.name 2) (.call "_law_box" (.cons (.call "_law_cell" (.cons (.var 0) (.cons (.var 1) .nil))) .nil))) (.cons (.asg (.tup (.cons (.name 4) (.cons (.name 5) .nil))) (.call "_law_pair" (.cons (.var 2) .nil))) (.cons (.forr (.tup (.cons (.name 6) (.cons (.name 7) .nil))) (.seq (.lst (.cons (.tup (.cons (.var 4) (.cons (.var 5) .nil))) (.cons (.tup (.cons (.var 5) (.cons (.var 4) .nil))) (.cons (.tup (.cons (.var 4) (.cons (.tup .nil) .nil))) (.cons (.tup (.cons (.tup .nil) (.cons (.var 5) .nil))) (.cons (.tup (.cons (.tup .nil) (.cons (.tup .nil) .nil))) (.cons (.call "_law_pair" (.cons (.var 2) .nil)) .nil)))))))) (.cons (.ifs (.not (.call "_law_pair_right" (.cons (.var 2) (.cons (.var 6) (.cons (.var 7) .nil))))) (.cons (.ret (.bl false)) .nil) .nil) .nil)) (.cons (.forr (.name 3) (.seq (.call "_law_bad_ones" .nil)) (.cons (.forr (.name 8) (.seq (.lst (.cons (.str "common") (.cons (.str "divides") (.cons (.str "quotient") (.cons (.str "pseudo") .nil)))))) (.cons (.forr (.tup (.cons (.name 6) (.cons (.name 7) .nil))) (.seq (.lst (.cons (.tup (.cons (.var 3) (.cons .non .nil))) (.cons (.tup (.cons (.var 3) (.cons (.var 5) .nil))) (.cons (.tup (.cons (.var 4) (.cons (.var 3) .nil))) .nil))))) (.cons (.ifs (.not (.call "_law_very" (.cons (.call "_law_caught" (.cons (.var 2) (.cons (.var 8) (.cons (.call "_law_handed" (.cons (.var 6) .nil)) (.cons (.call "_law_handed" (.cons (.var 7) .nil)) .nil))))) (.cons (.str "polynomial") (.cons (.var 3) .nil))))) (.cons (.ret (.bl false)) .nil) .nil) .nil)) .nil)) .nil)) .nil))))) (.cons (.ret (.bl true)) .nil))
end DL.LW

set_option Elab.async false
set_option linter.all false
set_option maxRecDepth 100000
set_option maxHeartbeats 4000000
namespace DL.LW
open PySem PySem.Spec PyProof.Rows L2 DL
def topS (i : Nat) : Stmt := PySem.Challenge.pw_polybench_k04_common_divisors_of_integer.main.body.getD i (.Pass ⟨0, 0, 0, 0⟩)
theorem sc_is_integer : FnScope ["value"] ["value"] (defScope (topS 6)) := ⟨rfl, rfl, rfl, by decide +kernel, rfl, by decide +kernel, by decide +kernel⟩
theorem ck_is_integer : chSs ⟨["value"], defScope (topS 6), defScope (topS 6), false, 1⟩ m_is_integer (defBody (topS 6)) = true := by decide +kernel
theorem sc_is_integer_polynomial : FnScope ["value", "item"] ["value"] (defScope (topS 8)) := ⟨rfl, rfl, rfl, by decide +kernel, rfl, by decide +kernel, by decide +kernel⟩
theorem ck_is_integer_polynomial : chSs ⟨["value", "item"], defScope (topS 8), defScope (topS 8), false, 1⟩ m_is_integer_polynomial (defBody (topS 8)) = true := by decide +kernel
theorem sc_check_polynomial : FnScope ["value"] ["value"] (defScope (topS 9)) := ⟨rfl, rfl, rfl, by decide +kernel, rfl, by decide +kernel, by decide +kernel⟩
theorem ck_check_polynomial : chSs ⟨["value"], defScope (topS 9), defScope (topS 9), false, 1⟩ m_check_polynomial (defBody (topS 9)) = true := by decide +kernel
theorem sc_trimmed : FnScope ["items", "many"] ["items"] (defScope (topS 10)) := ⟨rfl, rfl, rfl, by decide +kernel, rfl, by decide +kernel, by decide +kernel⟩
theorem ck_trimmed : chSs ⟨["items", "many"], defScope (topS 10), defScope (topS 10), false, 1⟩ m_trimmed (defBody (topS 10)) = true := by decide +kernel
theorem sc_multiple_of : FnScope ["one", "number", "item"] ["one", "number"] (defScope (topS 11)) := ⟨rfl, rfl, rfl, by decide +kernel, rfl, by decide +kernel, by decide +kernel⟩
theorem ck_multiple_of : chSs ⟨["one", "number", "item"], defScope (topS 11), defScope (topS 11), false, 1⟩ m_multiple_of (defBody (topS 11)) = true := by decide +kernel
theorem sc_degree_of : FnScope ["one"] ["one"] (defScope (topS 12)) := ⟨rfl, rfl, rfl, by decide +kernel, rfl, by decide +kernel, by decide +kernel⟩
theorem ck_degree_of : chSs ⟨["one"], defScope (topS 12), defScope (topS 12), false, 1⟩ m_degree_of (defBody (topS 12)) = true := by decide +kernel
theorem sc_content_of : FnScope ["one", "found", "item"] ["one"] (defScope (topS 13)) := ⟨rfl, rfl, rfl, by decide +kernel, rfl, by decide +kernel, by decide +kernel⟩
theorem ck_content_of : chSs ⟨["one", "found", "item"], defScope (topS 13), defScope (topS 13), false, 1⟩ m_content_of (defBody (topS 13)) = true := by decide +kernel
theorem sc_primitive_of : FnScope ["one", "factor", "item"] ["one"] (defScope (topS 14)) := ⟨rfl, rfl, rfl, by decide +kernel, rfl, by decide +kernel, by decide +kernel⟩
theorem ck_primitive_of : chSs ⟨["one", "factor", "item"], defScope (topS 14), defScope (topS 14), false, 1⟩ m_primitive_of (defBody (topS 14)) = true := by decide +kernel
theorem sc_quotient_of : FnScope ["one", "other", "place", "left", "found", "top", "more", "item"] ["one", "other"] (defScope (topS 16)) := ⟨rfl, rfl, rfl, by decide +kernel, rfl, by decide +kernel, by decide +kernel⟩
theorem ck_quotient_of : chSs ⟨["one", "other", "place", "left", "found", "top", "more", "item"], defScope (topS 16), defScope (topS 16), false, 1⟩ m_quotient_of (defBody (topS 16)) = true := by decide +kernel
theorem sc_pseudo_rest_of : FnScope ["one", "other", "left", "place", "top", "more", "item"] ["one", "other"] (defScope (topS 17)) := ⟨rfl, rfl, rfl, by decide +kernel, rfl, by decide +kernel, by decide +kernel⟩
theorem ck_pseudo_rest_of : chSs ⟨["one", "other", "left", "place", "top", "more", "item"], defScope (topS 17), defScope (topS 17), false, 1⟩ m_pseudo_rest_of (defBody (topS 17)) = true := by decide +kernel
theorem sc_common_primitive : FnScope ["one", "other", "first", "second"] ["one", "other"] (defScope (topS 18)) := ⟨rfl, rfl, rfl, by decide +kernel, rfl, by decide +kernel, by decide +kernel⟩
theorem ck_common_primitive : chSs ⟨["one", "other", "first", "second"], defScope (topS 18), defScope (topS 18), false, 1⟩ m_common_primitive (defBody (topS 18)) = true := by decide +kernel
theorem sc_common_of : FnScope ["one", "other"] ["one", "other"] (defScope (topS 19)) := ⟨rfl, rfl, rfl, by decide +kernel, rfl, by decide +kernel, by decide +kernel⟩
theorem ck_common_of : chSs ⟨["one", "other"], defScope (topS 19), defScope (topS 19), false, 1⟩ m_common_of_v2 (defBody (topS 19)) = true := by decide +kernel
theorem sc_common : FnScope ["one", "other"] ["one", "other"] (defScope (topS 20)) := ⟨rfl, rfl, rfl, by decide +kernel, rfl, by decide +kernel, by decide +kernel⟩
theorem ck_common : chSs ⟨["one", "other"], defScope (topS 20), defScope (topS 20), false, 1⟩ m_common (defBody (topS 20)) = true := by decide +kernel
theorem sc_divides : FnScope ["one", "other"] ["one", "other"] (defScope (topS 21)) := ⟨rfl, rfl, rfl, by decide +kernel, rfl, by decide +kernel, by decide +kernel⟩
theorem ck_divides : chSs ⟨["one", "other"], defScope (topS 21), defScope (topS 21), false, 1⟩ m_divides (defBody (topS 21)) = true := by decide +kernel
theorem sc_quotient : FnScope ["one", "other"] ["one", "other"] (defScope (topS 22)) := ⟨rfl, rfl, rfl, by decide +kernel, rfl, by decide +kernel, by decide +kernel⟩
theorem ck_quotient : chSs ⟨["one", "other"], defScope (topS 22), defScope (topS 22), false, 1⟩ m_quotient (defBody (topS 22)) = true := by decide +kernel
theorem sc_pseudo_rest : FnScope ["one", "other"] ["one", "other"] (defScope (topS 23)) := ⟨rfl, rfl, rfl, by decide +kernel, rfl, by decide +kernel, by decide +kernel⟩
theorem ck_pseudo_rest : chSs ⟨["one", "other"], defScope (topS 23), defScope (topS 23), false, 1⟩ m_pseudo_rest (defBody (topS 23)) = true := by decide +kernel
theorem sc_f_law_cell : FnScope ["script", "k"] ["script", "k"] (defScope (topS 25)) := ⟨rfl, rfl, rfl, by decide +kernel, rfl, by decide +kernel, by decide +kernel⟩
theorem ck_f_law_cell : chSs ⟨["script", "k"], defScope (topS 25), defScope (topS 25), false, 1⟩ m_f_law_cell (defBody (topS 25)) = true := by decide +kernel
theorem sc_f_law_box : FnScope ["great"] ["great"] (defScope (topS 26)) := ⟨rfl, rfl, rfl, by decide +kernel, rfl, by decide +kernel, by decide +kernel⟩
theorem ck_f_law_box : chSs ⟨["great"], defScope (topS 26), defScope (topS 26), false, 1⟩ m_f_law_box (defBody (topS 26)) = true := by decide +kernel
theorem sc_f_law_take : FnScope ["box", "many", "mixed", "digit"] ["box", "many"] (defScope (topS 27)) := ⟨rfl, rfl, rfl, by decide +kernel, rfl, by decide +kernel, by decide +kernel⟩
theorem ck_f_law_take : chSs ⟨["box", "many", "mixed", "digit"], defScope (topS 27), defScope (topS 27), false, 1⟩ m_f_law_take (defBody (topS 27)) = true := by decide +kernel
theorem sc_f_law_same : FnScope ["told", "due", "k"] ["told", "due"] (defScope (topS 28)) := ⟨rfl, rfl, rfl, by decide +kernel, rfl, by decide +kernel, by decide +kernel⟩
theorem ck_f_law_same : chSs ⟨["told", "due", "k"], defScope (topS 28), defScope (topS 28), false, 1⟩ m_f_law_same (defBody (topS 28)) = true := by decide +kernel
theorem sc_f_law_gcd : FnScope ["a", "b"] ["a", "b"] (defScope (topS 29)) := ⟨rfl, rfl, rfl, by decide +kernel, rfl, by decide +kernel, by decide +kernel⟩
theorem ck_f_law_gcd : chSs ⟨["a", "b"], defScope (topS 29), defScope (topS 29), false, 1⟩ m_f_law_gcd (defBody (topS 29)) = true := by decide +kernel
theorem sc_f_law_trim : FnScope ["items", "found"] ["items"] (defScope (topS 30)) := ⟨rfl, rfl, rfl, by decide +kernel, rfl, by decide +kernel, by decide +kernel⟩
theorem ck_f_law_trim : chSs ⟨["items", "found"], defScope (topS 30), defScope (topS 30), false, 1⟩ m_f_law_trim (defBody (topS 30)) = true := by decide +kernel
theorem sc_f_law_times : FnScope ["one", "other", "found", "i", "j"] ["one", "other"] (defScope (topS 31)) := ⟨rfl, rfl, rfl, by decide +kernel, rfl, by decide +kernel, by decide +kernel⟩
theorem ck_f_law_times : chSs ⟨["one", "other", "found", "i", "j"], defScope (topS 31), defScope (topS 31), false, 1⟩ m_f_law_times (defBody (topS 31)) = true := by decide +kernel
theorem sc_f_law_plus : FnScope ["one", "other", "many", "k"] ["one", "other"] (defScope (topS 32)) := ⟨rfl, rfl, rfl, by decide +kernel, rfl, by decide +kernel, by decide +kernel⟩
theorem ck_f_law_plus : chSs ⟨["one", "other", "many", "k"], defScope (topS 32), defScope (topS 32), false, 1⟩ m_f_law_plus (defBody (topS 32)) = true := by decide +kernel
theorem sc_f_law_content : FnScope ["one", "found", "item"] ["one"] (defScope (topS 33)) := ⟨rfl, rfl, rfl, by decide +kernel, rfl, by decide +kernel, by decide +kernel⟩
theorem ck_f_law_content : chSs ⟨["one", "found", "item"], defScope (topS 33), defScope (topS 33), false, 1⟩ m_f_law_content (defBody (topS 33)) = true := by decide +kernel
theorem sc_f_law_primitive : FnScope ["one", "by", "item"] ["one"] (defScope (topS 34)) := ⟨rfl, rfl, rfl, by decide +kernel, rfl, by decide +kernel, by decide +kernel⟩
theorem ck_f_law_primitive : chSs ⟨["one", "by", "item"], defScope (topS 34), defScope (topS 34), false, 1⟩ m_f_law_primitive (defBody (topS 34)) = true := by decide +kernel
theorem sc_f_law_rest : FnScope ["one", "other", "found", "k", "head", "at", "item"] ["one", "other"] (defScope (topS 35)) := ⟨rfl, rfl, rfl, by decide +kernel, rfl, by decide +kernel, by decide +kernel⟩
theorem ck_f_law_rest : chSs ⟨["one", "other", "found", "k", "head", "at", "item"], defScope (topS 35), defScope (topS 35), false, 1⟩ m_f_law_rest (defBody (topS 35)) = true := by decide +kernel
theorem sc_f_law_common : FnScope ["one", "other"] ["one", "other"] (defScope (topS 36)) := ⟨rfl, rfl, rfl, by decide +kernel, rfl, by decide +kernel, by decide +kernel⟩
theorem ck_f_law_common : chSs ⟨["one", "other"], defScope (topS 36), defScope (topS 36), false, 1⟩ m_f_law_common (defBody (topS 36)) = true := by decide +kernel
theorem sc_f_law_roots_made : FnScope ["box", "many", "found", "turn", "p", "q"] ["box", "many"] (defScope (topS 37)) := ⟨rfl, rfl, rfl, by decide +kernel, rfl, by decide +kernel, by decide +kernel⟩
theorem ck_f_law_roots_made : chSs ⟨["box", "many", "found", "turn", "p", "q"], defScope (topS 37), defScope (topS 37), false, 1⟩ m_f_law_roots_made (defBody (topS 37)) = true := by decide +kernel
theorem sc_f_law_drawn : FnScope ["box", "most", "wide", "any_one", "way", "many", "low", "one", "other", "found", "turn", "half", "k"] ["box", "most"] (defScope (topS 38)) := ⟨rfl, rfl, rfl, by decide +kernel, rfl, by decide +kernel, by decide +kernel⟩
theorem ck_f_law_drawn : chSs ⟨["box", "most", "wide", "any_one", "way", "many", "low", "one", "other", "found", "turn", "half", "k"], defScope (topS 38), defScope (topS 38), false, 1⟩ m_f_law_drawn (defBody (topS 38)) = true := by decide +kernel
theorem sc_f_law_very : FnScope ["told", "word", "value"] ["told", "word", "value"] (defScope (topS 39)) := ⟨rfl, rfl, rfl, by decide +kernel, rfl, by decide +kernel, by decide +kernel⟩
theorem ck_f_law_very : chSs ⟨["told", "word", "value"], defScope (topS 39), defScope (topS 39), false, 1⟩ m_f_law_very (defBody (topS 39)) = true := by decide +kernel
theorem sc_f_law_one : FnScope ["box", "way"] ["box"] (defScope (topS 40)) := ⟨rfl, rfl, rfl, by decide +kernel, rfl, by decide +kernel, by decide +kernel⟩
theorem ck_f_law_one : chSs ⟨["box", "way"], defScope (topS 40), defScope (topS 40), false, 1⟩ m_f_law_one (defBody (topS 40)) = true := by decide +kernel
theorem sc_f_law_bad_ones : FnScope [] [] (defScope (topS 41)) := ⟨rfl, rfl, rfl, by decide +kernel, rfl, by decide +kernel, by decide +kernel⟩
theorem ck_f_law_bad_ones : chSs ⟨[], defScope (topS 41), defScope (topS 41), false, 1⟩ m_f_law_bad_ones (defBody (topS 41)) = true := by decide +kernel
theorem sc_f_law_handed : FnScope ["value", "item"] ["value"] (defScope (topS 42)) := ⟨rfl, rfl, rfl, by decide +kernel, rfl, by decide +kernel, by decide +kernel⟩
theorem ck_f_law_handed : chSs ⟨["value", "item"], defScope (topS 42), defScope (topS 42), false, 1⟩ m_f_law_handed (defBody (topS 42)) = true := by decide +kernel
theorem sc_f_law_caught : FnScope ["box", "word", "one", "other", "by_name", "e"] ["box", "word", "one", "other"] (defScope (topS 43)) := ⟨rfl, rfl, rfl, by decide +kernel, rfl, by decide +kernel, by decide +kernel⟩
theorem ck_f_law_caught : chSs ⟨["box", "word", "one", "other", "by_name", "e"], defScope (topS 43), defScope (topS 43), false, 1⟩ m_f_law_caught_v4 (defBody (topS 43)) = true := by decide +kernel
theorem sc_f_law_quotient : FnScope ["one", "other", "at", "left", "found", "k"] ["one", "other"] (defScope (topS 44)) := ⟨rfl, rfl, rfl, by decide +kernel, rfl, by decide +kernel, by decide +kernel⟩
theorem ck_f_law_quotient : chSs ⟨["one", "other", "at", "left", "found", "k"], defScope (topS 44), defScope (topS 44), false, 1⟩ m_f_law_quotient (defBody (topS 44)) = true := by decide +kernel
theorem sc_f_law_pseudo : FnScope ["one", "other", "left", "at", "head", "k", "x"] ["one", "other"] (defScope (topS 45)) := ⟨rfl, rfl, rfl, by decide +kernel, rfl, by decide +kernel, by decide +kernel⟩
theorem ck_f_law_pseudo : chSs ⟨["one", "other", "left", "at", "head", "k", "x"], defScope (topS 45), defScope (topS 45), false, 1⟩ m_f_law_pseudo (defBody (topS 45)) = true := by decide +kernel
theorem sc_f_law_pair_right : FnScope ["box", "one", "other", "content", "due", "turn", "rest", "parts", "a", "b", "part", "told", "x"] ["box", "one", "other"] (defScope (topS 46)) := ⟨rfl, rfl, rfl, by decide +kernel, rfl, by decide +kernel, by decide +kernel⟩
theorem ck_f_law_pair_right : chSs ⟨["box", "one", "other", "content", "due", "turn", "rest", "parts", "a", "b", "part", "told", "x"], defScope (topS 46), defScope (topS 46), false, 1⟩ m_f_law_pair_right_v2 (defBody (topS 46)) = true := by decide +kernel
theorem sc_f_law_pair : FnScope ["box", "one", "other", "way", "more", "by", "x"] ["box"] (defScope (topS 47)) := ⟨rfl, rfl, rfl, by decide +kernel, rfl, by decide +kernel, by decide +kernel⟩
theorem ck_f_law_pair : chSs ⟨["box", "one", "other", "way", "more", "by", "x"], defScope (topS 47), defScope (topS 47), false, 1⟩ m_f_law_pair_v2 (defBody (topS 47)) = true := by decide +kernel
theorem sc_law : FnScope ["script", "k", "box", "bad", "one", "other", "first", "second", "word"] ["script"] (defScope (topS 48)) := ⟨rfl, rfl, rfl, by decide +kernel, rfl, by decide +kernel, by decide +kernel⟩
theorem ck_law : chSs ⟨["script", "k", "box", "bad", "one", "other", "first", "second", "word"], defScope (topS 48), defScope (topS 48), false, 1⟩ m_law_v7 (defBody (topS 48)) = true := by decide +kernel
end DL.LW

set_option Elab.async false
set_option linter.all false
/-! PS: sums, series over a commutative ring, lists of coefficients. -/
namespace PM
open Lean.Grind
section
variable {R : Type} [CommRing R]
/-- the sum of f 0 .. f (n - 1) -/
def sm : Nat → (Nat → R) → R
  | 0, _ => 0
  | n + 1, f => sm n f + f n
theorem sm_succ {n : Nat} {f : Nat → R} : sm (n + 1) f = sm n f + f n := rfl
theorem sm_congr : ∀ {n : Nat} {f g : Nat → R}, (∀ i, i < n → f i = g i) → sm n f = sm n g
  | 0, _, _, _ => rfl
  | n + 1, f, g, h => by
    rw [sm_succ, sm_succ, sm_congr (n := n) fun i hi => h i (by omega), h n (by omega)]
theorem sm_zero : ∀ {n : Nat} {f : Nat → R}, (∀ i, i < n → f i = 0) → sm n f = 0
  | 0, _, _ => rfl
  | n + 1, f, h => by
    rw [sm_succ, sm_zero (n := n) fun i hi => h i (by omega), h n (by omega)]; grind
theorem sm_add : ∀ {n : Nat} {f g : Nat → R}, sm n (fun i => f i + g i) = sm n f + sm n g
  | 0, _, _ => by show (0 : R) = 0 + 0; grind
  | n + 1, f, g => by
    rw [sm_succ, sm_succ, sm_succ, sm_add]; grind
theorem sm_neg : ∀ {n : Nat} {f : Nat → R}, sm n (fun i => - f i) = - sm n f
  | 0, _ => by show (0 : R) = -0; grind
  | n + 1, f => by rw [sm_succ, sm_succ, sm_neg]; grind
theorem sm_sub {n : Nat} {f g : Nat → R} : sm n (fun i => f i - g i) = sm n f - sm n g := by
  have : sm n (fun i => f i - g i) = sm n (fun i => f i + - g i) := sm_congr fun i _ => by grind
  rw [this, sm_add, sm_neg]; grind
theorem sm_mulL : ∀ {n : Nat} {f : Nat → R} (c : R), sm n (fun i => c * f i) = c * sm n f
  | 0, _, c => by show (0 : R) = c * 0; grind
  | n + 1, f, c => by rw [sm_succ, sm_succ, sm_mulL]; grind
theorem sm_mulR {n : Nat} {f : Nat → R} (c : R) : sm n (fun i => f i * c) = sm n f * c := by
  have : sm n (fun i => f i * c) = sm n (fun i => c * f i) := sm_congr fun i _ => by grind
  rw [this, sm_mulL]; grind
theorem sm_first : ∀ {n : Nat} {f : Nat → R}, sm (n + 1) f = f 0 + sm n (fun i => f (i + 1))
  | 0, f => by show (0 : R) + f 0 = f 0 + 0; grind
  | n + 1, f => by rw [sm_succ, sm_first, sm_succ]; grind
theorem sm_rev : ∀ {n : Nat} {f : Nat → R}, sm n (fun i => f (n - 1 - i)) = sm n f
  | 0, _ => rfl
  | n + 1, f => by
    rw [sm_first, sm_succ]
    have e : sm n (fun i => f (n + 1 - 1 - (i + 1))) = sm n (fun i => f (n - 1 - i)) := sm_congr fun i hi => by rw [show n + 1 - 1 - (i + 1) = n - 1 - i by omega]
    rw [e, sm_rev, show n + 1 - 1 - 0 = n by omega]; grind
/-- more turns that add nothing -/
theorem sm_more {m : Nat} {f : Nat → R} : ∀ {n : Nat}, (∀ i, m ≤ i → i < m + n → f i = 0) → sm (m + n) f = sm m f
  | 0, _ => rfl
  | n + 1, h => by
    rw [show m + (n + 1) = (m + n) + 1 by omega, sm_succ, sm_more (n := n) fun i a b => h i a (by omega), h (m + n) (by omega) (by omega)]; grind
theorem sm_upto {m n : Nat} {f : Nat → R} (h : m ≤ n) (hz : ∀ i, m ≤ i → i < n → f i = 0) : sm n f = sm m f := by
  obtain ⟨k, rfl⟩ : ∃ k, n = m + k := ⟨n - m, by omega⟩
  exact sm_more hz
/-- the one that counts -/
theorem sm_one {n k : Nat} {f : Nat → R} (hk : k < n) (h : ∀ i, i < n → i ≠ k → f i = 0) : sm n f = f k := by
  rw [sm_upto (m := k + 1) (by omega) fun i a b => h i b (by omega), sm_succ, sm_zero fun i hi => h i (by omega) (by omega)]; grind
theorem sm_add_n {m : Nat} {f : Nat → R} : ∀ {n : Nat}, sm (m + n) f = sm m f + sm n (fun i => f (m + i))
  | 0 => by show sm m f = sm m f + 0; grind
  | n + 1 => by
    rw [show m + (n + 1) = (m + n) + 1 by omega, sm_succ, sm_add_n (n := n), sm_succ]; grind
theorem sm_tri (F : Nat → Nat → R) : ∀ n : Nat, sm n (fun i => sm (i + 1) (fun j => F j (i - j))) = sm n (fun j => sm (n - j) (fun l => F j l))
  | 0 => rfl
  | n + 1 => by
    rw [sm_succ, sm_tri F n, sm_succ (f := fun j => sm (n + 1 - j) fun l => F j l)]
    have e : sm n (fun j => sm (n + 1 - j) (fun l => F j l)) = sm n (fun j => sm (n - j) (fun l => F j l) + F j (n - j)) := sm_congr fun j hj => by
      rw [show n + 1 - j = (n - j) + 1 by omega, sm_succ]
    rw [e, sm_add, show n + 1 - n = 1 by omega]
    have e1 : sm 1 (fun l => F n l) = F n 0 := by show (0 : R) + F n 0 = _; grind
    rw [e1, sm_succ (f := fun j => F j (n - j)), Nat.sub_self]; grind
theorem sm_swap (F : Nat → Nat → R) (m : Nat) : ∀ n : Nat, sm n (fun i => sm m (fun j => F i j)) = sm m (fun j => sm n (fun i => F i j))
  | 0 => (sm_zero fun _ _ => rfl).symm
  | n + 1 => by
    rw [sm_succ, sm_swap F m n, ← sm_add]
    rfl
end
/-- a series by its coefficients -/
@[ext] structure PS (R : Type) where
  c : Nat → R
namespace PS
section
variable {R : Type} [CommRing R]
def K (a : R) : PS R := ⟨fun k => if k = 0 then a else 0⟩
def mulc (f g : Nat → R) (k : Nat) : R := sm (k + 1) fun i => f i * g (k - i)
instance : Add (PS R) := ⟨fun f g => ⟨fun k => f.c k + g.c k⟩⟩
instance : Neg (PS R) := ⟨fun f => ⟨fun k => - f.c k⟩⟩
instance : Sub (PS R) := ⟨fun f g => ⟨fun k => f.c k - g.c k⟩⟩
instance : Mul (PS R) := ⟨fun f g => ⟨mulc f.c g.c⟩⟩
def nc (n : Nat) : R := (Semiring.natCast (α := R)).natCast n
def ic (n : Int) : R := (Ring.intCast (α := R)).intCast n
instance : NatCast (PS R) := ⟨fun n => K (nc n)⟩
instance : IntCast (PS R) := ⟨fun n => K (ic n)⟩
instance instO (n : Nat) : OfNat (PS R) n := ⟨K (OfNat.ofNat n : R)⟩
def pw (f : PS R) : Nat → PS R
  | 0 => K 1
  | n + 1 => pw f n * f
instance : HPow (PS R) Nat (PS R) := ⟨pw⟩
instance : SMul Nat (PS R) := ⟨fun n f => (n : PS R) * f⟩
instance : SMul Int (PS R) := ⟨fun n f => (n : PS R) * f⟩
theorem add_c (f g : PS R) (k : Nat) : (f + g).c k = f.c k + g.c k := rfl
theorem neg_c (f : PS R) (k : Nat) : (-f).c k = - f.c k := rfl
theorem sub_c (f g : PS R) (k : Nat) : (f - g).c k = f.c k - g.c k := rfl
theorem mul_c (f g : PS R) (k : Nat) : (f * g).c k = sm (k + 1) fun i => f.c i * g.c (k - i) := rfl
theorem K_c (a : R) (k : Nat) : (K a).c k = if k = 0 then a else 0 := rfl
theorem zero_c (k : Nat) : (0 : PS R).c k = 0 := by
  show (if k = 0 then (0 : R) else 0) = 0
  split <;> rfl
theorem one_c (k : Nat) : (1 : PS R).c k = if k = 0 then 1 else 0 := rfl
theorem ext' {f g : PS R} (h : ∀ k, f.c k = g.c k) : f = g := PS.ext (funext h)
theorem K_mul (a : R) (f : PS R) (k : Nat) : (K a * f).c k = a * f.c k := by
  rw [mul_c, sm_one (k := 0) (by omega) fun i hi h0 => by rw [K_c, if_neg h0]; grind]
  rw [K_c, if_pos rfl, Nat.sub_zero]
theorem mul_comm' (f g : PS R) : f * g = g * f := ext' fun k => by
  rw [mul_c, mul_c, ← sm_rev]
  refine sm_congr fun i hi => ?_
  show f.c (k + 1 - 1 - i) * g.c (k - (k + 1 - 1 - i)) = _
  rw [show k + 1 - 1 - i = k - i by omega, show k - (k - i) = i by omega]; grind
theorem mul_assoc' (f g h : PS R) : f * g * h = f * (g * h) := ext' fun k => by
  rw [mul_c, mul_c]
  have e1 : sm (k + 1) (fun i => (f * g).c i * h.c (k - i)) = sm (k + 1) (fun i => sm (i + 1) (fun j => (fun a b => f.c a * g.c b * h.c (k - a - b)) j (i - j))) := sm_congr fun i hi => by
    rw [mul_c, ← sm_mulR]
    refine sm_congr fun j hj => ?_
    show f.c j * g.c (i - j) * h.c (k - i) = f.c j * g.c (i - j) * h.c (k - j - (i - j))
    rw [show k - j - (i - j) = k - i by omega]
  refine (e1.trans (sm_tri (fun a b => f.c a * g.c b * h.c (k - a - b)) (k + 1))).trans ?_
  refine sm_congr fun j hj => ?_
  rw [mul_c, ← sm_mulL, show k + 1 - j = k - j + 1 by omega]
  refine sm_congr fun l hl => ?_
  show f.c j * g.c l * h.c (k - j - l) = f.c j * (g.c l * h.c (k - j - l))
  grind
theorem left_distrib' (f g h : PS R) : f * (g + h) = f * g + f * h := ext' fun k => by
  rw [add_c, mul_c, mul_c, mul_c, ← sm_add]
  exact sm_congr fun i hi => by rw [add_c]; grind
theorem K_add (a b : R) : K (a + b) = K a + K b := ext' fun k => by
  rw [add_c, K_c, K_c, K_c]; split <;> grind
theorem K_mulK (a b : R) : K (a * b) = K a * K b := ext' fun k => by
  rw [K_mul, K_c, K_c]; split <;> grind
theorem one_mul' (f : PS R) : 1 * f = f := ext' fun k => by
  show (K 1 * f).c k = _
  rw [K_mul]; grind
theorem zero_mul' (f : PS R) : 0 * f = 0 := ext' fun k => by
  show (K 0 * f).c k = _
  rw [K_mul, zero_c]; grind
instance : Semiring (PS R) where
  add_zero := fun f => ext' fun k => by rw [add_c, zero_c]; grind
  add_comm := fun f g => ext' fun k => by rw [add_c, add_c]; grind
  add_assoc := fun f g h => ext' fun k => by rw [add_c, add_c, add_c, add_c]; grind
  mul_assoc := mul_assoc'
  mul_one := fun f => by rw [mul_comm', one_mul']
  one_mul := one_mul'
  left_distrib := left_distrib'
  right_distrib := fun f g h => by rw [mul_comm', left_distrib', mul_comm' h, mul_comm' h]
  zero_mul := zero_mul'
  mul_zero := fun f => by rw [mul_comm', zero_mul']
  pow_zero := fun f => rfl
  pow_succ := fun f n => rfl
  ofNat_succ := fun n => by
    show K (OfNat.ofNat (n + 1) : R) = K (OfNat.ofNat n : R) + K 1
    rw [← K_add, Semiring.ofNat_succ]
  ofNat_eq_natCast := fun n => by
    show K (OfNat.ofNat n : R) = K (nc n)
    rw [Semiring.ofNat_eq_natCast]; rfl
  nsmul_eq_natCast_mul := fun n f => rfl
instance : Ring (PS R) where
  neg_add_cancel := fun f => ext' fun k => by rw [add_c, neg_c, zero_c]; grind
  sub_eq_add_neg := fun f g => ext' fun k => by rw [add_c, neg_c, sub_c]; grind
  neg_zsmul := fun i f => by
    show K (ic (-i)) * f = - (K (ic i) * f)
    refine ext' fun k => ?_
    rw [neg_c, K_mul, K_mul, show ic (-i) = -(ic i : R) from Ring.intCast_neg i]; grind
  zsmul_natCast_eq_nsmul := fun n f => by
    show K (ic (n : Int)) * f = K (nc n) * f
    rw [show ic (n : Int) = (nc n : R) from Ring.intCast_natCast n]
  intCast_ofNat := fun n => by
    show K (ic (OfNat.ofNat n : Int)) = K (OfNat.ofNat n : R)
    rw [show ic (OfNat.ofNat n : Int) = (OfNat.ofNat n : R) from Ring.intCast_ofNat n]
  intCast_neg := fun i => by
    show K (ic (-i)) = - K (ic i : R)
    refine ext' fun k => ?_
    rw [neg_c, K_c, K_c, show ic (-i) = -(ic i : R) from Ring.intCast_neg i]
    split <;> grind
instance : CommRing (PS R) where
  mul_comm := mul_comm'
example (a b : PS R) : (a + b) * (a - b) = a * a - b * b := by grind
end
end PS
end PM

set_option Elab.async false
set_option linter.all false
/-! PL: lists of coefficients: without zeros at the end, as series. -/
namespace PM
open Lean.Grind
/-- without the items at the end for which z -/
def trimP {α : Type} (z : α → Bool) (l : List α) : List α := (l.reverse.dropWhile z).reverse
section
variable {α : Type} {z : α → Bool}
theorem trimP_nil : trimP z [] = [] := rfl
theorem trimP_snoc {l : List α} {a : α} : trimP z (l ++ [a]) = if z a = true then trimP z l else l ++ [a] := by
  unfold trimP
  rw [List.reverse_append, List.reverse_singleton, List.singleton_append, List.dropWhile_cons]
  split
  · rfl
  · rw [List.reverse_cons, List.reverse_reverse]
theorem trimP_le (l : List α) : (trimP z l).length ≤ l.length := by
  unfold trimP
  rw [List.length_reverse]
  exact Nat.le_trans (List.dropWhile_sublist z).length_le (by simp)
theorem snoc_cases (l : List α) : l = [] ∨ ∃ m a, l = m ++ [a] := by
  cases h : l.reverse with
  | nil => exact .inl (by simpa using h)
  | cons a m => exact .inr ⟨m.reverse, a, by rw [← List.reverse_reverse l, h, List.reverse_cons]⟩
/-- there is no such item at the end -/
def Tr (z : α → Bool) (l : List α) : Prop := ∀ a, l.getLast? = some a → z a = false
theorem tr_trim (l : List α) : Tr z (trimP z l) := by
  generalize hn : l.length = n
  induction n generalizing l with
  | zero => rw [List.eq_nil_of_length_eq_zero hn]; intro a h; cases h
  | succ n ih =>
    rcases snoc_cases l with rfl | ⟨m, a, rfl⟩
    · cases hn
    · rw [trimP_snoc]
      split
      · exact ih m (by simpa using hn)
      · rename_i h
        intro b hb
        rw [List.getLast?_concat] at hb
        cases hb
        simpa using h
theorem trim_tr {l : List α} (h : Tr z l) : trimP z l = l := by
  rcases snoc_cases l with rfl | ⟨m, a, rfl⟩
  · rfl
  · rw [trimP_snoc, if_neg (by rw [h a (by rw [List.getLast?_concat])]; exact Bool.false_ne_true)]
theorem tr_nil : Tr z ([] : List α) := fun a h => by cases h
theorem tr_snoc {l : List α} {a : α} (h : z a = false) : Tr z (l ++ [a]) := fun b hb => by
  rw [List.getLast?_concat] at hb
  cases hb; exact h
theorem trimP_sub {l : List α} {a : α} (h : a ∈ trimP z l) : a ∈ l := by
  unfold trimP at h
  exact List.mem_reverse.mp ((List.dropWhile_sublist z).subset (List.mem_reverse.mp h))
theorem trimP_pre (l : List α) : ∃ t, l = trimP z l ++ t ∧ ∀ a ∈ t, z a = true := by
  generalize hn : l.length = n
  induction n generalizing l with
  | zero => exact ⟨[], by rw [List.eq_nil_of_length_eq_zero hn]; rfl, fun a h => by cases h⟩
  | succ n ih =>
    rcases snoc_cases l with rfl | ⟨m, a, rfl⟩
    · cases hn
    · rw [trimP_snoc]
      split
      · rename_i h
        obtain ⟨t, e, ht⟩ := ih m (by simpa using hn)
        refine ⟨t ++ [a], by rw [← List.append_assoc, ← e], fun b hb => ?_⟩
        rcases List.mem_append.mp hb with q | q
        · exact ht b q
        · rw [List.mem_singleton.mp q]; exact h
      · exact ⟨[], by simp, fun a h => by cases h⟩
end
section
variable {R : Type} [CommRing R]
/-- the series with these coefficients -/
def toS (l : List R) : PS R := ⟨fun k => l.getD k 0⟩
theorem toS_c (l : List R) (k : Nat) : (toS l).c k = l.getD k 0 := rfl
theorem toS_lt {l : List R} {k : Nat} (h : k < l.length) : (toS l).c k = l[k] := by
  rw [toS_c, List.getD_eq_getElem?_getD, List.getElem?_eq_getElem h]; rfl
theorem toS_ge {l : List R} {k : Nat} (h : l.length ≤ k) : (toS l).c k = 0 := by
  rw [toS_c, List.getD_eq_getElem?_getD, List.getElem?_eq_none h]; rfl
theorem toS_nil : toS ([] : List R) = 0 := PS.ext' fun k => by rw [PS.zero_c]; rfl
theorem toS_one : toS [(1 : R)] = 1 := PS.ext' fun k => by
  rw [PS.one_c]
  cases k with
  | zero => rfl
  | succ k => rfl
theorem toS_K (a : R) : toS [a] = PS.K a := PS.ext' fun k => by
  rw [PS.K_c]
  cases k with
  | zero => rfl
  | succ k => rfl
/-- the first n coefficients -/
def lst (n : Nat) (f : PS R) : List R := (List.range n).map f.c
theorem lst_length (n : Nat) (f : PS R) : (lst n f).length = n := by unfold lst; simp
theorem lst_get {n : Nat} {f : PS R} {k : Nat} (h : k < n) : (lst n f)[k]? = some (f.c k) := by unfold lst; rw [List.getElem?_map, List.getElem?_range h]; rfl
theorem toS_lst {n : Nat} {f : PS R} (h : ∀ k, n ≤ k → f.c k = 0) : toS (lst n f) = f := PS.ext' fun k => by
  by_cases hk : k < n
  · rw [toS_c, List.getD_eq_getElem?_getD, lst_get hk]; rfl
  · rw [toS_ge (by rw [lst_length]; omega), h k (by omega)]
theorem lst_toS {n : Nat} {l : List R} (h : l.length = n) : lst n (toS l) = l := by
  refine List.ext_getElem? fun k => ?_
  by_cases hk : k < n
  · rw [lst_get hk, toS_lt (by omega), List.getElem?_eq_getElem (by omega)]
  · rw [List.getElem?_eq_none (by rw [lst_length]; omega), List.getElem?_eq_none (by omega)]
theorem toS_append {l m : List R} (hm : ∀ a ∈ m, a = 0) : toS (l ++ m) = toS l := PS.ext' fun k => by
  rw [toS_c, toS_c, List.getD_eq_getElem?_getD, List.getD_eq_getElem?_getD]
  by_cases h : k < l.length
  · rw [List.getElem?_append_left h]
  · rw [List.getElem?_append_right (by omega), List.getElem?_eq_none (l := l) (by omega)]
    cases e : m[k - l.length]? with
    | none => rfl
    | some a => rw [Option.getD_some, hm a (List.mem_of_getElem? e)]; rfl
variable [DecidableEq R]
def isz (a : R) : Bool := decide (a = 0)
/-- without zeros at the end -/
abbrev trim (l : List R) : List R := trimP isz l
abbrev Trm (l : List R) : Prop := Tr isz l
theorem toS_trim (l : List R) : toS (trim l) = toS l := by
  obtain ⟨t, e, h⟩ := trimP_pre (z := isz) l
  conv => rhs; rw [e]
  exact (toS_append fun a ha => by simpa [isz] using h a ha).symm
theorem trm_last {l : List R} (h : Trm l) (hn : l ≠ []) : (toS l).c (l.length - 1) ≠ 0 := by
  rcases snoc_cases l with rfl | ⟨m, a, rfl⟩
  · exact absurd rfl hn
  · have := h a (by rw [List.getLast?_concat])
    rw [toS_lt (by simp)]
    simp
    simpa [isz] using this
/-- a list without zeros at the end is told by its series -/
theorem trm_ext {l m : List R} (h : Trm l) (h' : Trm m) (e : toS l = toS m) : l = m := by
  have key : ∀ {l m : List R}, Trm l → toS l = toS m → l.length ≤ m.length := by
    intro l m h e
    by_cases hn : l = []
    · rw [hn]; exact Nat.zero_le _
    · have := trm_last h hn
      by_cases hl : l.length ≤ m.length
      · exact hl
      · rw [e, toS_ge (by have : 0 < l.length := List.length_pos_iff.mpr hn; omega)] at this
        exact absurd rfl this
  have hl : l.length = m.length := Nat.le_antisymm (key h e) (key h' e.symm)
  exact (lst_toS hl).symm.trans ((congrArg (lst m.length) e).trans (lst_toS rfl))
theorem trim_ext {l m : List R} (e : toS l = toS m) : trim l = trim m := trm_ext (tr_trim l) (tr_trim m) (by rw [toS_trim, toS_trim, e])
/-- a product's coefficients end -/
theorem mul_ge {f g : PS R} {m n : Nat} (hf : ∀ k, m ≤ k → f.c k = 0) (hg : ∀ k, n ≤ k → g.c k = 0) {k : Nat} (hk : m + n ≤ k + 1) : (f * g).c k = 0 := by
  rw [PS.mul_c]
  refine sm_zero fun i hi => ?_
  by_cases h : m ≤ i
  · rw [hf i h]; grind
  · rw [hg (k - i) (by omega)]; grind
/-- products, sums, multiples, as the programs have them -/
def pmul (a b : List R) : List R := trim (lst (a.length + b.length - 1) (toS a * toS b))
def padd (a b : List R) : List R := trim (lst (max a.length b.length) (toS a + toS b))
theorem toS_pmul (a b : List R) : toS (pmul a b) = toS a * toS b := by
  unfold pmul
  rw [toS_trim, toS_lst fun k hk => mul_ge (m := a.length) (n := b.length) (fun k h => toS_ge h) (fun k h => toS_ge h) (by omega)]
theorem toS_padd (a b : List R) : toS (padd a b) = toS a + toS b := by
  unfold padd
  rw [toS_trim, toS_lst fun k hk => by rw [PS.add_c, toS_ge (by omega), toS_ge (by omega)]; grind]
theorem trm_pmul (a b : List R) : Trm (pmul a b) := tr_trim _
theorem trm_padd (a b : List R) : Trm (padd a b) := tr_trim _
theorem pmul_len (a b : List R) : (pmul a b).length ≤ a.length + b.length - 1 := by
  unfold pmul
  exact Nat.le_trans (trimP_le _) (by rw [lst_length]; omega)
theorem padd_len (a b : List R) : (padd a b).length ≤ max a.length b.length := by
  unfold padd
  exact Nat.le_trans (trimP_le _) (by rw [lst_length]; omega)
theorem pmul_nil (a : List R) : pmul a [] = [] := trm_ext (trm_pmul _ _) tr_nil (by rw [toS_pmul, toS_nil]; grind)
theorem nil_pmul (a : List R) : pmul [] a = [] := trm_ext (trm_pmul _ _) tr_nil (by rw [toS_pmul, toS_nil]; grind)
/-! ### a product, turn by turn -/
theorem lst_congr {n : Nat} {f g : PS R} (h : ∀ k, k < n → f.c k = g.c k) : lst n f = lst n g := by
  unfold lst
  exact List.map_congr_left fun k hk => h k (List.mem_range.mp hk)
theorem lst_zero (n : Nat) : lst n (0 : PS R) = List.replicate n 0 := by
  unfold lst
  refine List.ext_getElem? fun k => ?_
  rw [List.getElem?_map, List.getElem?_replicate]
  by_cases h : k < n
  · rw [List.getElem?_range h, if_pos h]; show some ((0 : PS R).c k) = _; rw [PS.zero_c]
  · rw [List.getElem?_eq_none (by simp; omega), if_neg h]; rfl
theorem lst_set {n m : Nat} {f : PS R} {v : R} : (lst n f).set m (f.c m + v) = lst n ⟨fun k => f.c k + if k = m then v else 0⟩ := by
  refine List.ext_getElem? fun k => ?_
  by_cases h : k < n
  · rw [lst_get h]
    by_cases hk : m = k
    · subst hk
      rw [List.getElem?_set_self (by rw [lst_length]; exact h)]
      simp
    · rw [List.getElem?_set_ne hk, lst_get h]
      show some (f.c k) = some (f.c k + if k = m then v else 0)
      rw [if_neg (fun z : k = m => hk z.symm)]
      congr 1; grind
  · rw [List.getElem?_eq_none (by rw [List.length_set, lst_length]; omega), List.getElem?_eq_none (by rw [lst_length]; omega)]
/-- what is there behind i whole rows and j items of the next one -/
def accP (a b : List R) (i j : Nat) : PS R := ⟨fun k => sm i (fun t => if t ≤ k then a.getD t 0 * b.getD (k - t) 0 else 0) + if i ≤ k ∧ k < i + j then a.getD i 0 * b.getD (k - i) 0 else 0⟩
theorem accP_zero (a b : List R) : accP a b 0 0 = 0 := PS.ext' fun k => by
  rw [PS.zero_c]
  show sm 0 _ + (if 0 ≤ k ∧ k < 0 + 0 then _ else _) = (0 : R)
  rw [if_neg (by omega)]; show (0 : R) + 0 = 0; grind
theorem accP_step {a b : List R} {i j n : Nat} : (lst n (accP a b i j)).set (i + j) ((accP a b i j).c (i + j) + a.getD i 0 * b.getD j 0) = lst n (accP a b i (j + 1)) := by
  rw [lst_set]
  refine lst_congr fun k _ => ?_
  show (sm i _ + ite _ _ _) + ite _ _ _ = sm i _ + ite _ _ _
  by_cases h : k = i + j
  · subst h
    rw [if_neg (by omega), if_pos rfl, if_pos (by omega), show i + j - i = j by omega]; grind
  · by_cases h2 : i ≤ k ∧ k < i + j
    · rw [if_pos h2, if_neg h, if_pos (by omega)]; grind
    · rw [if_neg h2, if_neg h, if_neg (by omega)]; grind
theorem accP_row {a b : List R} {i : Nat} : accP a b i b.length = accP a b (i + 1) 0 := PS.ext' fun k => by
  show sm i _ + ite _ _ _ = sm (i + 1) _ + ite _ _ _
  rw [sm_succ, if_neg (show ¬ (i + 1 ≤ k ∧ k < i + 1 + 0) by omega)]
  by_cases h : i ≤ k
  · rw [if_pos h]
    by_cases h2 : k < i + b.length
    · rw [if_pos ⟨h, h2⟩]; grind
    · rw [if_neg (by omega), show b.getD (k - i) 0 = 0 from by rw [List.getD_eq_getElem?_getD, List.getElem?_eq_none (by omega)]; rfl]; grind
  · rw [if_neg (by omega), if_neg h]; grind
theorem accP_end (a b : List R) : accP a b a.length 0 = toS a * toS b := PS.ext' fun k => by
  show sm a.length _ + ite _ _ _ = _
  rw [if_neg (show ¬ (a.length ≤ k ∧ k < a.length + 0) by omega), PS.mul_c]
  have e1 : sm a.length (fun t => if t ≤ k then a.getD t 0 * b.getD (k - t) 0 else 0) = sm (min a.length (k + 1)) (fun t => if t ≤ k then a.getD t 0 * b.getD (k - t) 0 else 0) := sm_upto (Nat.min_le_left _ _) fun t h1 h2 => if_neg (by omega)
  have e2 : sm (k + 1) (fun t => (toS a).c t * (toS b).c (k - t)) = sm (min a.length (k + 1)) (fun t => (toS a).c t * (toS b).c (k - t)) := sm_upto (Nat.min_le_right _ _) fun t h1 h2 => by rw [toS_ge (by omega)]; grind
  rw [e1, e2]
  have e3 : sm (min a.length (k + 1)) (fun t => if t ≤ k then a.getD t 0 * b.getD (k - t) 0 else 0) = sm (min a.length (k + 1)) (fun t => (toS a).c t * (toS b).c (k - t)) := sm_congr fun t ht => by rw [if_pos (by omega)]; rfl
  rw [e3]; grind
end
end PM

set_option Elab.async false
set_option linter.all false
set_option maxRecDepth 100000
set_option maxHeartbeats 4000000
namespace DL.LW
open PySem PySem.Spec PyProof.Rows L2 DL TL
/-! L0: shared by the laws: equality of plain data, comprehensions by an invariant, boxes and draws, _law_same. -/
/-! ### data whose == is equality -/
structure Cod {α : Type} [DecidableEq α] (c : α → D) where
  p : α → PyData
  py : ∀ G a, Py G (c a) (p a)
  lay : ∀ a, (p a).canLay0 = true
  n : Nat
  dep : ∀ a, (p a).depth ≤ n
  eqv : ∀ a b, PyData.eqv (p a) (p b) = decide (a = b)
section
variable {α : Type} [DecidableEq α] {c : α → D}
theorem Cod.pys (C : Cod c) (G : DH) : ∀ l : List α, Pys G (l.map c) (l.map C.p)
  | [] => .nil
  | a :: l => .cons (C.py G a) (C.pys G l)
theorem Cod.lays (C : Cod c) : ∀ l : List α, PyData.canLayAll0 (l.map C.p) = true
  | [] => rfl
  | a :: l => by
    show (PyData.canLay0 (C.p a) && PyData.canLayAll0 (l.map C.p)) = true
    rw [C.lay, C.lays l]; rfl
theorem Cod.deps (C : Cod c) : ∀ l : List α, PyData.depthAll (l.map C.p) ≤ C.n
  | [] => Nat.zero_le _
  | a :: l => by
    show max (PyData.depth (C.p a)) (PyData.depthAll (l.map C.p)) ≤ C.n
    exact Nat.max_le.mpr ⟨C.dep a, C.deps l⟩
theorem Cod.eqvs (C : Cod c) : ∀ l m : List α, PyData.eqvAll (l.map C.p) (m.map C.p) = decide (l = m)
  | [], [] => by simp [PyData.eqvAll]
  | [], _ :: _ => by simp [PyData.eqvAll]
  | _ :: _, [] => by simp [PyData.eqvAll]
  | a :: l, b :: m => by
    show (PyData.eqv (C.p a) (C.p b) && PyData.eqvAll (l.map C.p) (m.map C.p)) = _
    rw [C.eqv, C.eqvs l m]
    simp [Bool.decide_and]
def Cod.tup (C : Cod c) : Cod (fun l : List α => D.tup (l.map c)) where
  p l := .tuple (l.map C.p)
  py G l := .tup (C.pys G l)
  lay l := C.lays l
  n := C.n + 1
  dep l := by show PyData.depthAll (l.map C.p) + 1 ≤ _; have := C.deps l; omega
  eqv l m := C.eqvs l m
theorem Cod.shaped (C : Cod c) (h : C.n ≤ 64) (a : α) : SeqAt.shaped (C.p a) = true := by
  show ((C.p a).canLay0 && decide ((C.p a).depth ≤ 64)) = true
  rw [C.lay, decide_eq_true (by have := C.dep a; omega)]; rfl
theorem Cod.eqT (C : Cod c) (h : C.n < 64) {l m : List α} {G : DH} {Q : Bool → Prop} (q : Q (decide (l = m))) : eqD (.tup (l.map c)) (.tup (m.map c)) G Q :=
  ⟨.tuple (l.map C.p), .tuple (m.map C.p), C.tup.py G l, C.tup.py G m, C.tup.shaped h l, C.tup.shaped h m, by rw [show PyData.eqv (.tuple (l.map C.p)) (.tuple (m.map C.p)) = decide (l = m) from C.eqvs l m]; exact q⟩
theorem Cod.eqL (C : Cod c) (h : C.n < 64) {l m : List α} {a b : Addr} {G : DH} {Q : Bool → Prop} (ha : G a = some (.lst (l.map c))) (hb : G b = some (.lst (m.map c))) (q : Q (decide (l = m))) : eqD (.ref a) (.ref b) G Q := by
  have sh : ∀ l : List α, SeqAt.shaped (.list (l.map C.p)) = true := fun l => by
    show (PyData.canLayAll0 (l.map C.p) && decide (PyData.depthAll (l.map C.p) + 1 ≤ 64)) = true
    rw [C.lays, decide_eq_true (by have := C.deps l; omega)]; rfl
  exact ⟨.list (l.map C.p), .list (m.map C.p), .lst (sqAt_some.mpr ha) (C.pys G l), .lst (sqAt_some.mpr hb) (C.pys G m), sh l, sh m, by rw [show PyData.eqv (.list (l.map C.p)) (.list (m.map C.p)) = decide (l = m) from C.eqvs l m]; exact q⟩
end
def codI : Cod D.int where
  p := .int
  py _ _ := .int _
  lay _ := rfl
  n := 0
  dep _ := Nat.le_refl _
  eqv a b := by
    show (a == b) = decide (a = b)
    rw [Bool.eq_iff_iff]; simp
/-- a fraction -/
def frD (p : Int × Int) : D := .tup [.int p.1, .int p.2]
def codF : Cod frD where
  p x := .tuple [.int x.1, .int x.2]
  py _ _ := .tup (.cons (.int _) (.cons (.int _) .nil))
  lay _ := rfl
  n := 1
  dep _ := Nat.le_refl _
  eqv a b := by
    show (a.1 == b.1 && (a.2 == b.2 && true)) = decide (a = b)
    rw [Bool.eq_iff_iff]; simp [Prod.ext_iff]
/-- ints as items -/
abbrev iL (l : List Int) : List D := l.map D.int
abbrev tI (l : List Int) : D := .tup (l.map D.int)
theorem eqT_i {l m : List Int} {G : DH} {Q : Bool → Prop} (q : Q (decide (l = m))) : eqD (tI l) (tI m) G Q := codI.eqT (by decide) q
theorem eqT_i0 {l : List Int} {G : DH} {Q : Bool → Prop} (q : Q l.isEmpty) : eqD (tI l) (.tup []) G Q := codI.eqT (m := []) (by decide) (by cases l <;> simpa using q)
theorem eqL_i {l m : List Int} {a b : Addr} {G : DH} {Q : Bool → Prop} (ha : G a = some (.lst (iL l))) (hb : G b = some (.lst (iL m))) (q : Q (decide (l = m))) : eqD (.ref a) (.ref b) G Q := codI.eqL (by decide) ha hb q
theorem eqL_i0 {l : List Int} {a b : Addr} {G : DH} {Q : Bool → Prop} (ha : G a = some (.lst (iL l))) (hb : G b = some (.lst [])) (q : Q l.isEmpty) : eqD (.ref a) (.ref b) G Q := eqL_i (m := []) ha hb (by cases l <;> simpa using q)
@[simp] theorem atI_m1 {α : Type} (l : List α) : atI l (-1) = l.getLast? := by
  unfold atI ixN
  rcases PM.snoc_cases l with rfl | ⟨m, a, rfl⟩
  · rfl
  · rw [List.getLast?_concat, if_neg (by decide), if_pos (by simp; omega)]
    simp
    rw [show (-1 + ((m.length : Int) + 1)).toNat = m.length by omega]
    simp
/-! ### comprehensions by an invariant -/
theorem lc_inv {src : List (Addr × List D)} {g : D → Sg → DH → (Sg → DH → Prop) → Prop} {t : Sg → DH → (Bool → DH → Prop) → Prop} {e : Sg → DH → QD → Prop} {Q : List D → DH → Prop} {σ : Sg} {G : DH} {ds : List D} (I : Nat → List D → DH → Prop) (h0 : I 0 [] G)
    (hs : ∀ i acc G, i ≤ ds.length → I i acc G → srcOk src G)
    (step : ∀ i d acc G (K : List D → DH → Prop), ds[i]? = some d → I i acc G → (∀ acc' G', I (i + 1) acc' G' → K acc' G') → g d σ G fun σ1 G1 => t σ1 G1 fun b G2 => if b = true then e σ1 G2 fun y G3 => K (acc ++ [y]) G3 else K acc G2)
    (fin : ∀ acc G, I ds.length acc G → Q acc G) : lcD src g t e Q σ ds [] G := by
  have key : ∀ (m i : Nat) (acc : List D) (G : DH), m + i = ds.length → I i acc G → lcD src g t e Q σ (ds.drop i) acc G := by
    intro m
    induction m with
    | zero =>
      intro i acc G hm hI
      have e : i = ds.length := by omega
      subst e
      rw [List.drop_length]
      exact ⟨hs _ _ _ (Nat.le_refl _) hI, fin acc G hI⟩
    | succ m ih =>
      intro i acc G hm hI
      have hi : i < ds.length := by omega
      rw [List.drop_eq_getElem_cons hi]
      exact ⟨hs i acc G (Nat.le_of_lt hi) hI, step i ds[i] acc G (fun acc G => lcD src g t e Q σ (ds.drop (i + 1)) acc G) (by simp [hi]) hI fun acc' G' z => ih (i + 1) acc' G' (by omega) z⟩
  have := key ds.length 0 [] G (by omega) h0
  rwa [List.drop_zero] at this
theorem range_get {n i : Nat} {d : D} (h : (rangeL 0 n 1)[i]? = some d) : i < n ∧ d = .int (i : Nat) := by
  obtain ⟨h1, h2⟩ := rangeL_get h
  exact ⟨h1, by rw [h2]; show D.int _ = D.int _; rw [Int.mul_one, Int.zero_add]⟩
/-! ### kinds -/
def isI : D → Bool
  | .int _ => true
  | _ => false
theorem is_int_ty {G : DH} {d : D} {t : Ty} (h : tyD G d = some t) : decide (t = .int) = isI d := by
  cases d with
  | ref a => simp only [tyD] at h; split at h <;> cases h <;> rfl
  | _ => cases h; rfl
theorem is_int_iff {G : DH} {d : D} {t : Ty} (h : tyD G d = some t) : t = .int ↔ isI d = true := by rw [← is_int_ty h]; simp
/-- a value whose kind is known, and its items' -/
def Typed (G : DH) (x : D) : Prop := (∃ t, tyD G x = some t) ∧ ∀ ds, x = .tup ds → ∀ d ∈ ds, ∃ t, tyD G d = some t
theorem Typed.ints {G : DH} {l : List Int} : Typed G (tI l) := ⟨⟨_, rfl⟩, fun ds e d hd => by
  cases e
  obtain ⟨i, _, rfl⟩ := List.mem_map.mp hd
  exact ⟨_, rfl⟩⟩
theorem isI_map {ds : List D} (h : ds.all isI = true) : ∃ l : List Int, ds = iL l := by
  induction ds with
  | nil => exact ⟨[], rfl⟩
  | cons d ds ih =>
    rw [List.all_cons, Bool.and_eq_true] at h
    obtain ⟨l, rfl⟩ := ih h.2
    cases d with
    | int i => exact ⟨i :: l, rfl⟩
    | _ => exact absurd h.1 Bool.false_ne_true
theorem all_isI (l : List Int) : (iL l).all isI = true := by
  induction l with
  | nil => rfl
  | cons a l ih => simpa [isI] using ih
/-- small enough to be divided by -/
abbrev Sm (b : Int) : Prop := Pyl b
theorem sm_any (b : Int) : Sm b := trivial
theorem sm_of {m : Int} {n : Nat} (h : Sz n m) (h0 : 0 < n) (hn : n ≤ 9000) : Sm m := trivial
theorem sm26 {m : Int} (h : 0 < m) (h2 : m < 100000000000000000000000000) : Sm m := sm_of (n := 90) (by unfold Sz; omega) (by decide) (by decide)
def raisedBy (c : Str) (f : Str) (x : D) : XD := ⟨c, [(f, x)]⟩
/-- how a call ends: a value, an exception -/
abbrev XR := Except XD D
def post (r : XR) (Q : QD) (E : ED) (G : DH) : Prop := match r with
  | .ok d => Q d G
  | .error x => E x G
@[simp] theorem post_ok {d : D} {Q : QD} {E : ED} {G : DH} : post (.ok d) Q E G = Q d G := rfl
@[simp] theorem post_err {x : XD} {Q : QD} {E : ED} {G : DH} : post (.error x) Q E G = E x G := rfl
/-! ### is_integer -/
def S_is_integer : DSp := fun ds G Q _ => ∃ x t, ds = [x] ∧ tyD G x = some t ∧ Q (.bl (isI x)) G
@[simp] theorem is_integer_at {x : D} {G : DH} {Q : QD} {E : ED} : S_is_integer [x] G Q E ↔ (∃ t, tyD G x = some t) ∧ Q (.bl (isI x)) G := by
  constructor
  · rintro ⟨x', t, e, h, q⟩
    cases e
    exact ⟨⟨t, h⟩, q⟩
  · rintro ⟨⟨t, h⟩, q⟩
    exact ⟨x, t, rfl, h, q⟩
theorem run_is_integer {Γ : GE} {ds : List D} {G : DH} {Q : QD} {E : ED} (hl : ds.length = 1) (h : S_is_integer ds G Q E) : Runs Γ m_is_integer 1 ds G Q E := by
  obtain ⟨x, t, rfl, ht, q⟩ := h
  rw [← is_int_ty ht] at q
  unfold Runs m_is_integer
  simp [startD, dEnds, ht]
  cases t <;> simp <;> exact ⟨G, .refl, by simpa using q⟩
/-! ### cells, boxes, draws -/
def BoxOk (B : Int) (l : List D) : Prop := ∃ (n : Int) (b : Bool) (r c : Int), l = [.int n, .bl b, .int r, .int c] ∧ 0 ≤ n ∧ 0 ≤ r ∧ r < 2147483629 ∧ 0 ≤ c ∧ c ≤ B
theorem BoxOk.mono {B B' : Int} {l : List D} (h : BoxOk B l) (hb : B ≤ B') : BoxOk B' l := by
  obtain ⟨n, b, r, c, e, h1, h2, h3, h4, h5⟩ := h
  exact ⟨n, b, r, c, e, h1, h2, h3, h4, by omega⟩
def cutL' (ns : List Int) : List Int := (ns.drop (HT.sIx ns.length 0 none)).take (HT.sIx ns.length ns.length (some 1) - HT.sIx ns.length 0 none)
def S_f_law_cell : DSp := fun ds G Q _ => ∃ (ns : List Int) (k : Nat), ds = [.lsv (ns.map .int), .int k] ∧ ∀ c : Int, Q (.int c) G
theorem run_f_law_cell {Γ : GE} {ds : List D} {G : DH} {Q : QD} {E : ED} (hl : ds.length = 2) (h : S_f_law_cell ds G Q E) : Runs Γ m_f_law_cell 2 ds G Q E := by
  obtain ⟨ns, k, rfl, q⟩ := h
  unfold Runs m_f_law_cell
  simp [startD, dEnds]
  by_cases hk : k < ns.length
  · exact ite_l (.inr ⟨hk, .int ns[k], by simp [hk], G, .refl, q _⟩)
  · refine ite_l (.inl ⟨by omega, .of_left (intBits_le_64 (by decide) (by decide)), fun p hp => ⟨cutL' ns, by unfold cutL cutL'; simp, G, .put hp, q _⟩⟩)
def S_f_law_box : DSp := fun ds G Q _ => ∃ c : Int, ds = [.int c] ∧ ∀ p l, G p = none → BoxOk 0 l → Q (.ref p) (put G p (.lst l))
theorem run_f_law_box {Γ : GE} {ds : List D} {G : DH} {Q : QD} {E : ED} (hl : ds.length = 1) (h : S_f_law_box ds G Q E) : Runs Γ m_f_law_box 1 ds G Q E := by
  obtain ⟨c, rfl, q⟩ := h
  unfold Runs m_f_law_box
  simp [startD, dEnds]
  refine ⟨by decide +kernel, fun p hp => ⟨_, .refl, q p _ hp ⟨_, _, _, _, rfl, by omega, Int.fmod_nonneg_of_pos _ (by decide), Int.fmod_lt_of_pos _ (by decide), by omega, by omega⟩⟩⟩
def S_f_law_take : DSp := fun ds G Q _ => ∃ (a : Addr) (m : Int) (l : List D) (B : Int), ds = [.ref a, .int m] ∧ G a = some (.lst l) ∧ BoxOk B l ∧ B < 1000000000 ∧ 0 < m ∧ Sm m ∧
  ∀ (d : Int) (l' : List D) (G' : DH), 0 ≤ d → d < m → BoxOk (B + 1) l' → Ext a l' G G' → Q (.int d) G'
theorem take_at {a : Addr} {m : Int} {l : List D} {B : Int} {G : DH} {Q : QD} {E : ED} (ha : G a = some (.lst l)) (hb : BoxOk B l) (hB : B < 1000000000) (hm : 0 < m) (hs : Sm m)
    (k : ∀ (d : Int) (l' : List D) (G' : DH), 0 ≤ d → d < m → BoxOk (B + 1) l' → Ext a l' G G' → Q (.int d) G') : S_f_law_take [.ref a, .int m] G Q E := ⟨a, m, l, B, rfl, ha, hb, hB, hm, hs, k⟩
theorem run_f_law_take {Γ : GE} {ds : List D} {G : DH} {Q : QD} {E : ED} (hl : ds.length = 2) (h : S_f_law_take ds G Q E) : Runs Γ m_f_law_take 4 ds G Q E := by
  obtain ⟨a, m, l, B, rfl, ha, ⟨n, b, r, c, rfl, h1, h2, h3, h4, h5⟩, hB, hm, hs, q⟩ := h
  have hs1 := sqAt_some.mpr ha
  unfold Runs m_f_law_take
  simp [startD, dEnds, List.replicate, ha, hs1, show ixN 4 3 = some 3 from rfl, show ixN 4 0 = some 0 from rfl]
  have rest : ∀ {P : Prop}, (IntMulOk 15485863 (c + 1) ∧ (Builtin.Int.intBits (r + 15485863 * (c + 1) + 179424673) : Int) * 5 ≤ 134217728 ∧ IntMulOk (((r + 15485863 * (c + 1) + 179424673) ^ 5).fmod 2147483647) 48271 ∧ IntMulOk 104729 (c + 1) ∧
      (Builtin.Int.intBits (((r + 15485863 * (c + 1) + 179424673) ^ 5).fmod 2147483647 * 48271 + 104729 * (c + 1)) : Int) * 3 ≤ 134217728 ∧ Pyl 64 ∧ ¬m = 0 ∧ P) ↔ P := by
    intro P
    generalize hX : ((r + 15485863 * (c + 1) + 179424673) ^ 5).fmod 2147483647 = X
    have x1 : 0 ≤ X := by rw [← hX]; exact Int.fmod_nonneg_of_pos _ (by decide)
    have x2 : X < 2147483647 := by rw [← hX]; exact Int.fmod_lt_of_pos _ (by decide)
    have b1 : Builtin.Int.intBits (r + 15485863 * (c + 1) + 179424673) ≤ 64 := intBits_le_64 (by omega) (by omega)
    have b2 : Builtin.Int.intBits (X * 48271 + 104729 * (c + 1)) ≤ 64 := intBits_le_64 (by omega) (by omega)
    constructor
    · exact fun h => h.2.2.2.2.2.2.2
    · exact fun h => ⟨.of_left (intBits_le_64 (by decide) (by decide)), by omega, .of_right (intBits_le_64 (by decide) (by decide)), .of_left (intBits_le_64 (by decide) (by decide)), by omega, by decide +kernel, by omega, h⟩
  rw [rest]
  have box : BoxOk (B + 1) [.int n, .bl b, .int r, .int (c + 1)] := ⟨n, b, r, c + 1, rfl, h1, h2, h3, by omega, by omega⟩
  cases b with
  | false =>
    rw [if_neg Bool.false_ne_true]
    exact ⟨_, .refl, q _ _ _ (Int.fmod_nonneg_of_pos _ hm) (Int.fmod_lt_of_pos _ hm) box .put⟩
  | true =>
    rw [if_pos rfl]
    by_cases hn : n ≤ 0
    · exact ite_l (.inl ⟨by omega, _, .refl, q _ _ _ (Int.fmod_nonneg_of_pos _ hm) (Int.fmod_lt_of_pos _ hm) box .put⟩)
    · refine ite_l (.inr ⟨by omega, by omega, hs, _, .refl, q _ _ _ (Int.fmod_nonneg_of_pos _ hm) (Int.fmod_lt_of_pos _ hm) ⟨_, _, _, _, rfl, ?_, h2, h3, h4, by omega⟩ .put⟩)
      exact Int.fdiv_nonneg h1 (by omega)
/-! ### the same? -/
/-- two values that _law_same finds the same, to a depth -/
def same : Nat → DH → D → D → Prop
  | 0, _, _, _ => False
  | n + 1, G, x, y => match x with
    | .non => y = .non
    | .bl b => y = .bl b
    | .int i => y = .int i
    | .str s => y = .str s ∧ s.length ≤ 600
    | .tup xs => ∃ ys : List D, y = .tup ys ∧ xs.length = ys.length ∧ ys.length ≤ 1000 ∧ ∀ (i : Nat) x y, xs[i]? = some x → ys[i]? = some y → same n G x y
    | .ref a => (∃ (b : Addr) (xs ys : List D), y = .ref b ∧ G a = some (.lst xs) ∧ G b = some (.lst ys) ∧ xs.length = ys.length ∧ ys.length ≤ 1000 ∧ ∀ (i : Nat) x y, xs[i]? = some x → ys[i]? = some y → same n G x y) ∨ ∃ b : Addr, y = .ref b ∧ G a = some (.dct []) ∧ G b = some (.dct [])
    | _ => False
def S_same (n : Nat) : DSp := fun ds G Q _ => ∃ x y, ds = [x, y] ∧ same n G x y ∧ Q (.bl true) G
theorem run_same {Γ : GE} {n : Nat} (h1 : Fn Γ "_law_same" ["told", "due"] (S_same n)) {ds : List D} {G : DH} {Q : QD} {E : ED} (hl : ds.length = 2) (h : S_same (n + 1) ds G Q E) : Runs Γ m_f_law_same 3 ds G Q E := by
  obtain ⟨k1, d1, h1⟩ := h1
  obtain ⟨x, y, rfl, hs, q⟩ := h
  unfold Runs m_f_law_same
  cases x with
  | non =>
    obtain rfl : y = .non := hs
    simp [startD, dEnds, List.replicate]
    exact ⟨G, .refl, q⟩
  | bl b =>
    obtain rfl : y = .bl b := hs
    simp [startD, dEnds, List.replicate]
    exact ⟨G, .refl, by simpa using q⟩
  | int b =>
    obtain rfl : y = .int b := hs
    simp [startD, dEnds, List.replicate]
    exact ⟨G, .refl, by simpa using q⟩
  | str b =>
    obtain ⟨rfl, hl⟩ : y = .str b ∧ b.length ≤ 600 := hs
    simp [startD, dEnds, List.replicate]
    have hs := sizeLine_eq
    refine ⟨by omega, by omega, by rw [rangeL_length]; omega, lc_drop srcOk_nil (fun d hd K1 K0 z' => ?_) ?_⟩
    rotate_left
    · exact fun p hp p1 hp1 => eq_nil2 hp1 ⟨G, sub_put2 hp hp1, q⟩
    obtain ⟨i, hi, rfl⟩ := range_mem hd
    have hi' : i < (tl b).length := by rw [← len_tl]; exact hi
    simp [h1]
    exact ⟨by omega, (tl b)[i], by rw [← Array.getElem?_toList]; show (tl b)[i]? = _; simp [hi'], ite_l (.inr ⟨cut_one hi', z'⟩)⟩
  | tup xs =>
    obtain ⟨ys, rfl, hl, hl2, hs⟩ : ∃ ys : List D, y = .tup ys ∧ xs.length = ys.length ∧ ys.length ≤ 1000 ∧ ∀ (i : Nat) x y, xs[i]? = some x → ys[i]? = some y → same n G x y := hs
    simp [startD, dEnds, List.replicate, h1]
    have hsz := sizeLine_eq
    rw [if_pos (by omega)]
    refine ⟨by omega, by rw [rangeL_length]; omega, lc_drop srcOk_nil (fun d hd K1 K0 z' => ?_) ?_⟩
    rotate_left
    · exact fun p hp p1 hp1 => eq_nil2 hp1 ⟨G, sub_put2 hp hp1, q⟩
    obtain ⟨i, hi, rfl⟩ := range_mem hd
    simp [h1]
    exact ⟨xs[i], by simp [hl, hi], ys[i], by simp [hi], _, _, rfl, hs i _ _ (by simp [hl, hi]) (by simp [hi]), by simpa using z'⟩
  | ref a =>
    rcases (show (∃ (b : Addr) (xs ys : List D), y = .ref b ∧ G a = some (.lst xs) ∧ G b = some (.lst ys) ∧ xs.length = ys.length ∧ ys.length ≤ 1000 ∧ ∀ (i : Nat) x y, xs[i]? = some x → ys[i]? = some y → same n G x y) ∨ ∃ b : Addr, y = .ref b ∧ G a = some (.dct []) ∧ G b = some (.dct []) from hs) with ⟨b, xs, ys, rfl, ha, hb, hl, hl2, hs⟩ | ⟨b, rfl, ha, hb⟩
    · have hsz := sizeLine_eq
      have ha1 := sqAt_some.mpr ha
      have hb1 := sqAt_some.mpr hb
      simp [startD, dEnds, List.replicate, h1, ty_lst ha, ty_lst hb, ha1, hb1]
      rw [if_pos (by omega)]
      refine ⟨by omega, by rw [rangeL_length]; omega, lc_drop srcOk_nil (fun d hd K1 K0 z' => ?_) ?_⟩
      rotate_left
      · exact fun p hp p1 hp1 => eq_nil2 hp1 ⟨G, sub_put2 hp hp1, q⟩
      obtain ⟨i, hi, rfl⟩ := range_mem hd
      simp [h1, ha1, hb1]
      exact ⟨xs[i], by simp [hl, hi], ys[i], by simp [hi], _, _, rfl, hs i _ _ (by simp [hl, hi]) (by simp [hi]), by simpa using z'⟩
    · have ha1 : sqAt G a = none := by unfold sqAt; rw [ha]
      have hb1 : sqAt G b = none := by unfold sqAt; rw [hb]
      simp [startD, dEnds, List.replicate, h1, ty_dct ha, ty_dct hb, ha1, hb1, ha, hb]
      exact ⟨by rw [rangeL_length]; omega, srcOk_nil, fun p hp p1 hp1 => eq_nil2 hp1 ⟨G, sub_put2 hp hp1, q⟩⟩
  | _ => exact False.elim hs
end DL.LW

set_option Elab.async false
set_option linter.all false
set_option maxRecDepth 100000
set_option maxHeartbeats 4000000
namespace DL.LW
open PySem PySem.Spec PyProof.Rows L2 DL TL PM
/-! L1: the program's integer polynomials. -/
/-! ### sizes of lists of ints -/
def Bd (n : Nat) (l : List Int) : Prop := ∀ c ∈ l, Sz n c
section
variable {m n : Nat} {l a b : List Int}
theorem Bd.mono (h : Bd m l) (hm : m ≤ n) : Bd n l := fun c hc => (h c hc).mono hm
theorem Bd.nil : Bd n [] := fun c hc => by cases hc
theorem sz0 : Sz n 0 := by unfold Sz; simpa using Nat.two_pow_pos n
theorem sz1 {n : Nat} (h : 0 < n) : Sz n 1 := by
  have : 2 ≤ 2 ^ n := by
    calc 2 = 2 ^ 1 := rfl
      _ ≤ 2 ^ n := Nat.pow_le_pow_right (by decide) h
  unfold Sz
  show (1 : Int).natAbs < 2 ^ n
  simp; omega
theorem Bd.get (h : Bd n l) (k : Nat) : Sz n (l.getD k 0) := by
  rw [List.getD_eq_getElem?_getD]
  cases e : l[k]? with
  | none => exact sz0
  | some x => exact h x (List.mem_of_getElem? e)
theorem Bd.trim (h : Bd n l) : Bd n (trim l) := fun c hc => h c (trimP_sub hc)
theorem natAbs_sm {n B : Nat} {f : Nat → Int} (h : ∀ i, i < n → (f i).natAbs ≤ B) : (sm n f).natAbs ≤ n * B := by
  induction n with
  | zero => simp [sm]
  | succ n ih =>
    rw [sm_succ, Nat.succ_mul]
    exact Nat.le_trans (Int.natAbs_add_le _ _) (Nat.add_le_add (ih fun i hi => h i (by omega)) (h n (by omega)))
theorem sm_sz {k n : Nat} {f : Nat → Int} (hk : k ≤ 1000) (h : ∀ i, i < k → Sz n (f i)) : Sz (n + 10) (sm k f) := by
  have := natAbs_sm (B := 2 ^ n) fun i hi => Nat.le_of_lt (h i hi)
  unfold Sz
  rw [Nat.pow_add]
  have h2 : k * 2 ^ n ≤ 1000 * 2 ^ n := Nat.mul_le_mul_right _ hk
  have h3 : 0 < 2 ^ n := Nat.two_pow_pos n
  omega
/-- only as many parts of a coefficient count as the first one has items -/
theorem mul_c_short {a : List Int} {g : PS Int} {k : Nat} : (toS a * g).c k = sm (min a.length (k + 1)) fun i => (toS a).c i * g.c (k - i) := by
  rw [PS.mul_c]
  refine sm_upto (Nat.min_le_right _ _) fun i h1 h2 => ?_
  rw [toS_ge (by omega)]; simp
theorem Bd.lst {n k : Nat} {f : PS Int} (h : ∀ i, i < k → Sz n (f.c i)) : Bd n (lst k f) := fun c hc => by
  unfold PM.lst at hc
  obtain ⟨i, hi, rfl⟩ := List.mem_map.mp hc
  exact h i (List.mem_range.mp hi)
theorem Bd.pmul (ha : Bd m a) (hb : Bd n b) (hl : a.length ≤ 1000) : Bd (m + n + 10) (pmul a b) := by
  refine Bd.trim (Bd.lst fun k _ => ?_)
  rw [mul_c_short]
  exact sm_sz (by omega) fun i _ => (ha.get i).mul (hb.get (k - i))
theorem Bd.padd (ha : Bd m a) (hb : Bd m b) : Bd (m + 1) (padd a b) := by
  refine Bd.trim (Bd.lst fun k _ => ?_)
  rw [PS.add_c]
  exact (ha.get k).add (hb.get k)
theorem Bd.map {f : Int → Int} (h : ∀ c ∈ l, Sz n (f c)) : Bd n (l.map f) := fun c hc => by
  obtain ⟨x, hx, rfl⟩ := List.mem_map.mp hc
  exact h x hx
theorem Bd.cons {x : Int} (hx : Sz n x) (h : Bd n l) : Bd n (x :: l) := fun c hc => by
  rcases List.mem_cons.mp hc with rfl | q
  · exact hx
  · exact h c q
theorem Bd.app (ha : Bd n a) (hb : Bd n b) : Bd n (a ++ b) := fun c hc => by
  rcases List.mem_append.mp hc with q | q
  · exact ha c q
  · exact hb c q
end
theorem mulOk {m n : Nat} {x y : Int} (h : Sz m x) (h' : Sz n y) (hs : m + n ≤ 100000000) : IntMulOk x y := mul_ok h h' hs
/-! ### the checks -/
/-- is a value an integer polynomial? -/
def isIP : D → Bool
  | .tup ds => ds.all isI && match ds.getLast? with
    | none => true
    | some (.int i) => decide (i ≠ 0)
    | _ => false
  | _ => false
instance decTrm (l : List Int) : Decidable (Trm l) := decidable_of_iff (trim l = l) ⟨fun h => h ▸ tr_trim l, trim_tr⟩
theorem isIP_ints {l : List Int} : isIP (tI l) = decide (Trm l) := by
  have e : isIP (tI l) = (match (iL l).getLast? with
    | none => true
    | some (.int i) => decide (i ≠ 0)
    | _ => false) := by
    show ((iL l).all isI && _) = _
    rw [all_isI]; rfl
  rw [e]
  rcases snoc_cases l with rfl | ⟨m, a, rfl⟩
  · exact decide_eq_true (tr_nil (z := isz (R := Int)))
  · have : iL (m ++ [a]) = iL m ++ [D.int a] := by simp [iL]
    rw [this, List.getLast?_concat]
    show decide (a ≠ 0) = _
    rw [decide_eq_decide]
    constructor
    · exact fun h => tr_snoc (by simpa [isz] using h)
    · intro h
      have := h a (by rw [List.getLast?_concat])
      simpa [isz] using this
theorem isIP_iff {x : D} : isIP x = true ↔ ∃ l : List Int, x = tI l ∧ Trm l := by
  constructor
  · intro h
    cases x with
    | tup ds =>
      have h2 : ds.all isI = true := by
        have := (Bool.and_eq_true_iff.mp (show (ds.all isI && _) = true from h)).1
        exact this
      obtain ⟨l, rfl⟩ := isI_map h2
      exact ⟨l, rfl, by have := isIP_ints (l := l); rw [h] at this; simpa using this.symm⟩
    | _ => exact absurd h Bool.false_ne_true
  · rintro ⟨l, rfl, h⟩
    rw [isIP_ints]; simpa using h
@[simp] theorem isIP_trm {l : List Int} (h : Trm l) : isIP (tI l) = true := isIP_iff.mpr ⟨l, rfl, h⟩
theorem ip_tup {ds : List D} (h : ds.all isI = false) : isIP (.tup ds) = false := by
  show (ds.all isI && _) = false
  rw [h]; rfl
def isBl (d : D) : D := .bl (isI d)
def S_is_integer_polynomial : DSp := fun ds G Q _ => ∃ x, ds = [x] ∧ Typed G x ∧ (∀ ds, x = .tup ds → ds.length ≤ 2000) ∧ Q (.bl (isIP x)) G
theorem run_is_integer_polynomial {Γ : GE} (h1 : Fn Γ "is_integer" ["value"] S_is_integer) {ds : List D} {G : DH} {Q : QD} {E : ED} (hl : ds.length = 1) (h : S_is_integer_polynomial ds G Q E) : Runs Γ m_is_integer_polynomial 2 ds G Q E := by
  obtain ⟨k1, d1, h1⟩ := h1
  obtain ⟨x, rfl, ⟨⟨t, ht⟩, hi⟩, hz, q⟩ := h
  unfold Runs m_is_integer_polynomial
  simp [startD, dEnds, h1, ht, List.replicate]
  cases x with
  | tup ds =>
    cases ht
    have hz := hz ds rfl
    simp
    refine ⟨by rw [sizeLine_eq]; omega, lc_all isBl srcOk_nil (fun d hd K1 K0 z => ?_) ?_⟩
    rotate_left
    · intro p hp
      refine ⟨ds.map isI, by rw [List.map_map]; rfl, ?_⟩
      have hall : ds.all isI = false ↔ ∃ a, a ∈ ds ∧ isI a = false := by
        rw [List.all_eq_false]
        simp
      simp
      split
      · rename_i hc
        rw [ip_tup (hall.mpr hc)] at q
        exact ⟨G, .put hp, q⟩
      · rename_i hc
        obtain ⟨l, rfl⟩ := isI_map (ds := ds) (by
          cases h : ds.all isI with
          | true => rfl
          | false => exact absurd (hall.mp h) hc)
        rw [isIP_ints] at q
        refine eqT_i0 ?_
        rcases snoc_cases l with rfl | ⟨m, a, rfl⟩
        · simp
          exact ⟨G, .put hp, by simpa [tr_nil] using q⟩
        · have e2 : (m ++ [a]).isEmpty = false := by simp
          rw [e2]
          simp
          refine ⟨G, .put hp, ?_⟩
          have e3 : Trm (m ++ [a]) ↔ a ≠ 0 := ⟨fun h => by have := h a (by rw [List.getLast?_concat]); simpa [isz] using this, fun h => tr_snoc (by simpa [isz] using h)⟩
          have e4 : decide (Trm (m ++ [a])) = decide (a ≠ 0) := decide_eq_decide.mpr e3
          rw [e4] at q
          by_cases h0 : a = 0 <;> simp [h0] at q ⊢ <;> exact q
    · obtain ⟨td, htd⟩ := hi _ rfl d hd
      simp [h1, htd]
      exact z
  | ref a =>
    have h3 : t ≠ .tuple := by
      simp only [tyD] at ht
      split at ht <;> cases ht <;> (intro z; cases z)
    simp [h3]
    exact ⟨G, .refl, q⟩
  | _ => cases ht; simp; exact ⟨G, .refl, q⟩

/-- a value whose kind is known, of no great size -/
def TZ (G : DH) (x : D) : Prop := Typed G x ∧ ∀ ds, x = .tup ds → ds.length ≤ 2000
theorem TZ.ints {G : DH} {l : List Int} (h : l.length ≤ 2000) : TZ G (tI l) := ⟨Typed.ints, fun ds e => by cases e; simpa using h⟩
@[simp] theorem isip_at {x : D} {G : DH} {Q : QD} {E : ED} : S_is_integer_polynomial [x] G Q E ↔ TZ G x ∧ Q (.bl (isIP x)) G := by
  constructor
  · rintro ⟨x', e, h1, h2, q⟩
    cases e
    exact ⟨⟨h1, h2⟩, q⟩
  · rintro ⟨⟨h1, h2⟩, q⟩
    exact ⟨x, rfl, h1, h2, q⟩
def xPoly (x : D) : XD := raisedBy "InvalidPolynomial" "given" x
def xNum (x : D) : XD := raisedBy "InvalidNumber" "given" x
def xMany (n : Int) : XD := raisedBy "TooMany" "count" (.int n)
def chkP (x : D) : XR := if isIP x = true then .ok .non else .error (xPoly x)
def S_check_polynomial : DSp := fun ds G Q E => ∃ x, ds = [x] ∧ TZ G x ∧ post (chkP x) Q E G
theorem run_check_polynomial {Γ : GE} (h1 : Fn Γ "is_integer_polynomial" ["value"] S_is_integer_polynomial) (h2 : Γ.exc "InvalidPolynomial" = some [Str.ofString "given"]) {ds : List D} {G : DH} {Q : QD} {E : ED} (hl : ds.length = 1) (h : S_check_polynomial ds G Q E) : Runs Γ m_check_polynomial 1 ds G Q E := by
  obtain ⟨k1, d1, h1⟩ := h1
  obtain ⟨x, rfl, hx, q⟩ := h
  unfold Runs m_check_polynomial
  simp [startD, dEnds, h1, h2, hx]
  unfold chkP at q
  cases hip : isIP x with
  | true =>
    rw [if_pos hip] at q
    simp
    exact ⟨G, .refl, q⟩
  | false =>
    rw [if_neg (by rw [hip]; exact Bool.false_ne_true)] at q
    simp
    exact ⟨G, .refl, q⟩
def oD : Option Int → D
  | none => .non
  | some i => .int i
def numOk (lo hi : Option Int) (i : Int) : Bool := (match lo with | none => true | some l => decide (l ≤ i)) && (match hi with | none => true | some h => decide (i ≤ h))
def chkN (lo hi : Option Int) (x : D) : XR := match x with
  | .int i => if numOk lo hi i = true then .ok .non else .error (xNum x)
  | _ => .error (xNum x)
def S_check_number : DSp := fun ds G Q E => ∃ x lo hi, ds = [x, oD lo, oD hi] ∧ (∃ t, tyD G x = some t) ∧ post (chkN lo hi x) Q E G
theorem run_check_number {Γ : GE} (h1 : Fn Γ "is_integer" ["value"] S_is_integer) (h2 : Γ.exc "InvalidNumber" = some [Str.ofString "given"]) {ds : List D} {G : DH} {Q : QD} {E : ED} (hl : ds.length = 3) (h : S_check_number ds G Q E) : Runs Γ m_check_number 3 ds G Q E := by
  obtain ⟨k1, d1, h1⟩ := h1
  obtain ⟨x, lo, hi, rfl, hx, q⟩ := h
  unfold Runs m_check_number
  simp [startD, dEnds, h1, h2, hx]
  cases hI : isI x with
  | false =>
    simp
    have e : chkN lo hi x = .error (xNum x) := by cases x <;> first | rfl | exact absurd hI (by simp [isI])
    rw [e] at q
    exact ⟨G, .refl, q⟩
  | true =>
    cases x with
    | int i =>
      have fin : (numOk lo hi i = true → Q .non G) ∧ (numOk lo hi i = false → E (xNum (.int i)) G) := by
        constructor <;> intro z
        · have q' : post (if numOk lo hi i = true then .ok .non else .error (xNum (.int i))) Q E G := q
          rw [if_pos z] at q'; exact q'
        · have q' : post (if numOk lo hi i = true then .ok .non else .error (xNum (.int i))) Q E G := q
          rw [if_neg (by rw [z]; exact Bool.false_ne_true)] at q'; exact q'
      cases lo with
      | none =>
        cases hi with
        | none =>
          simp [oD]
          exact ⟨G, .refl, fin.1 rfl⟩
        | some h =>
          simp [oD]
          by_cases hh : i ≤ h
          · exact ite_l (.inl ⟨by omega, G, .refl, fin.1 (by simp [numOk, hh])⟩)
          · exact ite_l (.inr ⟨by omega, G, .refl, fin.2 (by simp [numOk, hh])⟩)
      | some l =>
        cases hi with
        | none =>
          simp [oD]
          by_cases hh : l ≤ i
          · exact ite_l (.inl ⟨by omega, G, .refl, fin.1 (by simp [numOk, hh])⟩)
          · exact ite_l (.inr ⟨by omega, G, .refl, fin.2 (by simp [numOk, hh])⟩)
        | some h =>
          simp [oD]
          by_cases hh : l ≤ i
          · refine ite_l (.inl ⟨by omega, ?_⟩)
            by_cases hj : i ≤ h
            · exact ite_l (.inl ⟨by omega, G, .refl, fin.1 (by simp [numOk, hh, hj])⟩)
            · exact ite_l (.inr ⟨by omega, G, .refl, fin.2 (by simp [numOk, hj])⟩)
          · exact ite_l (.inr ⟨by omega, G, .refl, fin.2 (by simp [numOk, hh])⟩)
    | _ => exact absurd hI (by simp [isI])
def chkDeg (n : Int) : XR := if 60 < n then .error (xMany n) else .ok .non
def S_check_degree : DSp := fun ds G Q E => ∃ n, ds = [.int n] ∧ post (chkDeg n) Q E G
theorem run_check_degree {Γ : GE} (h1 : Γ.con "MOST_DEGREE" = some (.int 60)) (h2 : Γ.exc "TooMany" = some [Str.ofString "count"]) {ds : List D} {G : DH} {Q : QD} {E : ED} (hl : ds.length = 1) (h : S_check_degree ds G Q E) : Runs Γ m_check_degree 1 ds G Q E := by
  obtain ⟨n, rfl, q⟩ := h
  unfold Runs m_check_degree
  simp [startD, dEnds, h1, h2]
  unfold chkDeg at q
  by_cases hn : n ≤ 60
  · rw [if_neg (by omega)] at q
    exact ite_l (.inl ⟨by omega, G, .refl, q⟩)
  · rw [if_pos (by omega)] at q
    exact ite_l (.inr ⟨by omega, G, .refl, q⟩)
/-! ### lists of coefficients -/
/-- the items of a tuple, of a list -/
def sqOf (G : DH) : D → Option (List D)
  | .tup ds => some ds
  | .ref a => sqAt G a
  | _ => none
theorem trim_take {l : List Int} {m : Nat} (h : m < l.length) : trim (l.take (m + 1)) = if l[m] = 0 then trim (l.take m) else l.take (m + 1) := by
  rw [List.take_succ, List.getElem?_eq_getElem h, Option.toList_some]
  show trimP isz (l.take m ++ [l[m]]) = _
  rw [trimP_snoc]
  by_cases h0 : l[m] = 0 <;> simp [isz, h0]
theorem cut_to {l : List D} {m : Nat} (h : m ≤ l.length) : cutL l none (some (m : Int)) = l.take m := by
  unfold cutL
  rw [HT.sIx_nat, HT.sIx_none, List.drop_zero, Nat.sub_zero, Nat.min_eq_left h]
theorem cut_from {l : List D} {m : Nat} (h : m ≤ l.length) : cutL l (some (m : Int)) none = l.drop m := by
  unfold cutL
  rw [HT.sIx_nat, HT.sIx_none, Nat.min_eq_left h, List.take_of_length_le (by rw [List.length_drop]; omega)]
def S_trimmed : DSp := fun ds G Q _ => ∃ x l, ds = [x] ∧ sqOf G x = some (iL l) ∧ l.length ≤ 2000 ∧ Q (tI (trim l)) G
@[simp] theorem trimmed_at {x : D} {G : DH} {Q : QD} {E : ED} : S_trimmed [x] G Q E ↔ ∃ l, sqOf G x = some (iL l) ∧ l.length ≤ 2000 ∧ Q (tI (trim l)) G := by
  constructor
  · rintro ⟨x', l, e, h⟩
    cases e
    exact ⟨l, h⟩
  · rintro ⟨l, h⟩
    exact ⟨x, l, rfl, h⟩
theorem run_trimmed {Γ : GE} {ds : List D} {G : DH} {Q : QD} {E : ED} (hl : ds.length = 1) (h : S_trimmed ds G Q E) : Runs Γ m_trimmed 2 ds G Q E := by
  obtain ⟨x, l, rfl, hx, hz, q⟩ := h
  unfold Runs m_trimmed
  cases x with
  | tup ds =>
    obtain rfl : ds = iL l := by simpa [sqOf] using hx
    simp [startD, dEnds, List.replicate]
    refine while_rule (fun n σ G' => G' = G ∧ ∃ j : Nat, n = j ∧ j ≤ l.length ∧ σ = [some (tI l), some (.int j)] ∧ trim (l.take j) = trim l) l.length ⟨rfl, l.length, rfl, by omega, rfl, by rw [List.take_length]⟩ ?_
    rintro n σ G' Kn ⟨rfl, j, rfl, hj, rfl, ht⟩ hK
    have out : trim l = l.take n → ∃ G2, Sub G2 G' ∧ Q (.tup (cutL (iL l) none (some (n : Int)))) G2 := fun e => by
      rw [cut_to (by simpa using hj), ← List.map_take, ← e]
      exact ⟨G', .refl, q⟩
    cases n with
    | zero =>
      simp
      exact out (by rw [← ht]; rfl)
    | succ n =>
      have hn : n < l.length := by omega
      have tt := trim_take hn
      have e1 : ((n : Int) + 1 - 1) = (n : Int) := by omega
      simp [e1, hn]
      by_cases h0 : l[n] = 0
      · exact ite_l (.inr ⟨h0, hK n _ G' (by omega) ⟨rfl, n, rfl, by omega, rfl, by rw [← ht, tt, if_pos h0]⟩⟩)
      · exact ite_l (.inl ⟨h0, out (by rw [← ht, tt, if_neg h0])⟩)
  | ref a =>
    have ha : sqAt G a = some (iL l) := hx
    simp [startD, dEnds, List.replicate, ha]
    refine while_rule (fun n σ G' => G' = G ∧ ∃ j : Nat, n = j ∧ j ≤ l.length ∧ σ = [some (.ref a), some (.int j)] ∧ trim (l.take j) = trim l) l.length ⟨rfl, l.length, rfl, by omega, rfl, by rw [List.take_length]⟩ ?_
    rintro n σ G' Kn ⟨rfl, j, rfl, hj, rfl, ht⟩ hK
    have out : trim l = l.take n → ∀ p, G' p = none → ∃ G2, Sub G2 (put G' p (.lst (cutL (iL l) none (some (n : Int))))) ∧ Q (.tup (cutL (iL l) none (some (n : Int)))) G2 := fun e p hp => by
      rw [cut_to (by simpa using hj), ← List.map_take, ← e]
      exact ⟨G', .put hp, q⟩
    cases n with
    | zero =>
      simp [ha]
      exact out (by rw [← ht]; rfl)
    | succ n =>
      have hn : n < l.length := by omega
      have tt := trim_take hn
      have e1 : ((n : Int) + 1 - 1) = (n : Int) := by omega
      simp [e1, hn, ha]
      by_cases h0 : l[n] = 0
      · exact ite_l (.inr ⟨h0, hK n _ G' (by omega) ⟨rfl, n, rfl, by omega, rfl, by rw [← ht, tt, if_pos h0]⟩⟩)
      · exact ite_l (.inl ⟨h0, out (by rw [← ht, tt, if_neg h0])⟩)
  | _ => cases hx
end DL.LW

set_option Elab.async false
set_option linter.all false
set_option maxRecDepth 100000
set_option maxHeartbeats 4000000
namespace DL.LW
open PySem PySem.Spec PyProof.Rows L2 DL TL PM
/-! L1b: the program's integer polynomials: sums, products, powers. -/
theorem iL_get {l : List Int} {k : Nat} (h : k < l.length) : (iL l)[k]? = some (.int l[k]) := by simp [h]
theorem getD_lt {l : List Int} {k : Nat} (h : k < l.length) : l.getD k 0 = l[k] := by rw [List.getD_eq_getElem?_getD, List.getElem?_eq_getElem h]; rfl
theorem getD_ge {l : List Int} {k : Nat} (h : l.length ≤ k) : l.getD k 0 = 0 := by rw [List.getD_eq_getElem?_getD, List.getElem?_eq_none h]; rfl
def S_item_at : DSp := fun ds G Q _ => ∃ (l : List Int) (k : Nat), ds = [tI l, .int k] ∧ Q (.int (l.getD k 0)) G
theorem item_at_at {l : List Int} {k : Nat} {G : DH} {Q : QD} {E : ED} (q : Q (.int (l.getD k 0)) G) : S_item_at [tI l, .int k] G Q E := ⟨l, k, rfl, q⟩
theorem run_item_at {Γ : GE} {ds : List D} {G : DH} {Q : QD} {E : ED} (hl : ds.length = 2) (h : S_item_at ds G Q E) : Runs Γ m_item_at 2 ds G Q E := by
  obtain ⟨l, k, rfl, q⟩ := h
  unfold Runs m_item_at
  simp [startD, dEnds]
  by_cases h : k < l.length
  · rw [getD_lt h] at q
    exact ite_l (.inr ⟨h, .int l[k], by simp [h], G, .refl, q⟩)
  · rw [getD_ge (by omega)] at q
    exact ite_l (.inl ⟨by omega, G, .refl, q⟩)
/-- one + factor other -/
def psum (a b : List Int) (f : Int) : List Int := trim ((List.range (max a.length b.length)).map fun k => a.getD k 0 + f * b.getD k 0)
theorem toS_psum (a b : List Int) (f : Int) : toS (psum a b f) = toS a + PS.K f * toS b := by
  have e : (List.range (max a.length b.length)).map (fun k => a.getD k 0 + f * b.getD k 0) = lst (max a.length b.length) (toS a + PS.K f * toS b) := by
    unfold lst
    refine List.map_congr_left fun k _ => ?_
    rw [PS.add_c, PS.K_mul]; rfl
  unfold psum
  rw [e, toS_trim, toS_lst fun k hk => ?_]
  rw [PS.add_c, PS.K_mul, toS_ge (by omega), toS_ge (by omega)]; simp
theorem psum_trm (a b : List Int) (f : Int) : Trm (psum a b f) := tr_trim _
theorem psum_len (a b : List Int) (f : Int) : (psum a b f).length ≤ max a.length b.length := by
  unfold psum
  exact Nat.le_trans (trimP_le _) (by simp)
theorem Bd.psum {m n : Nat} {a b : List Int} {f : Int} (ha : Bd m a) (hb : Bd m b) (hf : Sz n f) : Bd (m + n + 1) (psum a b f) := by
  unfold LW.psum
  refine Bd.trim fun c hc => ?_
  obtain ⟨k, _, rfl⟩ := List.mem_map.mp hc
  refine Sz.add ((ha.get k).mono (by omega)) ?_
  rw [Nat.add_comm m n]
  exact hf.mul (hb.get k)
def S_sum_of : DSp := fun ds G Q _ => ∃ (a b : List Int) (f : Int), ds = [tI a, tI b, .int f] ∧ a.length ≤ 1000 ∧ b.length ≤ 1000 ∧ (∀ k, IntMulOk f (b.getD k 0)) ∧ Q (tI (psum a b f)) G
theorem run_sum_of {Γ : GE} (h1 : Fn Γ "trimmed" ["items"] S_trimmed) (h2 : Fn Γ "item_at" ["one", "place"] S_item_at) {ds : List D} {G : DH} {Q : QD} {E : ED} (hl : ds.length = 3) (h : S_sum_of ds G Q E) : Runs Γ m_sum_of 5 ds G Q E := by
  obtain ⟨k1, d1, h1⟩ := h1
  obtain ⟨k2, d2, h2⟩ := h2
  obtain ⟨a, b, f, rfl, la, lb, hm, q⟩ := h
  have hsz := sizeLine_eq
  unfold Runs m_sum_of
  simp [startD, dEnds, List.replicate, h1, h2]
  have em : ((max (a.length : Int) (b.length : Int))) = ((max a.length b.length : Nat) : Int) := by omega
  rw [em]
  refine ⟨by omega, by omega, by rw [rangeL_length]; omega, ?_⟩
  refine lc_all (fun d => match d with | .int i => .int (a.getD i.toNat 0 + f * b.getD i.toNat 0) | d => d) srcOk_nil (fun d hd K1 K0 z => ?_) ?_
  · obtain ⟨i, hi, rfl⟩ := range_mem hd
    simp [h2]
    refine item_at_at ?_
    refine item_at_at ?_
    simp
    exact ⟨hm i, z⟩
  · intro p hp
    have e : (rangeL 0 (max a.length b.length) 1).map (fun d => match d with | .int i => D.int (a.getD i.toNat 0 + f * b.getD i.toNat 0) | d => d) = iL ((List.range (max a.length b.length)).map fun k => a.getD k 0 + f * b.getD k 0) := by
      unfold rangeL
      simp
    rw [Int.toNat_natCast, e]
    refine ⟨_, by simp [sqOf], by simp; omega, G, .put hp, q⟩
def S_multiple_of : DSp := fun ds G Q _ => ∃ (a : List Int) (n : Int), ds = [tI a, .int n] ∧ a.length ≤ 1000 ∧ (∀ c ∈ a, IntMulOk n c) ∧ Q (tI (trim (a.map (n * ·)))) G
theorem run_multiple_of {Γ : GE} (h1 : Fn Γ "trimmed" ["items"] S_trimmed) {ds : List D} {G : DH} {Q : QD} {E : ED} (hl : ds.length = 2) (h : S_multiple_of ds G Q E) : Runs Γ m_multiple_of 3 ds G Q E := by
  obtain ⟨k1, d1, h1⟩ := h1
  obtain ⟨a, n, rfl, la, hm, q⟩ := h
  have hsz := sizeLine_eq
  unfold Runs m_multiple_of
  simp [startD, dEnds, List.replicate, h1]
  refine ⟨by omega, ?_⟩
  refine lc_all (fun d => match d with | .int i => .int (n * i) | d => d) srcOk_nil (fun d hd K1 K0 z => ?_) ?_
  · obtain ⟨c, hc, rfl⟩ := List.mem_map.mp hd
    simp
    exact ⟨hm c hc, z⟩
  · intro p hp
    rw [List.map_map]
    refine ⟨a.map (n * ·), by simp [sqOf], by simp; omega, G, .put hp, q⟩
theorem ixN_nat {n k : Nat} (h : k < n) : ixN n (k : Int) = some k := by
  unfold ixN
  rw [if_pos (by omega), if_pos (by omega), Int.toNat_natCast]
theorem rep_flat {n : Nat} : (List.replicate n [D.int 0]).flatten = iL (List.replicate n 0) := by
  induction n with
  | zero => rfl
  | succ n ih => rw [List.replicate_succ, List.flatten_cons, ih]; rfl
theorem enumL_some {ds : List D} {i : Nat} {d : D} (h : (enumL 0 ds)[i]? = some d) : ∃ e, ds[i]? = some e ∧ d = .tup [.int (i : Nat), e] := by
  obtain ⟨e, h1, h2⟩ := enumL_get h
  exact ⟨e, h1, by rw [h2, Nat.zero_add]⟩
theorem iL_some {l : List Int} {i : Nat} {e : D} (h : (iL l)[i]? = some e) : ∃ h : i < l.length, e = .int l[i] := by
  have hi : i < l.length := by
    have := (List.getElem?_eq_some_iff.mp h).1
    simpa using this
  rw [iL_get hi] at h
  exact ⟨hi, (Option.some.inj h).symm⟩
/-- a store into the list that grows to a product -/
theorem acc_set {a b : List Int} {i j n : Nat} (hj : i + j < n) : (iL (lst n (accP a b i j))).set (i + j) (.int ((accP a b i j).c (i + j) + a.getD i 0 * b.getD j 0)) = iL (lst n (accP a b i (j + 1))) := by
  rw [← accP_step]; exact List.map_set.symm
theorem acc_get {a b : List Int} {i j n : Nat} (hj : i + j < n) : (iL (lst n (accP a b i j)))[i + j]? = some (.int ((accP a b i j).c (i + j))) := by
  rw [List.getElem?_map, lst_get hj]; rfl
def S_product_of : DSp := fun ds G Q _ => ∃ (a b : List Int) (m n : Nat), ds = [tI a, tI b] ∧ a.length ≤ 900 ∧ b.length ≤ 900 ∧ Bd m a ∧ Bd n b ∧ m + n ≤ 10000000 ∧ Q (tI (pmul a b)) G
theorem run_product_of {Γ : GE} (h1 : Fn Γ "trimmed" ["items"] S_trimmed) {ds : List D} {G : DH} {Q : QD} {E : ED} (hl : ds.length = 2) (h : S_product_of ds G Q E) : Runs Γ m_product_of 7 ds G Q E := by
  obtain ⟨k1, d1, h1⟩ := h1
  obtain ⟨a, b, m, n, rfl, la, lb, ba, bb, hmn, q⟩ := h
  have hsz := sizeLine_eq
  unfold Runs m_product_of
  simp [startD, dEnds, List.replicate, h1]
  have em : (max (0 : Int) ((a.length : Int) + (b.length : Int) - 1)) = ((a.length + b.length - 1 : Nat) : Int) := by omega
  try simp only [em]
  refine fun p0 hp0 => ⟨by omega, by omega, by omega, fun p hp => ?_⟩
  have s0 : Sub G (put G p0 (.lst [.int 0])) := .put hp0
  generalize put G p0 (.lst [.int 0]) = G1 at *
  generalize hN : a.length + b.length - 1 = N at *
  have e0 : List.replicate (N : Int).toNat (D.int 0) = iL (lst N (accP a b 0 0)) := by rw [accP_zero, lst_zero, Int.toNat_natCast]; simp [iL]
  rw [e0]
  refine for_rule (fun i σ G' => ∃ s3 s4 s5 s6, σ = [some (tI a), some (tI b), some (.ref p), s3, s4, s5, s6] ∧ G' = put G1 p (.lst (iL (lst N (accP a b i 0))))) ⟨_, _, _, _, rfl, rfl⟩ (fun _ _ _ _ _ => srcOk_nil) ?_ ?_
  · rintro i d σ G' Kn hd ⟨s3, s4, s5, s6, rfl, rfl⟩ hK
    obtain ⟨e, he, rfl⟩ := enumL_some hd
    obtain ⟨hi, rfl⟩ := iL_some he
    simp
    refine for_rule (fun j σ G' => ∃ s5 s6, σ = [some (tI a), some (tI b), some (.ref p), some (.int i), some (.int a[i]), s5, s6] ∧ G' = put G1 p (.lst (iL (lst N (accP a b i j))))) ⟨_, _, rfl, rfl⟩ (fun _ _ _ _ _ => srcOk_nil) ?_ ?_
    · rintro j d σ G' Kn hd ⟨s5, s6, rfl, rfl⟩ hK
      obtain ⟨e, he, rfl⟩ := enumL_some hd
      obtain ⟨hj, rfl⟩ := iL_some he
      have hij : i + j < N := by omega
      have ec : ((i : Int) + (j : Int)) = ((i + j : Nat) : Int) := by omega
      simp
      rw [ec]
      refine ⟨.int ((accP a b i j).c (i + j)), by rw [atI_nat]; exact acc_get hij, mulOk (ba _ (List.getElem_mem hi)) (bb _ (List.getElem_mem hj)) (by omega), ?_⟩
      simp
      refine ⟨i + j, ixN_nat (by rw [lst_length]; exact hij), hK _ _ ⟨_, _, rfl, ?_⟩⟩
      have := acc_set (a := a) (b := b) hij
      rw [getD_lt hi, getD_lt hj] at this
      rw [this]
    · rintro σ G' ⟨s5, s6, rfl, rfl⟩
      rw [enumL_length, List.length_map, accP_row]
      exact hK _ _ ⟨_, _, _, _, rfl, rfl⟩
  · rintro σ G' ⟨s3, s4, s5, s6, rfl, rfl⟩
    rw [enumL_length, List.length_map, accP_end]
    simp
    refine ⟨lst N (toS a * toS b), by simp [sqOf], by rw [lst_length]; omega, G, s0.trans (.put hp), ?_⟩
    unfold pmul at q
    rw [hN] at q
    exact q
/-! ### powers -/
def ppow (a : List Int) : Nat → List Int
  | 0 => [1]
  | n + 1 => pmul (ppow a n) a
theorem ppow_len (a : List Int) : ∀ n, (ppow a n).length ≤ n * a.length + 1
  | 0 => by simp [ppow]
  | n + 1 => by
    have h1 := ppow_len a n
    have h2 := pmul_len (ppow a n) a
    show (pmul (ppow a n) a).length ≤ _
    rw [Nat.succ_mul]; omega
theorem Bd.ppow {m : Nat} {a : List Int} (h : Bd m a) : ∀ n, n * a.length ≤ 900 → Bd (n * (m + 10) + 1) (ppow a n)
  | 0, _ => by
    intro c hc
    have : c = 1 := by simpa [LW.ppow] using hc
    rw [this]; exact sz1 (by omega)
  | n + 1, hn => by
    rw [Nat.succ_mul] at hn
    have h1 := ppow_len a n
    have := (Bd.ppow h n (by omega)).pmul h (by omega)
    refine this.mono ?_
    rw [Nat.succ_mul]; omega
theorem trm_ppow {a : List Int} : ∀ n, Trm (ppow a n)
  | 0 => tr_snoc (l := []) (by simp [isz])
  | n + 1 => trm_pmul _ _
def S_product_of_all : DSp := fun ds G Q _ => ∃ (p : Addr) (a : List Int) (n m : Nat), ds = [.ref p] ∧ G p = some (.lst (List.replicate n (tI a))) ∧ n ≤ 100 ∧ n * a.length ≤ 800 ∧ a.length ≤ 800 ∧ Bd m a ∧ m ≤ 10000 ∧ Q (tI (ppow a n)) G
theorem run_product_of_all {Γ : GE} (h1 : Fn Γ "product_of" ["one", "other"] S_product_of) {ds : List D} {G : DH} {Q : QD} {E : ED} (hl : ds.length = 1) (h : S_product_of_all ds G Q E) : Runs Γ m_product_of_all 3 ds G Q E := by
  obtain ⟨k1, d1, h1⟩ := h1
  obtain ⟨p, a, n, m, rfl, hp, hn, hla, hla2, ba, hm, q⟩ := h
  have hs := sqAt_some.mpr hp
  unfold Runs m_product_of_all
  simp [startD, dEnds, List.replicate, h1, hs]
  refine for_rule (fun i σ G' => ∃ s2, σ = [some (.ref p), some (tI (ppow a i)), s2] ∧ G' = G) ⟨_, rfl, rfl⟩ (fun i σ G' _ ⟨_, _, e⟩ => by rw [e]; exact srcOk_one hs) ?_ ?_
  · rintro i d σ G' Kn hd ⟨s2, rfl, rfl⟩ hK
    have hi : i < n := by
      have := (List.getElem?_eq_some_iff.mp hd).1
      simpa using this
    obtain rfl : d = tI a := by
      rw [List.getElem?_replicate, if_pos hi] at hd
      exact (Option.some.inj hd).symm
    simp [h1]
    have h2 := ppow_len a i
    have h3 : i * a.length ≤ n * a.length := Nat.mul_le_mul_right _ (by omega)
    have h4 : i * (m + 10) ≤ 100 * (10000 + 10) := Nat.mul_le_mul (by omega) (by omega)
    exact ⟨_, _, i * (m + 10) + 1, m, rfl, by omega, by omega, ba.ppow i (by omega), ba, by omega, hK _ _ ⟨_, rfl, rfl⟩⟩
  · rintro σ G' ⟨s2, rfl, rfl⟩
    simp
    exact ⟨G', .refl, q⟩
def S_power_of : DSp := fun ds G Q _ => ∃ (a : List Int) (n m : Nat), ds = [tI a, .int n] ∧ n ≤ 100 ∧ n * a.length ≤ 800 ∧ a.length ≤ 800 ∧ Bd m a ∧ m ≤ 10000 ∧ Q (tI (ppow a n)) G
theorem run_power_of {Γ : GE} (h1 : Fn Γ "product_of_all" ["polynomials"] S_product_of_all) {ds : List D} {G : DH} {Q : QD} {E : ED} (hl : ds.length = 2) (h : S_power_of ds G Q E) : Runs Γ m_power_of 2 ds G Q E := by
  obtain ⟨k1, d1, h1⟩ := h1
  obtain ⟨a, n, m, rfl, hn, hla, hla2, ba, hm, q⟩ := h
  have hsz := sizeLine_eq
  unfold Runs m_power_of
  simp [startD, dEnds, h1]
  refine fun p hp => ⟨by omega, by omega, fun r hr => ?_⟩
  exact ⟨r, a, n, m, rfl, put_same, hn, hla, hla2, ba, hm, G, (Sub.put hp).trans (.put hr), q⟩
def S_degree_of : DSp := fun ds G Q _ => ∃ xs, ds = [.tup xs] ∧ Q (.int ((xs.length : Int) - 1)) G
@[simp] theorem degree_of_at {xs : List D} {G : DH} {Q : QD} {E : ED} : S_degree_of [.tup xs] G Q E ↔ Q (.int ((xs.length : Int) - 1)) G := by
  constructor
  · rintro ⟨xs', e, q⟩
    cases e; exact q
  · exact fun q => ⟨xs, rfl, q⟩
theorem run_degree_of {Γ : GE} {ds : List D} {G : DH} {Q : QD} {E : ED} (hl : ds.length = 1) (h : S_degree_of ds G Q E) : Runs Γ m_degree_of 1 ds G Q E := by
  obtain ⟨xs, rfl, q⟩ := h
  unfold Runs m_degree_of
  simp [startD, dEnds]
  exact ⟨G, .refl, q⟩
/-! ### values -/
def horner (a : List Int) (x : Int) : Int := a.foldr (fun c f => f * x + c) 0
theorem horner_snd (a : List Int) (x : Int) (i : Nat) (h : i < a.length) : horner (a.drop i) x = horner (a.drop (i + 1)) x * x + a[i] := by
  rw [List.drop_eq_getElem_cons h]; rfl
theorem horner_sz {m n : Nat} {x : Int} (hx : Sz n x) : ∀ {a : List Int}, Bd m a → Sz (a.length * (n + 1) + m) (horner a x)
  | [], _ => sz0
  | c :: a, h => by
    have h1 := horner_sz hx (a := a) fun d hd => h d (List.mem_cons_of_mem _ hd)
    have h2 : Sz m c := h c List.mem_cons_self
    show Sz _ (horner a x * x + c)
    have h3 := (h1.mul hx).add (h2.mono (n := a.length * (n + 1) + m + n) (by omega))
    refine h3.mono ?_
    rw [List.length_cons, Nat.succ_mul]; omega
def S_value_of : DSp := fun ds G Q _ => ∃ (a : List Int) (x : Int) (m n : Nat), ds = [tI a, .int x] ∧ a.length ≤ 900 ∧ Bd m a ∧ Sz n x ∧ m ≤ 10000 ∧ n ≤ 10000 ∧ Q (.int (horner a x)) G
theorem run_value_of {Γ : GE} {ds : List D} {G : DH} {Q : QD} {E : ED} (hl : ds.length = 2) (h : S_value_of ds G Q E) : Runs Γ m_value_of 4 ds G Q E := by
  obtain ⟨a, x, m, n, rfl, la, ba, hx, hm, hn, q⟩ := h
  unfold Runs m_value_of
  simp [startD, dEnds, List.replicate]
  refine for_rule (fun i σ G' => ∃ s3, σ = [some (tI a), some (.int x), some (.int (horner (a.drop (a.length - i)) x)), s3] ∧ G' = G) ⟨none, by simp [horner], rfl⟩ (fun _ _ _ _ _ => srcOk_nil) ?_ ?_
  · rintro i d σ G' Kn hd ⟨s3, rfl, rfl⟩ hK
    obtain ⟨hi, hd⟩ := get_rev hd
    rw [List.length_map] at hi hd
    obtain ⟨hj, rfl⟩ := iL_some hd
    simp
    have e1 : a.length - i = (a.length - 1 - i) + 1 := by omega
    have e2 := horner_snd a x (a.length - 1 - i) hj
    rw [← e1] at e2
    have s1 := horner_sz hx (a := a.drop (a.length - i)) fun c hc => ba c (List.mem_of_mem_drop hc)
    have e3 : (a.drop (a.length - i)).length * (n + 1) ≤ 900 * 10001 := Nat.mul_le_mul (by rw [List.length_drop]; omega) (by omega)
    refine ⟨mulOk s1 hx (by omega), hK _ _ ⟨some (.int a[a.length - 1 - i]), ?_, rfl⟩⟩
    rw [← e2, show a.length - (i + 1) = a.length - 1 - i by omega]
  · rintro σ G' ⟨s3, rfl, rfl⟩
    simp
    exact ⟨G', .refl, q⟩
/-! ### derivatives, compositions -/
def derL (a : List Int) : List Int := ((List.range a.length).map fun (k : Nat) => (k : Int) * a.getD k 0).drop 1
def S_derivative_of : DSp := fun ds G Q _ => ∃ (a : List Int), ds = [tI a] ∧ a.length ≤ 900 ∧ Q (tI (trim (derL a))) G
theorem run_derivative_of {Γ : GE} (h1 : Fn Γ "trimmed" ["items"] S_trimmed) {ds : List D} {G : DH} {Q : QD} {E : ED} (hl : ds.length = 1) (h : S_derivative_of ds G Q E) : Runs Γ m_derivative_of 3 ds G Q E := by
  obtain ⟨k1, d1, h1⟩ := h1
  obtain ⟨a, rfl, la, q⟩ := h
  have hsz := sizeLine_eq
  unfold Runs m_derivative_of
  simp [startD, dEnds, List.replicate, h1]
  refine ⟨by rw [enumL_length, List.length_map]; omega, ?_⟩
  refine lc_all (fun d => match d with | .tup [.int i, .int c] => .int (i * c) | d => d) srcOk_nil (fun d hd K1 K0 z => ?_) ?_
  · obtain ⟨i, hi⟩ := List.getElem?_of_mem hd
    obtain ⟨e, he, rfl⟩ := enumL_some hi
    obtain ⟨hi, rfl⟩ := iL_some he
    simp
    exact ⟨.of_left (intBits_le_64 (by omega) (by omega)), z⟩
  · have e : (enumL 0 (iL a)).map (fun d => match d with | .tup [.int i, .int c] => .int (i * c) | d => d) = iL ((List.range a.length).map fun (k : Nat) => (k : Int) * a.getD k 0) := by
      refine List.ext_getElem? fun k => ?_
      by_cases hk : k < a.length
      · have : (enumL 0 (iL a))[k]? = some (.tup [.int k, .int a[k]]) := by
          have h2 : k < (enumL 0 (iL a)).length := by rw [enumL_length, List.length_map]; exact hk
          rw [List.getElem?_eq_getElem h2]
          obtain ⟨e, he, h3⟩ := enumL_some (List.getElem?_eq_getElem h2)
          rw [iL_get hk] at he
          cases he
          rw [h3]
        rw [List.getElem?_map, this, List.getElem?_map, List.getElem?_map, List.getElem?_range hk]
        simp [hk]
      · rw [List.getElem?_eq_none (by rw [List.length_map, enumL_length, List.length_map]; omega), List.getElem?_eq_none (by simp; omega)]
    rw [e]
    intro p hp
    simp
    intro p2 hp2
    have e2 : cutL (iL ((List.range a.length).map fun (k : Nat) => (k : Int) * a.getD k 0)) (some 1) none = iL (derL a) := by
      unfold derL cutL
      show _ = (((List.range a.length).map fun (k : Nat) => (k : Int) * a.getD k 0).drop 1).map D.int
      rw [List.map_drop]
      by_cases h0 : a.length = 0
      · have : a = [] := List.eq_nil_of_length_eq_zero h0
        subst this; rfl
      · rw [show HT.sIx (iL ((List.range a.length).map fun (k : Nat) => (k : Int) * a.getD k 0)).length 0 (some 1) = 1 from by rw [show (1 : Int) = ((1 : Nat) : Int) from rfl, HT.sIx_nat]; simp; omega, HT.sIx_none, List.take_of_length_le (by rw [List.length_drop]; omega)]
    simp only [List.map_map] at e2 ⊢
    refine ⟨derL a, by simp [sqOf]; exact e2, by unfold derL; simp; omega, G, (Sub.put hp).trans (.put hp2), q⟩
def pcomp (a b : List Int) : List Int := a.foldr (fun c f => psum (pmul f b) (trim [c]) 1) []
theorem pcomp_cons (c : Int) (a b : List Int) : pcomp (c :: a) b = psum (pmul (pcomp a b) b) (trim [c]) 1 := rfl
theorem trm_pcomp (a b : List Int) : Trm (pcomp a b) := by
  cases a with
  | nil => exact tr_nil
  | cons c a => exact psum_trm _ _ _
theorem trim_one_len (c : Int) : (trim [c]).length ≤ 1 := Nat.le_trans (trimP_le _) (by simp)
theorem pcomp_len (b : List Int) : ∀ a : List Int, (pcomp a b).length ≤ a.length * b.length + 1
  | [] => by simp [pcomp]
  | c :: a => by
    have h1 := pcomp_len b a
    have h2 := pmul_len (pcomp a b) b
    have h3 := psum_len (pmul (pcomp a b) b) (trim [c]) 1
    have h4 := trim_one_len c
    rw [pcomp_cons, List.length_cons, Nat.succ_mul]
    have h5 : max (pmul (pcomp a b) b).length (trim [c]).length ≤ a.length * b.length + b.length + 1 := Nat.max_le.mpr ⟨by omega, by omega⟩
    omega
theorem Bd.pcomp {m n : Nat} {b : List Int} (hb : Bd n b) : ∀ {a : List Int}, Bd m a → a.length * b.length ≤ 800 → Bd (a.length * (n + 12) + m) (pcomp a b)
  | [], _, _ => Bd.nil
  | c :: a, ha, hl => by
    rw [List.length_cons, Nat.succ_mul] at hl
    have h1 := Bd.pcomp hb (a := a) (fun d hd => ha d (List.mem_cons_of_mem _ hd)) (by omega)
    have h2 := pcomp_len b a
    have h3 : Bd m [c] := fun d hd => ha d (by rw [List.mem_singleton.mp hd]; exact List.mem_cons_self)
    rw [pcomp_cons]
    have h4 := Bd.psum (f := 1) (n := 1) (h1.pmul hb (by omega)) (h3.trim.mono (n := a.length * (n + 12) + m + n + 10) (by omega)) (sz1 (by decide))
    refine h4.mono ?_
    rw [List.length_cons, Nat.succ_mul]; omega
def S_composition_of : DSp := fun ds G Q _ => ∃ (a b : List Int) (m n : Nat), ds = [tI a, tI b] ∧ a.length ≤ 800 ∧ b.length ≤ 800 ∧ a.length * b.length ≤ 800 ∧ Bd m a ∧ Bd n b ∧ m ≤ 10000 ∧ n ≤ 10000 ∧ Q (tI (pcomp a b)) G
theorem run_composition_of {Γ : GE} (h1 : Fk Γ "sum_of" ["one", "other", "factor"] S_sum_of 2 [] [0, 1, 2] [.int 1]) (h2 : Fn Γ "product_of" ["one", "other"] S_product_of) (h3 : Fn Γ "trimmed" ["items"] S_trimmed) {ds : List D} {G : DH} {Q : QD} {E : ED} (hl : ds.length = 2) (h : S_composition_of ds G Q E) : Runs Γ m_composition_of 4 ds G Q E := by
  obtain ⟨k1, h1, m1⟩ := h1
  obtain ⟨k2, d2, h2⟩ := h2
  obtain ⟨k3, d3, h3⟩ := h3
  obtain ⟨a, b, m, n, rfl, la, lb, lab, ba, bb, hm, hn, q⟩ := h
  unfold Runs m_composition_of
  simp [startD, dEnds, List.replicate]
  refine for_rule (fun i σ G' => ∃ s3, σ = [some (tI a), some (tI b), some (tI (pcomp (a.drop (a.length - i)) b)), s3] ∧ Sub G G') ⟨none, by simp [pcomp], .refl⟩ (fun _ _ _ _ _ => srcOk_nil) ?_ ?_
  · rintro i d σ G' Kn hd ⟨s3, rfl, sg⟩ hK
    obtain ⟨hi, hd⟩ := get_rev hd
    rw [List.length_map] at hi hd
    obtain ⟨hj, rfl⟩ := iL_some hd
    generalize hA : a.drop (a.length - i) = A at *
    have lA : A.length = i := by rw [← hA, List.length_drop]; omega
    have bA : Bd m A := fun c hc => ba c (by rw [← hA] at hc; exact List.mem_of_mem_drop hc)
    have hAb : (A.length + 1) * b.length ≤ a.length * b.length := Nat.mul_le_mul_right _ (by omega)
    rw [Nat.succ_mul] at hAb
    have l1 := pcomp_len b A
    have b1 := Bd.pcomp bb bA (by omega)
    have e2 : pcomp (a.drop (a.length - (i + 1))) b = psum (pmul (pcomp A b) b) (trim [a[a.length - 1 - i]]) 1 := by
      rw [show a.length - (i + 1) = a.length - 1 - i by omega, List.drop_eq_getElem_cons hj, pcomp_cons, show a.length - 1 - i + 1 = a.length - i by omega, hA]
    have e3 : A.length * (n + 12) ≤ 800 * 10012 := Nat.mul_le_mul (by omega) (by omega)
    simp [h1, m1, h2, h3]
    refine ⟨_, _, _, _, rfl, by omega, by omega, b1, bb, by omega, fun p hp => ⟨[a[a.length - 1 - i]], by simp [sqOf], by simp, ?_⟩⟩
    have l2 := pmul_len (pcomp A b) b
    have l4 := trim_one_len a[a.length - 1 - i]
    refine ⟨pmul (pcomp A b) b, trim [a[a.length - 1 - i]], 1, rfl, by omega, by omega, fun k => .of_left (intBits_le_64 (by decide) (by decide)), hK _ _ ⟨_, by rw [e2], sg.trans (.put hp)⟩⟩
  · rintro σ G' ⟨s3, rfl, sg⟩
    simp
    exact ⟨G, sg, q⟩
end DL.LW

set_option Elab.async false
set_option linter.all false
set_option maxRecDepth 100000
set_option maxHeartbeats 4000000
namespace DL.LW
open PySem PySem.Spec PyProof.Rows L2 DL TL PM
/-! L1c: contents; the functions that check their arguments. -/
def contL (a : List Int) : Int := a.foldl (fun f c => (Int.gcd f c : Int)) 0
theorem contL_snoc (a : List Int) (c : Int) : contL (a ++ [c]) = (Int.gcd (contL a) c : Int) := by unfold contL; rw [List.foldl_append]; rfl
theorem take_snoc {α : Type} {l : List α} {i : Nat} (h : i < l.length) : l.take (i + 1) = l.take i ++ [l[i]] := by
  rw [List.take_succ, List.getElem?_eq_getElem h]; rfl
theorem contL_nonneg (a : List Int) : 0 ≤ contL a := by
  rcases snoc_cases a with rfl | ⟨m, c, rfl⟩
  · exact Int.le_refl _
  · rw [contL_snoc]; omega
theorem contL_last {a : List Int} (h : Trm a) (hn : a ≠ []) : 0 < contL a ∧ ∀ n, Bd n a → Sz n (contL a) := by
  rcases snoc_cases a with rfl | ⟨m, c, rfl⟩
  · exact absurd rfl hn
  · have hc : c ≠ 0 := by
      have := h c (by rw [List.getLast?_concat])
      simpa [isz] using this
    rw [contL_snoc]
    have h0 : 0 < Int.gcd (contL m) c := Int.gcd_pos_of_ne_zero_right _ hc
    refine ⟨by omega, fun n hb => ?_⟩
    have h1 : Sz n c := hb c (by simp)
    have h2 : Int.gcd (contL m) c ≤ c.natAbs := Nat.gcd_le_right _ (by omega)
    unfold Sz at *
    rw [Int.natAbs_natCast]; omega
def S_content_of : DSp := fun ds G Q _ => ∃ (a : List Int), ds = [tI a] ∧ Q (.int (contL a)) G
theorem run_content_of {Γ : GE} {ds : List D} {G : DH} {Q : QD} {E : ED} (hl : ds.length = 1) (h : S_content_of ds G Q E) : Runs Γ m_content_of 3 ds G Q E := by
  obtain ⟨a, rfl, q⟩ := h
  unfold Runs m_content_of
  simp [startD, dEnds, List.replicate]
  refine for_rule (fun i σ G' => ∃ s, σ = [some (tI a), some (.int (contL (a.take i))), s] ∧ G' = G) ⟨none, rfl, rfl⟩ (fun _ _ _ _ _ => srcOk_nil) ?_ ?_
  · rintro i d σ G' Kn hd ⟨s, rfl, rfl⟩ hK
    obtain ⟨hi, rfl⟩ := iL_some hd
    simp
    exact hK _ _ ⟨some (.int a[i]), by rw [take_snoc hi, contL_snoc]; rfl, rfl⟩
  · rintro σ G' ⟨s, rfl, rfl⟩
    simp
    exact ⟨G', .refl, q⟩
def lastI (a : List Int) : Int := (a.getLast?).getD 0
def primL (a : List Int) : List Int := a.map fun c => c.fdiv (if 0 < lastI a then contL a else -contL a)
def S_primitive_of : DSp := fun ds G Q _ => ∃ (a : List Int) (n : Nat), ds = [tI a] ∧ Trm a ∧ a.length ≤ 2000 ∧ Bd n a ∧ n ≤ 100000000 ∧ Q (tI (primL a)) G
theorem lastI_get {a : List Int} (h : a ≠ []) : (iL a).getLast? = some (.int (lastI a)) := by
  rcases snoc_cases a with rfl | ⟨m, c, rfl⟩
  · exact absurd rfl h
  · unfold lastI
    rw [List.getLast?_concat, show iL (m ++ [c]) = iL m ++ [.int c] by simp [iL], List.getLast?_concat]; rfl
theorem lastI_get' {a : List Int} (h : a ≠ []) : a.getLast? = some (lastI a) := by
  rcases snoc_cases a with rfl | ⟨m, c, rfl⟩
  · exact absurd rfl h
  · unfold lastI
    rw [List.getLast?_concat]; rfl
theorem run_primitive_of {Γ : GE} (h1 : Fn Γ "content_of" ["one"] S_content_of) {ds : List D} {G : DH} {Q : QD} {E : ED} (hl : ds.length = 1) (h : S_primitive_of ds G Q E) : Runs Γ m_primitive_of 3 ds G Q E := by
  obtain ⟨k1, d1, h1⟩ := h1
  obtain ⟨a, n, rfl, ta, la, ba, hn, q⟩ := h
  have hsz := sizeLine_eq
  unfold Runs m_primitive_of
  simp [startD, dEnds, List.replicate]
  refine eqT_i0 ?_
  by_cases h0 : a = []
  · subst h0
    simp
    exact ⟨G, .refl, q⟩
  · have he : a.isEmpty = false := by simpa using h0
    rw [he]
    obtain ⟨c0, c1⟩ := contL_last ta h0
    have sz := c1 n ba
    have key : ∀ f : Int, f ≠ 0 → Pyl f → primL a = a.map (fun c => c.fdiv f) →
        wpSs Γ (.cons (.ret (.bi .tuple (.cons (.lc [("item", 2)] (.name 2) (.seq (.var 0)) .none (.bin .FloorDiv (.var 2) (.var 1))) .nil))) .nil) (fun xd _ G1 => ∃ G2, Sub G2 G1 ∧ E xd G2) (dEnds fun d G1 => ∃ G2, Sub G2 G1 ∧ Q d G2) [some (tI a), some (.int f), none] G := by
      intro f hf hs e
      simp [dEnds]
      refine ⟨by omega, lc_all (fun d => match d with | .int i => .int (i.fdiv f) | d => d) srcOk_nil (fun d hd K1 K0 z => ?_) ?_⟩
      · obtain ⟨c, hc, rfl⟩ := List.mem_map.mp hd
        simp
        exact ⟨hf, hs, z⟩
      · intro p hp
        rw [e] at q
        refine ⟨G, .put hp, ?_⟩
        rw [List.map_map]
        have e2 : (fun c : Int => D.int (c.fdiv f)) = (fun d : D => match d with | .int i => D.int (i.fdiv f) | d => d) ∘ D.int := rfl
        rw [← e2]
        have e3 : tI (a.map fun c => c.fdiv f) = D.tup (a.map fun c => D.int (c.fdiv f)) := congrArg D.tup (by rw [List.map_map]; rfl)
        rw [e3] at q
        exact q
    simp [h1, lastI_get' h0]
    by_cases hp : 0 < lastI a
    · refine ite_l (.inr ⟨hp, a, rfl, ?_⟩)
      have := key (contL a) (by omega) trivial (by unfold primL; simp [hp])
      simpa [dEnds] using this
    · refine ite_l (.inl ⟨by omega, a, rfl, ?_⟩)
      have := key (-contL a) (by omega) trivial (by unfold primL; simp [hp])
      simpa [dEnds] using this
/-! ### the functions that check -/
def intsOf (ds : List D) : List Int := ds.map fun d => match d with
  | .int i => i
  | _ => 0
theorem intsOf_iL (l : List Int) : intsOf (iL l) = l := by
  unfold intsOf
  rw [List.map_map]
  exact (List.map_congr_left fun _ _ => rfl).trans (List.map_id l)
def P1 (f : List Int → XR) (x : D) : XR := if isIP x = true then (match x with
  | .tup ds => f (intsOf ds)
  | _ => .error (xPoly x)) else .error (xPoly x)
theorem P1_bad {f : List Int → XR} {x : D} (h : isIP x = false) : P1 f x = .error (xPoly x) := by unfold P1; rw [if_neg (by rw [h]; exact Bool.false_ne_true)]
theorem P1_trm {f : List Int → XR} {l : List Int} (h : Trm l) : P1 f (tI l) = f l := by
  unfold P1
  rw [if_pos (isIP_trm h)]
  show f (intsOf (iL l)) = f l
  rw [intsOf_iL]
theorem ip_cases (x : D) : isIP x = false ∨ ∃ l, x = tI l ∧ Trm l := by
  cases h : isIP x with
  | false => exact .inl rfl
  | true => exact .inr (isIP_iff.mp h)
def PN (lo hi : Option Int) (f : Int → XR) (y : D) : XR := match y with
  | .int n => if numOk lo hi n = true then f n else .error (xNum y)
  | _ => .error (xNum y)
theorem num_cases (lo hi : Option Int) (y : D) : (chkN lo hi y = .error (xNum y) ∧ ∀ f, PN lo hi f y = .error (xNum y)) ∨ ∃ n, y = .int n ∧ numOk lo hi n = true ∧ chkN lo hi y = .ok .non ∧ ∀ f, PN lo hi f y = f n := by
  cases y with
  | int n =>
    by_cases h : numOk lo hi n = true
    · exact .inr ⟨n, rfl, h, if_pos h, fun f => if_pos h⟩
    · exact .inl ⟨if_neg h, fun f => if_neg h⟩
  | _ => exact .inl ⟨rfl, fun f => rfl⟩
/-- of no great size -/
def SzP (x : D) : Prop := ∀ l, x = tI l → l.length ≤ 100 ∧ Bd 5000 l
def SzN (x : D) : Prop := ∀ n, x = .int n → Sz 5000 n
@[simp] theorem check_polynomial_at {x : D} {G : DH} {Q : QD} {E : ED} : S_check_polynomial [x] G Q E ↔ TZ G x ∧ post (chkP x) Q E G := by
  constructor
  · rintro ⟨x', e, h1, q⟩
    cases e
    exact ⟨h1, q⟩
  · rintro ⟨h1, q⟩
    exact ⟨x, rfl, h1, q⟩
theorem chkP_bad {x : D} (h : isIP x = false) : chkP x = .error (xPoly x) := by unfold chkP; rw [if_neg (by rw [h]; exact Bool.false_ne_true)]
theorem chkP_trm {l : List Int} (h : Trm l) : chkP (tI l) = .ok .non := if_pos (isIP_trm h)
def A1 (f : List Int → XR) : DSp := fun ds G Q E => ∃ x, ds = [x] ∧ TZ G x ∧ SzP x ∧ post (P1 f x) Q E G
def S_degree : DSp := A1 fun a => .ok (.int ((a.length : Int) - 1))
theorem run_degree {Γ : GE} (h1 : Fn Γ "check_polynomial" ["value"] S_check_polynomial) (h2 : Fn Γ "degree_of" ["one"] S_degree_of) {ds : List D} {G : DH} {Q : QD} {E : ED} (hl : ds.length = 1) (h : S_degree ds G Q E) : Runs Γ m_degree 1 ds G Q E := by
  obtain ⟨k1, d1, h1⟩ := h1
  obtain ⟨k2, d2, h2⟩ := h2
  obtain ⟨x, rfl, hx, hs, q⟩ := h
  unfold Runs m_degree
  rcases ip_cases x with hip | ⟨l, rfl, tl⟩
  · rw [P1_bad hip] at q
    simp [startD, dEnds, h1, hx, chkP_bad hip]
    exact ⟨G, .refl, q⟩
  · rw [P1_trm tl] at q
    simp [startD, dEnds, h1, h2, hx, chkP_trm tl]
    exact ⟨G, .refl, q⟩
def S_derived : DSp := A1 fun a => .ok (tI (trim (derL a)))
theorem run_derived {Γ : GE} (h1 : Fn Γ "check_polynomial" ["value"] S_check_polynomial) (h2 : Fn Γ "derivative_of" ["one"] S_derivative_of) {ds : List D} {G : DH} {Q : QD} {E : ED} (hl : ds.length = 1) (h : S_derived ds G Q E) : Runs Γ m_derived 1 ds G Q E := by
  obtain ⟨k1, d1, h1⟩ := h1
  obtain ⟨k2, d2, h2⟩ := h2
  obtain ⟨x, rfl, hx, hs, q⟩ := h
  unfold Runs m_derived
  rcases ip_cases x with hip | ⟨l, rfl, tl⟩
  · rw [P1_bad hip] at q
    simp [startD, dEnds, h1, hx, chkP_bad hip]
    exact ⟨G, .refl, q⟩
  · rw [P1_trm tl] at q
    obtain ⟨z1, z2⟩ := hs l rfl
    simp [startD, dEnds, h1, h2, hx, chkP_trm tl]
    exact ⟨l, rfl, by omega, G, .refl, q⟩
def S_content : DSp := A1 fun a => .ok (.int (contL a))
theorem run_content {Γ : GE} (h1 : Fn Γ "check_polynomial" ["value"] S_check_polynomial) (h2 : Fn Γ "content_of" ["one"] S_content_of) {ds : List D} {G : DH} {Q : QD} {E : ED} (hl : ds.length = 1) (h : S_content ds G Q E) : Runs Γ m_content 1 ds G Q E := by
  obtain ⟨k1, d1, h1⟩ := h1
  obtain ⟨k2, d2, h2⟩ := h2
  obtain ⟨x, rfl, hx, hs, q⟩ := h
  unfold Runs m_content
  rcases ip_cases x with hip | ⟨l, rfl, tl⟩
  · rw [P1_bad hip] at q
    simp [startD, dEnds, h1, hx, chkP_bad hip]
    exact ⟨G, .refl, q⟩
  · rw [P1_trm tl] at q
    simp [startD, dEnds, h1, h2, hx, chkP_trm tl]
    exact ⟨l, rfl, G, .refl, q⟩
def S_primitive : DSp := A1 fun a => .ok (tI (primL a))
theorem run_primitive {Γ : GE} (h1 : Fn Γ "check_polynomial" ["value"] S_check_polynomial) (h2 : Fn Γ "primitive_of" ["one"] S_primitive_of) {ds : List D} {G : DH} {Q : QD} {E : ED} (hl : ds.length = 1) (h : S_primitive ds G Q E) : Runs Γ m_primitive 1 ds G Q E := by
  obtain ⟨k1, d1, h1⟩ := h1
  obtain ⟨k2, d2, h2⟩ := h2
  obtain ⟨x, rfl, hx, hs, q⟩ := h
  unfold Runs m_primitive
  rcases ip_cases x with hip | ⟨l, rfl, tl⟩
  · rw [P1_bad hip] at q
    simp [startD, dEnds, h1, hx, chkP_bad hip]
    exact ⟨G, .refl, q⟩
  · rw [P1_trm tl] at q
    obtain ⟨z1, z2⟩ := hs l rfl
    simp [startD, dEnds, h1, h2, hx, chkP_trm tl]
    exact ⟨l, 5000, rfl, tl, by omega, z2, by omega, G, .refl, q⟩
def S_turned : DSp := A1 fun a => .ok (tI (trim a.reverse))
theorem run_turned {Γ : GE} (h1 : Fn Γ "check_polynomial" ["value"] S_check_polynomial) (h2 : Fn Γ "trimmed" ["items"] S_trimmed) {ds : List D} {G : DH} {Q : QD} {E : ED} (hl : ds.length = 1) (h : S_turned ds G Q E) : Runs Γ m_turned 1 ds G Q E := by
  obtain ⟨k1, d1, h1⟩ := h1
  obtain ⟨k2, d2, h2⟩ := h2
  obtain ⟨x, rfl, hx, hs, q⟩ := h
  unfold Runs m_turned
  rcases ip_cases x with hip | ⟨l, rfl, tl⟩
  · rw [P1_bad hip] at q
    simp [startD, dEnds, h1, hx, chkP_bad hip]
    exact ⟨G, .refl, q⟩
  · rw [P1_trm tl] at q
    obtain ⟨z1, z2⟩ := hs l rfl
    simp [startD, dEnds, h1, h2, hx, chkP_trm tl]
    exact ⟨l.reverse, by simp [sqOf], by simp; omega, G, .refl, q⟩
def mirL (a : List Int) : List Int := (List.range a.length).map fun k => if k % 2 = 1 then -(a.getD k 0) else a.getD k 0
def S_mirrored : DSp := A1 fun a => .ok (tI (mirL a))
theorem run_mirrored {Γ : GE} (h1 : Fn Γ "check_polynomial" ["value"] S_check_polynomial) {ds : List D} {G : DH} {Q : QD} {E : ED} (hl : ds.length = 1) (h : S_mirrored ds G Q E) : Runs Γ m_mirrored 3 ds G Q E := by
  obtain ⟨k1, d1, h1⟩ := h1
  obtain ⟨x, rfl, hx, hs, q⟩ := h
  have hsz := sizeLine_eq
  unfold Runs m_mirrored
  rcases ip_cases x with hip | ⟨l, rfl, tl⟩
  · rw [P1_bad hip] at q
    simp [startD, dEnds, h1, hx, chkP_bad hip, List.replicate]
    exact ⟨G, .refl, q⟩
  · rw [P1_trm tl] at q
    obtain ⟨z1, z2⟩ := hs l rfl
    simp [startD, dEnds, h1, hx, chkP_trm tl, List.replicate]
    refine ⟨by rw [enumL_length, List.length_map]; omega, lc_inv (fun i acc G' => G' = G ∧ acc = iL ((mirL l).take i)) ⟨rfl, rfl⟩ (fun _ _ _ _ _ => srcOk_nil) ?_ ?_⟩
    · rintro i d acc G' Kn hd ⟨rfl, rfl⟩ hK
      obtain ⟨e, he, rfl⟩ := enumL_some hd
      obtain ⟨hi, rfl⟩ := iL_some he
      have hm : i < (mirL l).length := by unfold mirL; simp; exact hi
      have e2 : iL ((mirL l).take (i + 1)) = iL ((mirL l).take i) ++ [.int (if i % 2 = 1 then -l[i] else l[i])] := by
        rw [take_snoc hm]
        have : (mirL l)[i] = if i % 2 = 1 then -l[i] else l[i] := by
          unfold mirL
          simp [hi]
        rw [this]; simp [iL]
      have e3 : ((i : Int).fmod 2 = 1) ↔ i % 2 = 1 := by
        rw [Int.fmod_eq_emod_of_nonneg _ (by decide)]; omega
      simp [e3]
      by_cases hp : i % 2 = 1
      · rw [if_pos hp] at e2
        refine ite_l (.inr ⟨hp, hK _ _ ⟨rfl, ?_⟩⟩)
        rw [e2, ← List.map_take]
      · rw [if_neg hp] at e2
        refine ite_l (.inl ⟨by omega, hK _ _ ⟨rfl, ?_⟩⟩)
        rw [e2, ← List.map_take]
    · rintro acc G' ⟨rfl, rfl⟩ p hp
      rw [enumL_length, List.length_map, List.take_of_length_le (by unfold mirL; simp)]
      exact ⟨G', .put hp, q⟩
def P2 (f : List Int → List Int → XR) (x y : D) : XR := P1 (fun a => P1 (f a) y) x
def A2 (f : List Int → List Int → XR) (c : List Int → List Int → Prop) : DSp := fun ds G Q E => ∃ x y, ds = [x, y] ∧ TZ G x ∧ TZ G y ∧ SzP x ∧ SzP y ∧ (∀ a b, x = tI a → y = tI b → c a b) ∧ post (P2 f x y) Q E G
theorem imk1 {x : Int} : IntMulOk 1 x := .of_left (intBits_le_64 (by decide) (by decide))
def S_plus : DSp := A2 (fun a b => .ok (tI (psum a b 1))) fun _ _ => True
theorem run_plus {Γ : GE} (h1 : Fn Γ "check_polynomial" ["value"] S_check_polynomial) (h2 : Fk Γ "sum_of" ["one", "other", "factor"] S_sum_of 2 [] [0, 1, 2] [.int 1]) {ds : List D} {G : DH} {Q : QD} {E : ED} (hl : ds.length = 2) (h : S_plus ds G Q E) : Runs Γ m_plus 2 ds G Q E := by
  obtain ⟨k1, d1, h1⟩ := h1
  obtain ⟨k2, h2, m2⟩ := h2
  obtain ⟨x, y, rfl, hx, hy, hsx, hsy, _, q⟩ := h
  unfold Runs m_plus P2 at *
  rcases ip_cases x with hip | ⟨a, rfl, ta⟩
  · rw [P1_bad hip] at q
    simp [startD, dEnds, h1, hx, chkP_bad hip]
    exact ⟨G, .refl, q⟩
  · rw [P1_trm ta] at q
    obtain ⟨z1, z2⟩ := hsx a rfl
    rcases ip_cases y with hip | ⟨b, rfl, tb⟩
    · rw [P1_bad hip] at q
      simp [startD, dEnds, h1, hx, hy, chkP_bad hip, chkP_trm ta]
      exact ⟨G, .refl, q⟩
    · rw [P1_trm tb] at q
      obtain ⟨z3, z4⟩ := hsy b rfl
      simp [startD, dEnds, h1, h2, m2, hx, hy, chkP_trm ta, chkP_trm tb]
      exact ⟨a, b, 1, rfl, by omega, by omega, fun _ => imk1, G, .refl, q⟩
def S_minus : DSp := A2 (fun a b => .ok (tI (psum a b (-1)))) fun _ _ => True
theorem run_minus {Γ : GE} (h1 : Fn Γ "check_polynomial" ["value"] S_check_polynomial) (h2 : Fn Γ "sum_of" ["one", "other", "factor"] S_sum_of) {ds : List D} {G : DH} {Q : QD} {E : ED} (hl : ds.length = 2) (h : S_minus ds G Q E) : Runs Γ m_minus 2 ds G Q E := by
  obtain ⟨k1, d1, h1⟩ := h1
  obtain ⟨k2, d2, h2⟩ := h2
  obtain ⟨x, y, rfl, hx, hy, hsx, hsy, _, q⟩ := h
  unfold Runs m_minus P2 at *
  rcases ip_cases x with hip | ⟨a, rfl, ta⟩
  · rw [P1_bad hip] at q
    simp [startD, dEnds, h1, hx, chkP_bad hip]
    exact ⟨G, .refl, q⟩
  · rw [P1_trm ta] at q
    obtain ⟨z1, z2⟩ := hsx a rfl
    rcases ip_cases y with hip | ⟨b, rfl, tb⟩
    · rw [P1_bad hip] at q
      simp [startD, dEnds, h1, hx, hy, chkP_bad hip, chkP_trm ta]
      exact ⟨G, .refl, q⟩
    · rw [P1_trm tb] at q
      obtain ⟨z3, z4⟩ := hsy b rfl
      simp [startD, dEnds, h1, h2, hx, hy, chkP_trm ta, chkP_trm tb]
      exact ⟨a, b, -1, rfl, by omega, by omega, fun _ => .of_left (intBits_le_64 (by decide) (by decide)), G, .refl, q⟩
@[simp] theorem check_degree_at {n : Int} {G : DH} {Q : QD} {E : ED} : S_check_degree [.int n] G Q E ↔ post (chkDeg n) Q E G := by
  constructor
  · rintro ⟨n', e, q⟩
    cases e
    exact q
  · exact fun q => ⟨n, rfl, q⟩
def degSum (a b : List Int) : Int := ((a.length : Int) - 1) + ((b.length : Int) - 1)
def S_times : DSp := A2 (fun a b => if 60 < degSum a b then .error (xMany (degSum a b)) else .ok (tI (pmul a b))) fun _ _ => True
theorem run_times {Γ : GE} (h1 : Fn Γ "check_polynomial" ["value"] S_check_polynomial) (h2 : Fn Γ "check_degree" ["number"] S_check_degree) (h3 : Fn Γ "degree_of" ["one"] S_degree_of) (h4 : Fn Γ "product_of" ["one", "other"] S_product_of) {ds : List D} {G : DH} {Q : QD} {E : ED} (hl : ds.length = 2) (h : S_times ds G Q E) : Runs Γ m_times 2 ds G Q E := by
  obtain ⟨k1, d1, h1⟩ := h1
  obtain ⟨k2, d2, h2⟩ := h2
  obtain ⟨k3, d3, h3⟩ := h3
  obtain ⟨k4, d4, h4⟩ := h4
  obtain ⟨x, y, rfl, hx, hy, hsx, hsy, _, q⟩ := h
  unfold Runs m_times P2 at *
  rcases ip_cases x with hip | ⟨a, rfl, ta⟩
  · rw [P1_bad hip] at q
    simp [startD, dEnds, h1, hx, chkP_bad hip]
    exact ⟨G, .refl, q⟩
  · rw [P1_trm ta] at q
    obtain ⟨z1, z2⟩ := hsx a rfl
    rcases ip_cases y with hip | ⟨b, rfl, tb⟩
    · rw [P1_bad hip] at q
      simp [startD, dEnds, h1, hx, hy, chkP_bad hip, chkP_trm ta]
      exact ⟨G, .refl, q⟩
    · rw [P1_trm tb] at q
      obtain ⟨z3, z4⟩ := hsy b rfl
      simp [startD, dEnds, h1, h2, h3, h4, hx, hy, chkP_trm ta, chkP_trm tb]
      unfold degSum at q
      dsimp only at q
      unfold chkDeg
      by_cases hd : 60 < ((a.length : Int) - 1) + ((b.length : Int) - 1)
      · rw [if_pos hd] at q ⊢
        exact ⟨G, .refl, q⟩
      · rw [if_neg hd] at q ⊢
        exact ⟨a, b, 5000, 5000, rfl, by omega, by omega, z2, z4, by omega, G, .refl, q⟩
def degMul (a b : List Int) : Int := ((a.length : Int) - 1) * ((b.length : Int) - 1)
def S_composed : DSp := A2 (fun a b => if 0 < (a.length : Int) - 1 ∧ 0 < (b.length : Int) - 1 ∧ 60 < degMul a b then .error (xMany (degMul a b)) else .ok (tI (pcomp a b))) fun a b => a.length ≤ 25 ∧ b.length ≤ 25
theorem run_composed {Γ : GE} (h1 : Fn Γ "check_polynomial" ["value"] S_check_polynomial) (h2 : Fn Γ "check_degree" ["number"] S_check_degree) (h3 : Fn Γ "degree_of" ["one"] S_degree_of) (h4 : Fn Γ "composition_of" ["one", "other"] S_composition_of) {ds : List D} {G : DH} {Q : QD} {E : ED} (hl : ds.length = 2) (h : S_composed ds G Q E) : Runs Γ m_composed 2 ds G Q E := by
  obtain ⟨k1, d1, h1⟩ := h1
  obtain ⟨k2, d2, h2⟩ := h2
  obtain ⟨k3, d3, h3⟩ := h3
  obtain ⟨k4, d4, h4⟩ := h4
  obtain ⟨x, y, rfl, hx, hy, hsx, hsy, hc, q⟩ := h
  unfold Runs m_composed P2 at *
  rcases ip_cases x with hip | ⟨a, rfl, ta⟩
  · rw [P1_bad hip] at q
    simp [startD, dEnds, h1, hx, chkP_bad hip]
    exact ⟨G, .refl, q⟩
  · rw [P1_trm ta] at q
    obtain ⟨z1, z2⟩ := hsx a rfl
    rcases ip_cases y with hip | ⟨b, rfl, tb⟩
    · rw [P1_bad hip] at q
      simp [startD, dEnds, h1, hx, hy, chkP_bad hip, chkP_trm ta]
      exact ⟨G, .refl, q⟩
    · rw [P1_trm tb] at q
      obtain ⟨z3, z4⟩ := hsy b rfl
      obtain ⟨la, lb⟩ := hc a b rfl rfl
      have lab : a.length * b.length ≤ 25 * 25 := Nat.mul_le_mul la lb
      have hm : IntMulOk ((a.length : Int) - 1) ((b.length : Int) - 1) := .of_left (intBits_le_64 (by omega) (by omega))
      have fin : (∃ G2, Sub G2 G ∧ Q (tI (pcomp a b)) G2) → S_composition_of [tI a, tI b] G (fun d G1 => ∃ G2, Sub G2 G1 ∧ Q d G2) fun xd G2 => ∃ G3, Sub G3 G2 ∧ E xd G3 :=
        fun z => ⟨a, b, 5000, 5000, rfl, by omega, by omega, by omega, z2, z4, by omega, by omega, z⟩
      simp [startD, dEnds, h1, h2, h3, h4, hx, hy, chkP_trm ta, chkP_trm tb, hm]
      unfold degMul at q
      dsimp only at q
      unfold chkDeg
      by_cases h1 : 0 < (a.length : Int) - 1
      · by_cases h2 : 0 < (b.length : Int) - 1
        · by_cases hd : 60 < ((a.length : Int) - 1) * ((b.length : Int) - 1)
          · rw [if_pos ⟨h1, h2, hd⟩] at q
            refine ite_l (.inr ⟨by omega, ?_⟩)
            refine ite_l (.inr ⟨by omega, ?_⟩)
            rw [if_pos hd]
            exact ⟨G, .refl, q⟩
          · rw [if_neg (by rintro ⟨_, _, z⟩; exact hd z)] at q
            refine ite_l (.inr ⟨by omega, ?_⟩)
            refine ite_l (.inr ⟨by omega, ?_⟩)
            rw [if_neg hd]
            exact fin ⟨G, .refl, q⟩
        · rw [if_neg (by rintro ⟨_, z, _⟩; exact h2 z)] at q
          refine ite_l (.inr ⟨by omega, ?_⟩)
          refine ite_l (.inl ⟨by omega, ?_⟩)
          exact fin ⟨G, .refl, q⟩
      · rw [if_neg (by rintro ⟨z, _⟩; exact h1 z)] at q
        refine ite_l (.inl ⟨by omega, ?_⟩)
        exact fin ⟨G, .refl, q⟩
/-! ### an argument that is a number -/
def check_number_at {x : D} {lo hi : Option Int} {G : DH} {Q : QD} {E : ED} (h : ∃ t, tyD G x = some t) (q : post (chkN lo hi x) Q E G) : S_check_number [x, oD lo, oD hi] G Q E := ⟨x, lo, hi, rfl, h, q⟩
def A2N (lo hi : Option Int) (f : List Int → Int → XR) (c : List Int → Int → Prop) : DSp := fun ds G Q E => ∃ x y, ds = [x, y] ∧ TZ G x ∧ (∃ t, tyD G y = some t) ∧ SzP x ∧ SzN y ∧ (∀ a n, x = tI a → y = .int n → c a n) ∧ post (P1 (fun a => PN lo hi (f a) y) x) Q E G
def S_scaled : DSp := A2N none none (fun a n => .ok (tI (trim (a.map (n * ·))))) fun _ _ => True
theorem run_scaled {Γ : GE} (h1 : Fn Γ "check_polynomial" ["value"] S_check_polynomial) (h2 : Fk Γ "check_number" ["value", "least", "most"] S_check_number 1 [] [0, 1, 2] [.non, .non]) (h3 : Fn Γ "multiple_of" ["one", "number"] S_multiple_of) {ds : List D} {G : DH} {Q : QD} {E : ED} (hl : ds.length = 2) (h : S_scaled ds G Q E) : Runs Γ m_scaled 2 ds G Q E := by
  obtain ⟨k1, d1, h1⟩ := h1
  obtain ⟨k2, h2, m2⟩ := h2
  obtain ⟨k3, d3, h3⟩ := h3
  obtain ⟨x, y, rfl, hx, hy, hsx, hsy, _, q⟩ := h
  unfold Runs m_scaled at *
  rcases ip_cases x with hip | ⟨a, rfl, ta⟩
  · rw [P1_bad hip] at q
    simp [startD, dEnds, h1, hx, chkP_bad hip]
    exact ⟨G, .refl, q⟩
  · rw [P1_trm ta] at q
    obtain ⟨z1, z2⟩ := hsx a rfl
    simp [startD, dEnds, h1, h2, m2, h3, hx, chkP_trm ta]
    refine check_number_at (lo := none) (hi := none) hy ?_
    rcases num_cases none none y with ⟨e1, e2⟩ | ⟨n, rfl, _, e1, e2⟩
    · rw [e1]
      dsimp only at q
      rw [e2] at q
      exact ⟨G, .refl, q⟩
    · rw [e1]
      dsimp only at q
      rw [e2] at q
      have zn := hsy n rfl
      exact ⟨a, n, rfl, by omega, fun c hc => mulOk zn (z2 c hc) (by omega), G, .refl, q⟩
def S_value_at : DSp := A2N none none (fun a n => .ok (.int (horner a n))) fun _ _ => True
theorem run_value_at {Γ : GE} (h1 : Fn Γ "check_polynomial" ["value"] S_check_polynomial) (h2 : Fk Γ "check_number" ["value", "least", "most"] S_check_number 1 [] [0, 1, 2] [.non, .non]) (h3 : Fn Γ "value_of" ["one", "number"] S_value_of) {ds : List D} {G : DH} {Q : QD} {E : ED} (hl : ds.length = 2) (h : S_value_at ds G Q E) : Runs Γ m_value_at 2 ds G Q E := by
  obtain ⟨k1, d1, h1⟩ := h1
  obtain ⟨k2, h2, m2⟩ := h2
  obtain ⟨k3, d3, h3⟩ := h3
  obtain ⟨x, y, rfl, hx, hy, hsx, hsy, _, q⟩ := h
  unfold Runs m_value_at at *
  rcases ip_cases x with hip | ⟨a, rfl, ta⟩
  · rw [P1_bad hip] at q
    simp [startD, dEnds, h1, hx, chkP_bad hip]
    exact ⟨G, .refl, q⟩
  · rw [P1_trm ta] at q
    obtain ⟨z1, z2⟩ := hsx a rfl
    simp [startD, dEnds, h1, h2, m2, h3, hx, chkP_trm ta]
    refine check_number_at (lo := none) (hi := none) hy ?_
    rcases num_cases none none y with ⟨e1, e2⟩ | ⟨n, rfl, _, e1, e2⟩
    · rw [e1]
      dsimp only at q
      rw [e2] at q
      exact ⟨G, .refl, q⟩
    · rw [e1]
      dsimp only at q
      rw [e2] at q
      exact ⟨a, n, 5000, 5000, rfl, by omega, z2, hsy n rfl, by omega, by omega, G, .refl, q⟩
def S_shifted : DSp := A2N none none (fun a n => .ok (tI (pcomp a [n, 1]))) fun _ _ => True
theorem run_shifted {Γ : GE} (h1 : Fn Γ "check_polynomial" ["value"] S_check_polynomial) (h2 : Fk Γ "check_number" ["value", "least", "most"] S_check_number 1 [] [0, 1, 2] [.non, .non]) (h3 : Fn Γ "composition_of" ["one", "other"] S_composition_of) {ds : List D} {G : DH} {Q : QD} {E : ED} (hl : ds.length = 2) (h : S_shifted ds G Q E) : Runs Γ m_shifted 2 ds G Q E := by
  obtain ⟨k1, d1, h1⟩ := h1
  obtain ⟨k2, h2, m2⟩ := h2
  obtain ⟨k3, d3, h3⟩ := h3
  obtain ⟨x, y, rfl, hx, hy, hsx, hsy, _, q⟩ := h
  unfold Runs m_shifted at *
  rcases ip_cases x with hip | ⟨a, rfl, ta⟩
  · rw [P1_bad hip] at q
    simp [startD, dEnds, h1, hx, chkP_bad hip]
    exact ⟨G, .refl, q⟩
  · rw [P1_trm ta] at q
    obtain ⟨z1, z2⟩ := hsx a rfl
    simp [startD, dEnds, h1, h2, m2, h3, hx, chkP_trm ta]
    refine check_number_at (lo := none) (hi := none) hy ?_
    rcases num_cases none none y with ⟨e1, e2⟩ | ⟨n, rfl, _, e1, e2⟩
    · rw [e1]
      dsimp only at q
      rw [e2] at q
      exact ⟨G, .refl, q⟩
    · rw [e1]
      dsimp only at q
      rw [e2] at q
      exact ⟨a, [n, 1], 5000, 5000, rfl, by omega, by simp, by simp; omega, z2, (Bd.cons (hsy n rfl) (Bd.cons (sz1 (by decide)) Bd.nil)), by omega, by omega, G, .refl, q⟩
def degPow (a : List Int) (n : Int) : Int := ((a.length : Int) - 1) * n
def S_to_power : DSp := A2N (some 0) (some 12) (fun a n => if 60 < degPow a n then .error (xMany (degPow a n)) else .ok (tI (ppow a n.toNat))) fun _ _ => True
theorem run_to_power {Γ : GE} (h1 : Fn Γ "check_polynomial" ["value"] S_check_polynomial) (h2 : Fn Γ "check_number" ["value", "least", "most"] S_check_number) (h3 : Fn Γ "check_degree" ["number"] S_check_degree) (h4 : Fn Γ "degree_of" ["one"] S_degree_of) (h5 : Fn Γ "power_of" ["one", "number"] S_power_of) (h6 : Γ.con "MOST_POWER" = some (.int 12)) {ds : List D} {G : DH} {Q : QD} {E : ED} (hl : ds.length = 2) (h : S_to_power ds G Q E) : Runs Γ m_to_power 2 ds G Q E := by
  obtain ⟨k1, d1, h1⟩ := h1
  obtain ⟨k2, d2, h2⟩ := h2
  obtain ⟨k3, d3, h3⟩ := h3
  obtain ⟨k4, d4, h4⟩ := h4
  obtain ⟨k5, d5, h5⟩ := h5
  obtain ⟨x, y, rfl, hx, hy, hsx, hsy, _, q⟩ := h
  unfold Runs m_to_power at *
  rcases ip_cases x with hip | ⟨a, rfl, ta⟩
  · rw [P1_bad hip] at q
    simp [startD, dEnds, h1, hx, chkP_bad hip]
    exact ⟨G, .refl, q⟩
  · rw [P1_trm ta] at q
    obtain ⟨z1, z2⟩ := hsx a rfl
    simp [startD, dEnds, h1, h2, h3, h4, h5, h6, hx, chkP_trm ta]
    refine check_number_at (lo := some 0) (hi := some 12) hy ?_
    rcases num_cases (some 0) (some 12) y with ⟨e1, e2⟩ | ⟨n, rfl, hn, e1, e2⟩
    · rw [e1]
      dsimp only at q
      rw [e2] at q
      exact ⟨G, .refl, q⟩
    · rw [e1]
      dsimp only at q
      rw [e2] at q
      simp [numOk] at hn
      simp
      refine ⟨.of_right (intBits_le_64 (by omega) (by omega)), ?_⟩
      unfold degPow at q
      unfold chkDeg
      by_cases hd : 60 < ((a.length : Int) - 1) * n
      · rw [if_pos hd] at q ⊢
        exact ⟨G, .refl, q⟩
      · rw [if_neg hd] at q ⊢
        obtain ⟨m, rfl⟩ : ∃ m : Nat, n = m := ⟨n.toNat, by omega⟩
        have hm : m * a.length ≤ 800 := by
          have h0 : ((a.length : Int) - 1) * m ≤ 60 := by omega
          rw [Int.sub_mul, Int.one_mul, ← Int.natCast_mul, Nat.mul_comm] at h0
          omega
        exact ⟨a, m, 5000, rfl, by omega, hm, by omega, z2, by omega, G, .refl, q⟩
end DL.LW

set_option Elab.async false
set_option linter.all false
namespace PM
/-! PK: a small solution of fewer equations than unknowns (by minors). -/
/-- a row set ahead, by the columns -/
def dA (M : Nat → Int) : List Nat → (List Nat → Int) → Int
  | [], _ => 0
  | c :: cs, f => M c * f cs - dA M cs fun l => f (c :: l)
theorem dA_sub (M : Nat → Int) : ∀ (cs : List Nat) (f g : List Nat → Int), dA M cs (fun l => f l - g l) = dA M cs f - dA M cs g
  | [], _, _ => rfl
  | c :: cs, f, g => by
    show M c * (f cs - g cs) - dA M cs (fun l => f (c :: l) - g (c :: l)) = _
    rw [dA_sub M cs (fun l => f (c :: l)) fun l => g (c :: l)]
    show _ = (M c * f cs - dA M cs fun l => f (c :: l)) - (M c * g cs - dA M cs fun l => g (c :: l))
    grind
theorem dA_mul (M : Nat → Int) (k : Int) : ∀ (cs : List Nat) (f : List Nat → Int), dA M cs (fun l => k * f l) = k * dA M cs f
  | [], _ => (Int.mul_zero k).symm
  | c :: cs, f => by
    show M c * (k * f cs) - dA M cs (fun l => k * f (c :: l)) = k * (M c * f cs - dA M cs fun l => f (c :: l))
    rw [dA_mul M k cs fun l => f (c :: l)]
    grind
theorem dA_swap (M N : Nat → Int) : ∀ (cs : List Nat) (f : List Nat → Int), dA M cs (fun l => dA N l f) = - dA N cs fun l => dA M l f
  | [], _ => rfl
  | c :: cs, f => by
    have h := dA_swap M N cs fun l => f (c :: l)
    show M c * dA N cs f - dA M cs (fun l => N c * f l - dA N l fun l => f (c :: l)) = -(N c * dA M cs f - dA N cs fun l => M c * f l - dA M l fun l => f (c :: l))
    rw [dA_sub, dA_sub, dA_mul, dA_mul, h]
    grind
theorem dA_self (M : Nat → Int) (cs : List Nat) (f : List Nat → Int) : dA M cs (fun l => dA M l f) = 0 := by
  have := dA_swap M M cs f
  omega
theorem dA_none (M : Nat → Int) : ∀ (cs : List Nat) (f : List Nat → Int), (∀ l, f l = 0) → dA M cs f = 0
  | [], _, _ => rfl
  | c :: cs, f, h => by
    show M c * f cs - dA M cs (fun l => f (c :: l)) = 0
    rw [h, dA_none M cs _ fun l => h _]; grind
theorem dA_off {M : Nat → Int} : ∀ (cs : List Nat) (f : List Nat → Int), (∀ c ∈ cs, M c = 0) → dA M cs f = 0
  | [], _, _ => rfl
  | c :: cs, f, h => by
    show M c * f cs - dA M cs (fun l => f (c :: l)) = 0
    rw [h c List.mem_cons_self, dA_off cs _ fun d hd => h d (List.mem_cons_of_mem _ hd)]; grind
def ind (c d : Nat) : Int := if d = c then 1 else 0
theorem dA_lin {M : Nat → Int} {N : Nat} : ∀ (cs : List Nat) (f : List Nat → Int), (∀ c ∈ cs, c < N) → dA M cs f = sm N fun c => M c * dA (ind c) cs f
  | [], _, _ => (sm_zero fun i _ => Int.mul_zero _).symm
  | c :: cs, f, h => by
    have ih := dA_lin (M := M) cs (fun l => f (c :: l)) fun d hd => h d (List.mem_cons_of_mem _ hd)
    show M c * f cs - dA M cs (fun l => f (c :: l)) = sm N fun d => M d * (ind d c * f cs - dA (ind d) cs fun l => f (c :: l))
    have e1 : (sm N fun d => M d * (ind d c * f cs - dA (ind d) cs fun l => f (c :: l))) = sm N fun d => M d * ind d c * f cs - M d * dA (ind d) cs fun l => f (c :: l) := sm_congr fun d _ => by rw [Int.mul_sub, Int.mul_assoc]
    have e2 : (sm N fun d => M d * ind d c * f cs) = M c * f cs := by
      rw [sm_one (k := c) (f := fun d => M d * ind d c * f cs) (h c List.mem_cons_self) fun d _ hd => by
        have : ind d c = 0 := if_neg fun e => hd e.symm
        rw [this, Int.mul_zero, Int.zero_mul]]
      have : ind c c = 1 := if_pos rfl
      rw [this, Int.mul_one]
    rw [ih, e1, sm_sub, e2]
theorem dA_le {M : Nat → Int} {B F : Nat} : ∀ (cs : List Nat) (f : List Nat → Int), (∀ c, (M c).natAbs ≤ B) → (∀ l, l.length + 1 = cs.length → (f l).natAbs ≤ F) → (dA M cs f).natAbs ≤ cs.length * (B * F)
  | [], _, _, _ => by simp [dA]
  | c :: cs, f, hM, hf => by
    have ih := dA_le cs (fun l => f (c :: l)) hM fun l hl => hf (c :: l) (by simp; omega)
    have h1 : (M c * f cs).natAbs ≤ B * F := by
      rw [Int.natAbs_mul]
      exact Nat.mul_le_mul (hM c) (hf cs rfl)
    show (M c * f cs - dA M cs fun l => f (c :: l)).natAbs ≤ _
    rw [List.length_cons, Nat.add_mul]
    omega
/-- the minor of some rows and columns -/
def mnr (A : Nat → Nat → Int) : List Nat → List Nat → Int
  | [], _ => 1
  | i :: is, cs => dA (A i) cs (mnr A is)
theorem mnr_mem (A : Nat → Nat → Int) (i : Nat) : ∀ (is cs : List Nat), i ∈ is → dA (A i) cs (mnr A is) = 0
  | [], _, h => by cases h
  | j :: is, cs, h => by
    show dA (A i) cs (fun l => dA (A j) l (mnr A is)) = 0
    by_cases e : i = j
    · subst e; exact dA_self _ _ _
    · have h : i ∈ is := by
        rcases List.mem_cons.mp h with q | q
        · exact absurd q e
        · exact q
      rw [dA_swap, dA_none _ _ _ fun l => mnr_mem A i is l h]; rfl
theorem mnr_dup (A : Nat → Nat → Int) : ∀ (is : List Nat), ¬ is.Nodup → ∀ cs, mnr A is cs = 0
  | [], h, _ => absurd List.nodup_nil h
  | i :: is, h, cs => by
    show dA (A i) cs (mnr A is) = 0
    by_cases hi : i ∈ is
    · exact mnr_mem A i is cs hi
    · exact dA_none _ _ _ fun l => mnr_dup A is (fun n => h (List.nodup_cons.mpr ⟨hi, n⟩)) l
theorem mnr_le {A : Nat → Nat → Int} {B N : Nat} (hA : ∀ i c, (A i c).natAbs ≤ B) : ∀ (is cs : List Nat), cs.length = is.length → cs.length ≤ N → (mnr A is cs).natAbs ≤ (N * B) ^ is.length
  | [], cs, h, _ => by simp [mnr]
  | i :: is, cs, h, hN => by
    have := dA_le (M := A i) (B := B) (F := (N * B) ^ is.length) cs (mnr A is) (hA i) fun l hl => mnr_le hA is l (by simp at h; omega) (by omega)
    show (dA (A i) cs (mnr A is)).natAbs ≤ _
    refine Nat.le_trans this ?_
    rw [List.length_cons, Nat.pow_succ]
    have h2 : cs.length * (B * (N * B) ^ is.length) ≤ N * (B * (N * B) ^ is.length) := Nat.mul_le_mul_right _ hN
    refine Nat.le_trans h2 (Nat.le_of_eq ?_)
    rw [← Nat.mul_assoc, Nat.mul_comm]
theorem nd_len : ∀ (l l' : List Nat), l.Nodup → (∀ x ∈ l, x ∈ l') → l.length ≤ l'.length
  | [], _, _, _ => Nat.zero_le _
  | a :: l, l', h, s => by
    obtain ⟨h1, h2⟩ := List.nodup_cons.mp h
    have ha := s a List.mem_cons_self
    have := nd_len l (l'.erase a) h2 fun x hx => by
      have hne : x ≠ a := fun e => h1 (e ▸ hx)
      exact (List.mem_erase_of_ne hne).mpr (s x (List.mem_cons_of_mem _ hx))
    rw [List.length_erase_of_mem ha] at this
    have hp := List.length_pos_of_mem ha
    rw [List.length_cons]; omega
theorem kernel {A : Nat → Nat → Int} {B m N : Nat} (hB : 1 ≤ B) (hm : m < N) (hA : ∀ i c, (A i c).natAbs ≤ B) : ∃ x : Nat → Int, (∃ c, c < N ∧ x c ≠ 0) ∧ (∀ i, i < m → sm N (fun c => A i c * x c) = 0) ∧ ∀ c, (x c).natAbs ≤ N * (N * B) ^ m := by
  have max : ∃ r, (∃ is cs : List Nat, is.length = r ∧ cs.length = r ∧ (∀ i ∈ is, i < m) ∧ (∀ c ∈ cs, c < N) ∧ cs.Nodup ∧ mnr A is cs ≠ 0) ∧ ¬ ∃ is cs : List Nat, is.length = r + 1 ∧ cs.length = r + 1 ∧ (∀ i ∈ is, i < m) ∧ (∀ c ∈ cs, c < N) ∧ cs.Nodup ∧ mnr A is cs ≠ 0 := by
    generalize hP : (fun r => ∃ is cs : List Nat, is.length = r ∧ cs.length = r ∧ (∀ i ∈ is, i < m) ∧ (∀ c ∈ cs, c < N) ∧ cs.Nodup ∧ mnr A is cs ≠ 0) = P
    have h0 : P 0 := by subst hP; exact ⟨[], [], rfl, rfl, (fun _ h => by cases h), (fun _ h => by cases h), List.nodup_nil, by simp [mnr]⟩
    have h1 : ¬ P (m + 1) := by
      subst hP
      rintro ⟨is, cs, l1, l2, b1, b2, n2, h⟩
      have n1 : is.Nodup := Classical.byContradiction fun z => h (mnr_dup A is z cs)
      have := nd_len is (List.range m) n1 fun x hx => List.mem_range.mpr (b1 x hx)
      rw [List.length_range] at this
      omega
    have key : ∀ k, P 0 → ¬ P k → ∃ r, P r ∧ ¬ P (r + 1) := by
      intro k
      induction k with
      | zero => exact fun a b => absurd a b
      | succ k ih =>
        intro a b
        by_cases c : P k
        · exact ⟨k, c, b⟩
        · exact ih a c
    obtain ⟨r, p1, p2⟩ := key _ h0 h1
    subst hP
    exact ⟨r, p1, p2⟩
  obtain ⟨r, ⟨is, cs, l1, l2, b1, b2, n2, hne⟩, no⟩ := max
  have n1 : is.Nodup := Classical.byContradiction fun z => hne (mnr_dup A is z cs)
  have hr : r ≤ m := by
    have := nd_len is (List.range m) n1 fun x hx => List.mem_range.mpr (b1 x hx)
    rw [List.length_range] at this
    omega
  have hc : ∃ c0, c0 < N ∧ c0 ∉ cs := Classical.byContradiction fun z => by
    have := nd_len (List.range N) cs List.nodup_range fun x hx => Classical.byContradiction fun w => z ⟨x, List.mem_range.mp hx, w⟩
    rw [List.length_range] at this
    omega
  obtain ⟨c0, hc0, hc1⟩ := hc
  have bc : ∀ c ∈ c0 :: cs, c < N := fun c h => by
    rcases List.mem_cons.mp h with e | h
    · rw [e]; exact hc0
    · exact b2 c h
  refine ⟨fun c => dA (ind c) (c0 :: cs) (mnr A is), ⟨c0, hc0, ?_⟩, fun i hi => ?_, fun c => ?_⟩
  · show ind c0 c0 * mnr A is cs - dA (ind c0) cs (fun l => mnr A is (c0 :: l)) ≠ 0
    have e1 : ∀ c ∈ cs, ind c0 c = 0 := fun c h => if_neg fun e => hc1 (by rw [← e]; exact h)
    have e2 : ind c0 c0 = 1 := if_pos rfl
    rw [dA_off cs _ e1, e2]
    omega
  · rw [← dA_lin (c0 :: cs) (mnr A is) bc]
    exact Classical.byContradiction fun z => no ⟨i :: is, c0 :: cs, by simp [l1], by simp [l2], fun j hj => by
      rcases List.mem_cons.mp hj with e | h
      · rw [e]; exact hi
      · exact b1 j h, bc, List.nodup_cons.mpr ⟨hc1, n2⟩, z⟩
  · have := dA_le (M := ind c) (B := 1) (F := (N * B) ^ is.length) (c0 :: cs) (mnr A is) (fun d => by unfold ind; split <;> decide) fun l hl => mnr_le hA is l (by simp at hl; omega) (by simp at hl; omega)
    refine Nat.le_trans this ?_
    rw [List.length_cons, Nat.one_mul]
    refine Nat.mul_le_mul (by omega) ?_
    exact Nat.pow_le_pow_right (Nat.mul_pos (by omega) hB) (by omega)
end PM

set_option Elab.async false
set_option linter.all false
namespace PM
/-! PR: a remainder of Euclid's chain by small multiples of the first two. -/
abbrev SI := PS Int
/-- the degree is below n; it is e -/
def dg (f : SI) (n : Nat) : Prop := ∀ k, n ≤ k → f.c k = 0
def exd (f : SI) (e : Nat) : Prop := f.c e ≠ 0 ∧ dg f (e + 1)
theorem dg.mono {f : SI} {m n : Nat} (h : dg f m) (hm : m ≤ n) : dg f n := fun k hk => h k (Nat.le_trans hm hk)
theorem dg.mul {f g : SI} {m n N : Nat} (hf : dg f m) (hg : dg g n) (h : m + n ≤ N + 1) : dg (f * g) N := fun k hk => mul_ge hf hg (by omega)
theorem dg.add {f g : SI} {n : Nat} (hf : dg f n) (hg : dg g n) : dg (f + g) n := fun k hk => by rw [PS.add_c, hf k hk, hg k hk]; rfl
theorem dg.sub {f g : SI} {n : Nat} (hf : dg f n) (hg : dg g n) : dg (f - g) n := fun k hk => by rw [PS.sub_c, hf k hk, hg k hk]; rfl
theorem dg.K {f : SI} {n : Nat} (a : Int) (hf : dg f n) : dg (PS.K a * f) n := fun k hk => by rw [PS.K_mul, hf k hk, Int.mul_zero]
theorem dg_zero (n : Nat) : dg (0 : SI) n := fun k _ => PS.zero_c k
theorem exd.uniq {f : SI} {a b : Nat} (h : exd f a) (h' : exd f b) : a = b := by
  rcases Nat.lt_trichotomy a b with l | l | l
  · exact absurd (h.2 b l) h'.1
  · exact l
  · exact absurd (h'.2 a l) h.1
theorem exd.lt {f : SI} {e n : Nat} (h : exd f e) (h' : dg f n) : e < n := by
  rcases Nat.lt_or_ge e n with l | l
  · exact l
  · exact absurd (h' e l) h.1
theorem top_mul {f g : SI} {m n : Nat} (hf : dg f (m + 1)) (hg : dg g (n + 1)) : (f * g).c (m + n) = f.c m * g.c n := by
  rw [PS.mul_c, sm_one (k := m) (by omega) fun i hi hne => ?_, show m + n - m = n by omega]
  rcases Nat.lt_or_ge i m with l | l
  · rw [hg (m + n - i) (by omega), Int.mul_zero]
  · rw [hf i (by omega), Int.zero_mul]
theorem dg_div {u p : SI} {e n : Nat} (hp : exd p e) : ∀ N, dg u N → dg (u * p) (e + n) → dg u n
  | 0, h, _ => h.mono (Nat.zero_le _)
  | N + 1, h, hh => by
    by_cases hN : N + 1 ≤ n
    · exact h.mono hN
    · have h1 := top_mul h hp.2
      rw [hh (N + e) (by omega)] at h1
      have h2 : u.c N = 0 := by
        rcases Int.mul_eq_zero.mp h1.symm with q | q
        · exact q
        · exact absurd q hp.1
      refine dg_div hp N (fun k hk => ?_) hh
      by_cases e : k = N
      · rw [e, h2]
      · exact h k (by omega)
theorem dg_none {u : SI} (h : dg u 0) : u = 0 := PS.ext' fun k => by rw [h k (Nat.zero_le _), PS.zero_c]
theorem K_zero {a : Int} {f : SI} (ha : a ≠ 0) (h : PS.K a * f = 0) : f = 0 := PS.ext' fun k => by
  have := congrArg (fun g : SI => g.c k) h
  simp only [PS.K_mul, PS.zero_c] at this
  rw [PS.zero_c]
  rcases Int.mul_eq_zero.mp this with q | q
  · exact absurd q ha
  · exact q
theorem K_same (a b : Int) (f : SI) : PS.K a * (PS.K b * f) = PS.K (a * b) * f := by rw [PS.K_mulK]; grind
/-- a division, up to factors -/
def Stp (p0 p1 p2 : SI) : Prop := ∃ (al ga : Int) (q : SI) (N : Nat), al ≠ 0 ∧ ga ≠ 0 ∧ dg q N ∧ PS.K al * p0 = q * p1 + PS.K ga * p2
/-- the chain from p0, p1 comes to x, p; x has the degree d, p a smaller one -/
inductive Dn : SI → SI → SI → Nat → SI → Prop
  | base {p0 p1 : SI} {d : Nat} : exd p0 d → dg p1 d → Dn p0 p1 p0 d p1
  | step {p0 p1 p2 x p : SI} {d e0 e1 : Nat} : Stp p0 p1 p2 → exd p0 e0 → exd p1 e1 → d ≤ e0 → d ≤ e1 → Dn p1 p2 x d p → Dn p0 p1 x d p
theorem Dn.more {p0 p1 x p p2 : SI} {d d' : Nat} (h : Dn p0 p1 x d p) (s : Stp x p p2) (hp : exd p d') (h2 : dg p2 d') (hd : d' ≤ d) : Dn p0 p1 p d' p2 := by
  induction h with
  | base e0 e1 => exact .step s e0 hp hd (Nat.le_refl _) (.base hp h2)
  | step st a0 a1 l0 l1 _ ih => exact .step st a0 a1 (by omega) (by omega) (ih s hp hd)
theorem Dn.only {p0 p1 x p : SI} {d : Nat} (h : Dn p0 p1 x d p) : ∀ {e0 : Nat}, exd p0 e0 → ∀ {u v r : SI} {N : Nat}, dg u N → dg v (e0 - d + 1) → dg r d → r = u * p0 + v * p1 → ∃ t s : Int, t ≠ 0 ∧ PS.K t * r = PS.K s * p ∧ (s = 0 → u = 0 ∧ v = 0) := by
  induction h with
  | @base p0 p1 d a0 a1 =>
    intro e0 he u v r N hu hv hr e
    have := he.uniq a0
    subst this
    rw [Nat.sub_self, Nat.zero_add] at hv
    have ev : v = PS.K (v.c 0) := PS.ext' fun k => by
      rw [PS.K_c]
      by_cases hk : k = 0
      · rw [if_pos hk, hk]
      · rw [if_neg hk, hv k (by omega)]
    have hu0 : u = 0 := by
      refine dg_none (dg_div (n := 0) he N hu ?_)
      have : u * p0 = r - v * p1 := by rw [e]; grind
      rw [this, ev, Nat.add_zero]
      exact hr.sub (a1.K _)
    refine ⟨1, v.c 0, by decide, ?_, fun z => ⟨hu0, ?_⟩⟩
    · rw [e, hu0, ev]
      have : (PS.K (1 : Int) : SI) = 1 := PS.ext' fun k => by rw [PS.K_c, PS.one_c]
      rw [this, PS.K_c, if_pos rfl]; grind
    · rw [ev, z]; exact PS.ext' fun k => by rw [PS.K_c, PS.zero_c]; split <;> rfl
  | @step p0 p1 p2 x p d e0' e1 st a0 a1 l0 l1 _ ih =>
    intro e0 he u v r N hu hv hr e
    have := he.uniq a0
    subst this
    obtain ⟨al, ga, q, M, hal, hga, hq, es⟩ := st
    have hu2 : dg u (e1 - d + 1) := by
      refine dg_div he N hu ?_
      have : u * p0 = r - v * p1 := by rw [e]; grind
      rw [this]
      refine (hr.mono (by omega)).sub (hv.mul a1.2 (by omega))
    have e2 : PS.K al * r = (u * q + PS.K al * v) * p1 + (PS.K ga * u) * p2 := by
      have : PS.K al * r = u * (PS.K al * p0) + PS.K al * (v * p1) := by rw [e]; grind
      rw [this, es]; grind
    obtain ⟨t, s, ht, e3, z⟩ := ih a1 (u := u * q + PS.K al * v) (v := PS.K ga * u) (r := PS.K al * r) (N := N + M + (e0 - d + 1)) (((hu.mul hq (Nat.le_succ _)).mono (by omega)).add ((hv.K al).mono (by omega))) (hu2.K ga) (hr.K al) e2
    refine ⟨t * al, s, fun z => by rcases Int.mul_eq_zero.mp z with q | q <;> contradiction, by rw [← K_same]; exact e3, fun z0 => ?_⟩
    obtain ⟨z1, z2⟩ := z z0
    have hu0 := K_zero hga z2
    refine ⟨hu0, K_zero hal ?_⟩
    rw [hu0] at z1
    have : (0 : SI) * q + PS.K al * v = PS.K al * v := by grind
    rw [this] at z1
    exact z1
theorem dvd_cop {a b c : Int} (h : Int.gcd a b = 1) (hd : a ∣ b * c) : a ∣ c := by
  have h1 := Int.natAbs_dvd_natAbs.mpr hd
  rw [Int.natAbs_mul] at h1
  exact Int.natAbs_dvd_natAbs.mp (Nat.Coprime.dvd_of_dvd_mul_left h h1)
/-- nothing but units divides all coefficients -/
def Prm (p : SI) : Prop := ∀ t : Int, (∀ k, t ∣ p.c k) → t.natAbs = 1
theorem Prm.least {p r : SI} (h : Prm p) {t s : Int} (ht : t ≠ 0) (hs : s ≠ 0) (e : PS.K t * r = PS.K s * p) (k : Nat) : (p.c k).natAbs ≤ (r.c k).natAbs := by
  have ek : ∀ k, t * r.c k = s * p.c k := fun k => by
    have := congrArg (fun f : SI => f.c k) e
    simpa only [PS.K_mul] using this
  have hg : 0 < Int.gcd s t := Int.gcd_pos_of_ne_zero_left _ hs
  obtain ⟨s', hs'⟩ : (Int.gcd s t : Int) ∣ s := Int.gcd_dvd_left ..
  obtain ⟨t', ht'⟩ : (Int.gcd s t : Int) ∣ t := Int.gcd_dvd_right ..
  generalize hgg : Int.gcd s t = g at *
  subst hs' ht'
  have hc : Int.gcd t' s' = 1 := by
    rw [Int.gcd_mul_left, Int.natAbs_natCast] at hgg
    have h2 : Int.gcd s' t' = 1 := Nat.eq_of_mul_eq_mul_left hg (by rw [Nat.mul_one]; exact hgg)
    rw [Int.gcd_comm]; exact h2
  have eg : ((g : Nat) : Int) ≠ 0 := by omega
  have e2 : ∀ k, t' * r.c k = s' * p.c k := fun k => by
    have h := ek k
    rw [Int.mul_assoc, Int.mul_assoc] at h
    exact Int.eq_of_mul_eq_mul_left eg h
  have h1 : t'.natAbs = 1 := h t' fun k => by
    have : t' ∣ s' * p.c k := ⟨r.c k, (e2 k).symm⟩
    exact dvd_cop hc this
  have hs0 : s' ≠ 0 := fun z => hs (by rw [z, Int.mul_zero])
  have h2 := congrArg Int.natAbs (e2 k)
  rw [Int.natAbs_mul, Int.natAbs_mul, h1, Nat.one_mul] at h2
  rw [h2]
  exact Nat.le_mul_of_pos_left _ (by omega)
end PM

set_option Elab.async false
set_option linter.all false
namespace PM
/-! PR2: the size of a remainder. -/
def cut (U : Nat) (x : Nat → Int) : SI := ⟨fun k => if k < U then x k else 0⟩
theorem dg_cut (U : Nat) (x : Nat → Int) : dg (cut U x) U := fun k hk => if_neg (by omega)
theorem cut_mul (U : Nat) (x : Nat → Int) (f : SI) (j : Nat) : (cut U x * f).c j = sm U fun c => (if c ≤ j then f.c (j - c) else 0) * x c := by
  have e1 : (cut U x * f).c j = sm (j + 1 + U) fun c => (if c < U then x c else 0) * (if c ≤ j then f.c (j - c) else 0) := by
    rw [PS.mul_c, sm_upto (n := j + 1 + U) (m := j + 1) (by omega) fun i h1 _ => by rw [if_neg (show ¬ i ≤ j by omega), Int.mul_zero]]
    exact sm_congr fun i hi => by rw [if_pos (show i ≤ j by omega)]; rfl
  have e2 : (sm U fun c => (if c ≤ j then f.c (j - c) else 0) * x c) = sm (j + 1 + U) fun c => (if c < U then x c else 0) * (if c ≤ j then f.c (j - c) else 0) := by
    rw [sm_upto (n := j + 1 + U) (m := U) (by omega) fun i h1 _ => by rw [if_neg (show ¬ i < U by omega), Int.zero_mul]]
    exact sm_congr fun i hi => by rw [if_pos hi, Int.mul_comm]
  rw [e1, e2]
theorem sm_le {F : Nat} : ∀ {n : Nat} {f : Nat → Int}, (∀ i, i < n → (f i).natAbs ≤ F) → (sm n f).natAbs ≤ n * F
  | 0, _, _ => by rw [Nat.zero_mul]; exact Nat.le_refl _
  | n + 1, f, h => by
    have h1 := sm_le (n := n) (f := f) fun i hi => h i (by omega)
    have h2 := h n (Nat.lt_succ_self n)
    rw [sm_succ, Nat.add_mul]
    omega
theorem Dn.size {p0 p1 x p : SI} {d m n B : Nat} (h : Dn p0 p1 x d p) (h0 : exd p0 m) (h1 : exd p1 n) (hm : d ≤ m) (hn : d ≤ n) (hB : 1 ≤ B) (b0 : ∀ k, (p0.c k).natAbs ≤ B) (b1 : ∀ k, (p1.c k).natAbs ≤ B) (hp : Prm p) {N : Nat} (hN : N = (n - d + 1) + (m - d + 1)) :
    ∀ k, (p.c k).natAbs ≤ N * (B * (N * (N * B) ^ (N - 1))) := by
  generalize hU : n - d + 1 = U at hN
  generalize hV : m - d + 1 = V at hN
  let A : Nat → Nat → Int := fun j c => if c < U then (if c ≤ j then p0.c (j - c) else 0) else if c - U ≤ j then p1.c (j - (c - U)) else 0
  have hA : ∀ j c, (A j c).natAbs ≤ B := fun j c => by
    show Int.natAbs (if c < U then (if c ≤ j then p0.c (j - c) else 0) else if c - U ≤ j then p1.c (j - (c - U)) else 0) ≤ B
    split
    · split
      · exact b0 _
      · exact Nat.zero_le _
    · split
      · exact b1 _
      · exact Nat.zero_le _
  obtain ⟨y, ⟨c0, hc0, hne⟩, hz, hy⟩ := kernel (A := fun i c => A (d + i) c) (B := B) (m := N - 1) (N := N) hB (by omega) fun i c => hA _ c
  have conv : ∀ j, (cut U y * p0 + cut V (fun k => y (U + k)) * p1).c j = sm N fun c => A j c * y c := fun j => by
    rw [PS.add_c, cut_mul, cut_mul, hN, sm_add_n]
    congr 1
    · exact sm_congr fun c hc => by show _ = (if c < U then _ else _) * _; rw [if_pos hc]
    · exact sm_congr fun c hc => by
        show _ = (if U + c < U then _ else if U + c - U ≤ j then p1.c (j - (U + c - U)) else 0) * _
        rw [if_neg (show ¬ U + c < U by omega), Nat.add_sub_cancel_left]
  have hr : dg (cut U y * p0 + cut V (fun k => y (U + k)) * p1) d := fun k hk => by
    by_cases hk2 : k - d < N - 1
    · have := hz (k - d) hk2
      rw [conv, show k = d + (k - d) by omega]
      exact this
    · have hk3 : m + n - d + 1 ≤ k := by omega
      have a1 : dg (cut U y * p0) (m + n - d + 1) := (dg_cut U y).mul h0.2 (by omega)
      have a2 : dg (cut V (fun k => y (U + k)) * p1) (m + n - d + 1) := (dg_cut V _).mul h1.2 (by omega)
      exact (a1.add a2) k hk3
  obtain ⟨t, s, ht, e, z⟩ := h.only h0 (dg_cut U y) (by rw [hV]; exact dg_cut V _) hr rfl
  have hs : s ≠ 0 := fun hs => by
    obtain ⟨z1, z2⟩ := z hs
    by_cases hc : c0 < U
    · have := congrArg (fun f : SI => f.c c0) z1
      have : (if c0 < U then y c0 else 0) = (0 : SI).c c0 := this
      rw [if_pos hc, PS.zero_c] at this
      exact hne this
    · have := congrArg (fun f : SI => f.c (c0 - U)) z2
      have : (if c0 - U < V then y (U + (c0 - U)) else 0) = (0 : SI).c (c0 - U) := this
      rw [if_pos (by omega), PS.zero_c, show U + (c0 - U) = c0 by omega] at this
      exact hne this
  intro k
  refine Nat.le_trans (hp.least ht hs e k) ?_
  rw [conv]
  refine sm_le fun c _ => ?_
  rw [Int.natAbs_mul]
  exact Nat.mul_le_mul (hA k c) (hy c)
end PM

set_option Elab.async false
set_option linter.all false
/-! PF: lists of coefficients over a field: division, common divisors. -/
namespace PM
open Lean.Grind
namespace PS
variable {R : Type} [CommRing R]
/-- a x^n -/
def mono (a : R) (n : Nat) : PS R := ⟨fun k => if k = n then a else 0⟩
theorem mono_mul (a : R) (n : Nat) (f : PS R) (k : Nat) : (mono a n * f).c k = if n ≤ k then a * f.c (k - n) else 0 := by
  rw [mul_c]
  by_cases h : n ≤ k
  · rw [if_pos h, sm_one (k := n) (by omega) fun i hi h0 => by rw [show (mono a n).c i = 0 from if_neg h0]; grind]
    rw [show (mono a n).c n = a from if_pos rfl]
  · rw [if_neg h]
    exact sm_zero fun i hi => by rw [show (mono a n).c i = 0 from if_neg (by omega)]; grind
theorem ext_iff' {f g : PS R} (h : f = g) (k : Nat) : f.c k = g.c k := by rw [h]
end PS
section
variable {R : Type} [CommRing R] [DecidableEq R]
/-- inverses -/
structure Fl (inv : R → R) : Prop where
  mi : ∀ x, x ≠ 0 → x * inv x = 1
  one : (1 : R) ≠ 0
theorem Fl.dom {inv : R → R} (F : Fl inv) {x y : R} (h : x * y = 0) : x = 0 ∨ y = 0 := by
  by_cases hx : x = 0
  · exact .inl hx
  · refine .inr ?_
    have := F.mi x hx
    have e : y = (x * inv x) * y := by rw [this]; grind
    rw [e]
    have : x * inv x * y = (x * y) * inv x := by grind
    rw [this, h]; grind
def lead (l : List R) : R := l.getLast?.getD 0
theorem lead_c {l : List R} : lead l = (toS l).c (l.length - 1) := by
  unfold lead
  rw [toS_c, List.getD_eq_getElem?_getD, List.getLast?_eq_getElem?]
theorem lead_ne {l : List R} (h : Trm l) (hn : l ≠ []) : lead l ≠ 0 := by
  rw [lead_c]; exact trm_last h hn
theorem mul_top {a b : List R} (ha : a ≠ []) (hb : b ≠ []) : (toS a * toS b).c (a.length - 1 + (b.length - 1)) = lead a * lead b := by
  have la : 0 < a.length := List.length_pos_iff.mpr ha
  have lb : 0 < b.length := List.length_pos_iff.mpr hb
  rw [PS.mul_c, sm_one (k := a.length - 1) (by omega), lead_c, lead_c, Nat.add_sub_cancel_left]
  intro i hi hk
  by_cases h : a.length ≤ i
  · rw [toS_ge h]; grind
  · rw [toS_ge (l := b) (by omega)]; grind
variable {inv : R → R}
theorem pmul_len_eq (F : Fl inv) {a b : List R} (ta : Trm a) (tb : Trm b) (ha : a ≠ []) (hb : b ≠ []) : (pmul a b).length = a.length + b.length - 1 := by
  have la : 0 < a.length := List.length_pos_iff.mpr ha
  have lb : 0 < b.length := List.length_pos_iff.mpr hb
  refine Nat.le_antisymm (pmul_len a b) ?_
  by_cases h : a.length - 1 + (b.length - 1) < (pmul a b).length
  · omega
  · have e := mul_top ha hb
    rw [← toS_pmul, toS_ge (by omega)] at e
    rcases F.dom e.symm with z | z
    · exact absurd z (lead_ne ta ha)
    · exact absurd z (lead_ne tb hb)
theorem pmul_ne (F : Fl inv) {a b : List R} (ta : Trm a) (tb : Trm b) (ha : a ≠ []) (hb : b ≠ []) : pmul a b ≠ [] := by
  have la : 0 < a.length := List.length_pos_iff.mpr ha
  have lb : 0 < b.length := List.length_pos_iff.mpr hb
  have := pmul_len_eq F ta tb ha hb
  intro e
  rw [e] at this
  simp at this; omega
def psub (a b : List R) : List R := trim (lst (max a.length b.length) (toS a - toS b))
theorem toS_psub (a b : List R) : toS (psub a b) = toS a - toS b := by
  unfold psub
  rw [toS_trim, toS_lst fun k hk => by rw [PS.sub_c, toS_ge (by omega), toS_ge (by omega)]; grind]
theorem trm_psub (a b : List R) : Trm (psub a b) := tr_trim _
theorem psub_len (a b : List R) : (psub a b).length ≤ max a.length b.length := by
  unfold psub
  exact Nat.le_trans (trimP_le _) (by rw [lst_length]; omega)
theorem trm_zero {l : List R} (h : Trm l) (e : toS l = 0) : l = [] := trm_ext h tr_nil (by rw [e, toS_nil])
/-! ### division -/
structure IsDiv (a b q r : List R) : Prop where
  tq : Trm q
  tr : Trm r
  lr : r.length < b.length
  eq : toS a = toS q * toS b + toS r
theorem IsDiv.uniq (F : Fl inv) {a b q r q' r' : List R} (tb : Trm b) (h : IsDiv a b q r) (h' : IsDiv a b q' r') : q = q' ∧ r = r' := by
  have hb : b ≠ [] := fun e => by have := h.lr; rw [e] at this; simp at this
  have e : toS (psub q q') * toS b = toS (psub r' r) := by
    rw [toS_psub, toS_psub]
    have e1 := h.eq
    have e2 := h'.eq
    grind
  have hd : psub q q' = [] := by
    by_cases hd : psub q q' = []
    · exact hd
    · have l1 := pmul_len_eq F (trm_psub q q') tb hd hb
      have e2 : pmul (psub q q') b = psub r' r := trm_ext (trm_pmul _ _) (trm_psub _ _) (by rw [toS_pmul, e])
      rw [e2] at l1
      have l2 := psub_len r' r
      have := h.lr
      have := h'.lr
      have : 0 < (psub q q').length := List.length_pos_iff.mpr hd
      omega
  have eq : toS q = toS q' := by
    have : toS (psub q q') = 0 := by rw [hd, toS_nil]
    rw [toS_psub] at this
    grind
  have er : toS r = toS r' := by
    have : toS (psub r' r) = 0 := by rw [← e, hd, toS_nil]; grind
    rw [toS_psub] at this
    grind
  exact ⟨trm_ext h.tq h'.tq eq, trm_ext h.tr h'.tr er⟩
theorem exists_div (F : Fl inv) {b : List R} (tb : Trm b) (hb : b ≠ []) : ∀ (n : Nat) (a : List R), a.length ≤ n → Trm a → ∃ q r, IsDiv a b q r := by
  have lb : 0 < b.length := List.length_pos_iff.mpr hb
  intro n
  induction n with
  | zero =>
    intro a ha ta
    exact ⟨[], a, tr_nil, ta, by omega, by rw [toS_nil]; grind⟩
  | succ n ih =>
    intro a ha ta
    by_cases hlt : a.length < b.length
    · exact ⟨[], a, tr_nil, ta, hlt, by rw [toS_nil]; grind⟩
    have ha0 : a ≠ [] := fun e => by rw [e] at hlt; exact hlt lb
    have la0 : 0 < a.length := List.length_pos_iff.mpr ha0
    let c := lead a * inv (lead b)
    let g : PS R := toS a - PS.mono c (a.length - b.length) * toS b
    have hg : ∀ k, a.length - 1 ≤ k → g.c k = 0 := by
      intro k hk
      show (toS a).c k - (PS.mono c (a.length - b.length) * toS b).c k = 0
      rw [PS.mono_mul, if_pos (by omega)]
      by_cases e : k = a.length - 1
      · subst e
        rw [← lead_c, show a.length - 1 - (a.length - b.length) = b.length - 1 by omega, ← lead_c]
        have := F.mi (lead b) (lead_ne tb hb)
        show lead a - lead a * inv (lead b) * lead b = 0
        grind
      · rw [toS_ge (l := a) (by omega), toS_ge (l := b) (by omega)]; grind
    obtain ⟨q, r, h⟩ := ih (trim (lst (a.length - 1) g)) (Nat.le_trans (trimP_le _) (by rw [lst_length]; omega)) (tr_trim _)
    have e1 := h.eq
    rw [toS_trim, toS_lst hg] at e1
    have hq : ∀ k, max q.length a.length ≤ k → (toS q + PS.mono c (a.length - b.length)).c k = 0 := by
      intro k hk
      rw [PS.add_c, toS_ge (by omega), show (PS.mono c (a.length - b.length)).c k = 0 from if_neg (by omega)]; grind
    refine ⟨trim (lst (max q.length a.length) (toS q + PS.mono c (a.length - b.length))), r, tr_trim _, h.tr, h.lr, ?_⟩
    rw [toS_trim, toS_lst hq]
    have e2 : g = toS a - PS.mono c (a.length - b.length) * toS b := rfl
    grind
open Classical in
noncomputable def qr (a b : List R) : List R × List R := if h : ∃ p : List R × List R, IsDiv a b p.1 p.2 then h.choose else ([], [])
noncomputable def quo (a b : List R) : List R := (qr a b).1
noncomputable def rem (a b : List R) : List R := (qr a b).2
theorem qr_div (F : Fl inv) {a b : List R} (ta : Trm a) (tb : Trm b) (hb : b ≠ []) : IsDiv a b (quo a b) (rem a b) := by
  obtain ⟨q, r, h⟩ := exists_div F tb hb a.length a (Nat.le_refl _) ta
  have hex : ∃ p : List R × List R, IsDiv a b p.1 p.2 := ⟨(q, r), h⟩
  unfold quo rem qr
  rw [dif_pos hex]
  exact hex.choose_spec
theorem qr_eq (F : Fl inv) {a b q r : List R} (tb : Trm b) (h : IsDiv a b q r) : quo a b = q ∧ rem a b = r := by
  have hex : ∃ p : List R × List R, IsDiv a b p.1 p.2 := ⟨(q, r), h⟩
  have := hex.choose_spec.uniq F tb h
  unfold quo rem qr
  rw [dif_pos hex]
  exact this
theorem trm_rem (F : Fl inv) {a b : List R} (ta : Trm a) (tb : Trm b) (hb : b ≠ []) : Trm (rem a b) := (qr_div F ta tb hb).tr
theorem rem_len (F : Fl inv) {a b : List R} (ta : Trm a) (tb : Trm b) (hb : b ≠ []) : (rem a b).length < b.length := (qr_div F ta tb hb).lr
/-! ### division, turn by turn -/
def part (c : R) (t : Nat) (b : List R) (j : Nat) : PS R := ⟨fun k => if t ≤ k ∧ k < t + j then c * b.getD (k - t) 0 else 0⟩
theorem part_zero (c : R) (t : Nat) (b : List R) (f : PS R) : f - part c t b 0 = f := PS.ext' fun k => by
  rw [PS.sub_c, show (part c t b 0).c k = 0 from if_neg (by omega)]; grind
theorem part_end (c : R) (t : Nat) (b : List R) : part c t b b.length = PS.mono c t * toS b := PS.ext' fun k => by
  rw [PS.mono_mul]
  show (if t ≤ k ∧ k < t + b.length then c * b.getD (k - t) 0 else 0) = _
  by_cases h : t ≤ k
  · rw [if_pos h]
    by_cases h2 : k < t + b.length
    · rw [if_pos ⟨h, h2⟩]; rfl
    · rw [if_neg (by omega), toS_ge (by omega)]; grind
  · rw [if_neg (by omega), if_neg h]
theorem part_step {n t j : Nat} {c : R} {b : List R} {f : PS R} : (lst n (f - part c t b j)).set (t + j) (f.c (t + j) - c * b.getD j 0) = lst n (f - part c t b (j + 1)) := by
  have e : f.c (t + j) - c * b.getD j 0 = (f - part c t b j).c (t + j) + (- (c * b.getD j 0)) := by
    rw [PS.sub_c, show (part c t b j).c (t + j) = 0 from if_neg (by omega)]; grind
  rw [e, lst_set]
  refine lst_congr fun k _ => ?_
  show (f - part c t b j).c k + _ = (f - part c t b (j + 1)).c k
  rw [PS.sub_c, PS.sub_c]
  show f.c k - (if t ≤ k ∧ k < t + j then c * b.getD (k - t) 0 else 0) + (if k = t + j then - (c * b.getD j 0) else 0) = f.c k - (if t ≤ k ∧ k < t + (j + 1) then c * b.getD (k - t) 0 else 0)
  by_cases h : k = t + j
  · subst h
    rw [if_neg (by omega), if_pos rfl, if_pos (by omega), Nat.add_sub_cancel_left]; grind
  · by_cases h2 : t ≤ k ∧ k < t + j
    · rw [if_pos h2, if_neg h, if_pos (by omega)]; grind
    · rw [if_neg h2, if_neg h, if_neg (by omega)]; grind
theorem part_at {t j : Nat} {c : R} {b : List R} {f : PS R} : (f - part c t b j).c (t + j) = f.c (t + j) := by
  rw [PS.sub_c, show (part c t b j).c (t + j) = 0 from if_neg (by omega)]; grind
theorem mono_set {n t : Nat} {c : R} {g : PS R} (h : g.c t = 0) : (lst n g).set t c = lst n (g + PS.mono c t) := by
  have e : c = g.c t + c := by rw [h]; grind
  conv => lhs; rw [e]
  rw [lst_set]
  rfl
structure DivSt (a b : List R) (i : Nat) (f g : PS R) : Prop where
  eq : f = toS a - g * toS b
  hf : ∀ k, a.length - i ≤ k → f.c k = 0
  g0 : ∀ k, k < a.length + 1 - b.length - i → g.c k = 0
  g1 : ∀ k, a.length + 1 - b.length ≤ k → g.c k = 0
theorem DivSt.start (a b : List R) : DivSt a b 0 (toS a) 0 :=
  ⟨by grind, fun k hk => toS_ge (by omega), fun k _ => PS.zero_c k, fun k _ => PS.zero_c k⟩
theorem DivSt.step (F : Fl inv) {a b : List R} (tb : Trm b) (hb : b ≠ []) {i : Nat} {f g : PS R} (h : DivSt a b i f g) (hi : i < a.length + 1 - b.length) {t : Nat} (ht : t = a.length + 1 - b.length - 1 - i) {c : R} (hc : c = f.c (t + b.length - 1) * inv (lead b)) :
    DivSt a b (i + 1) (f - PS.mono c t * toS b) (g + PS.mono c t) := by
  have lb : 0 < b.length := List.length_pos_iff.mpr hb
  refine ⟨?_, ?_, ?_, ?_⟩
  · have := h.eq
    grind
  · intro k hk
    rw [PS.sub_c, PS.mono_mul, if_pos (by omega)]
    by_cases e : k = t + b.length - 1
    · have e2 : k - t = b.length - 1 := by omega
      rw [e2, ← lead_c, e, hc]
      have := F.mi (lead b) (lead_ne tb hb)
      grind
    · rw [h.hf k (by omega), toS_ge (by omega)]; grind
  · intro k hk
    rw [PS.add_c, h.g0 k (by omega), show (PS.mono c t).c k = 0 from if_neg (by omega)]; grind
  · intro k hk
    rw [PS.add_c, h.g1 k (by omega), show (PS.mono c t).c k = 0 from if_neg (by omega)]; grind
theorem DivSt.fin {a b : List R} (hb : b ≠ []) {f g : PS R} (h : DivSt a b (a.length + 1 - b.length) f g) : IsDiv a b (trim (lst (a.length + 1 - b.length) g)) (trim (lst a.length f)) := by
  have lb : 0 < b.length := List.length_pos_iff.mpr hb
  have e1 : toS (lst a.length f) = f := toS_lst fun k hk => h.hf k (by omega)
  have e2 : toS (lst (a.length + 1 - b.length) g) = g := toS_lst h.g1
  refine ⟨tr_trim _, tr_trim _, ?_, by rw [toS_trim, toS_trim, e1, e2, h.eq]; grind⟩
  by_cases hl : b.length ≤ a.length
  · have e3 : toS (lst (b.length - 1) f) = f := toS_lst fun k hk => h.hf k (by omega)
    have : trim (lst a.length f) = trim (lst (b.length - 1) f) := trim_ext (by rw [e1, e3])
    rw [this]
    exact Nat.lt_of_le_of_lt (trimP_le _) (by rw [lst_length]; omega)
  · exact Nat.lt_of_le_of_lt (trimP_le _) (by rw [lst_length]; omega)
/-! ### common divisors -/
def Dv (d a : List R) : Prop := ∃ c : List R, toS a = toS c * toS d
theorem Dv.refl (a : List R) : Dv a a := ⟨[1], by rw [toS_one]; grind⟩
theorem Dv.nil (d : List R) : Dv d [] := ⟨[], by rw [toS_nil]; grind⟩
theorem Dv.trans {a b c : List R} (h : Dv a b) (h' : Dv b c) : Dv a c := by
  obtain ⟨u, hu⟩ := h
  obtain ⟨v, hv⟩ := h'
  exact ⟨pmul v u, by rw [toS_pmul, hv, hu]; grind⟩
theorem Dv.comb {d a b c : List R} (u v : List R) (h : Dv d a) (h' : Dv d b) (e : toS c = toS u * toS a + toS v * toS b) : Dv d c := by
  obtain ⟨x, hx⟩ := h
  obtain ⟨y, hy⟩ := h'
  exact ⟨padd (pmul u x) (pmul v y), by rw [toS_padd, toS_pmul, toS_pmul, e, hx, hy]; grind⟩
/-- Euclid's steps -/
noncomputable def gcdF : Nat → List R → List R → List R
  | 0, a, _ => a
  | n + 1, a, b => if b = [] then a else gcdF n b (rem a b)
/-- powers modulo m, by halves -/
noncomputable def pwM (m : List R) (f s : List R) (e : Nat) : List R :=
  if h : e = 0 then f else pwM m (if e % 2 = 1 then rem (pmul f s) m else f) (rem (pmul s s) m) (e / 2)
termination_by e
decreasing_by omega
structure IsGcd (g a b : List R) : Prop where
  t : Trm g
  l : Dv g a
  r : Dv g b
  m : ∃ u v : List R, toS g = toS u * toS a + toS v * toS b
theorem IsGcd.max {g a b e : List R} (h : IsGcd g a b) (ha : Dv e a) (hb : Dv e b) : Dv e g := by
  obtain ⟨u, v, m⟩ := h.m
  exact .comb u v ha hb m
theorem gcdF_is (F : Fl inv) : ∀ (n : Nat) (a b : List R), Trm a → Trm b → b.length < n → IsGcd (gcdF n a b) a b
  | 0, _, _, _, _, h => absurd h (by omega)
  | n + 1, a, b, ta, tb, h => by
    unfold gcdF
    by_cases hb : b = []
    · rw [if_pos hb, hb]
      exact ⟨ta, .refl a, .nil a, [1], [], by rw [toS_one, toS_nil]; grind⟩
    · rw [if_neg hb]
      have D := qr_div F ta tb hb
      have lr := D.lr
      obtain ⟨t, l, r, u, v, m⟩ := gcdF_is F n b (rem a b) tb D.tr (by omega)
      refine ⟨t, ?_, l, v, psub u (pmul v (quo a b)), ?_⟩
      · exact .comb (quo a b) [1] l r (by rw [toS_one, D.eq]; grind)
      · rw [m, toS_psub, toS_pmul]
        have := D.eq
        grind
theorem IsGcd.symm {g a b : List R} (h : IsGcd g a b) : IsGcd g b a := by
  obtain ⟨t, l, r, u, v, m⟩ := h
  exact ⟨t, r, l, v, u, by rw [m]; grind⟩
theorem Dv.len (F : Fl inv) {d a : List R} (td : Trm d) (ta : Trm a) (ha : a ≠ []) (h : Dv d a) : d ≠ [] ∧ ∃ c, Trm c ∧ c ≠ [] ∧ toS a = toS c * toS d ∧ a.length = c.length + d.length - 1 := by
  obtain ⟨c, hc⟩ := h
  have e : a = pmul (trim c) d := trm_ext ta (trm_pmul _ _) (by rw [toS_pmul, toS_trim, hc])
  have hd : d ≠ [] := by
    rintro rfl
    rw [pmul_nil] at e; exact ha e
  have hc0 : trim c ≠ [] := by
    intro z
    rw [z, nil_pmul] at e; exact ha e
  refine ⟨hd, trim c, tr_trim _, hc0, by rw [toS_trim, hc], ?_⟩
  conv => lhs; rw [e]
  exact pmul_len_eq F (tr_trim _) td hc0 hd
/-- made monic -/
def mon (inv : R → R) (a : List R) : List R := a.map (· * inv (lead a))
theorem toS_mon (a : List R) : toS (mon inv a) = PS.K (inv (lead a)) * toS a := PS.ext' fun k => by
  rw [PS.K_mul, toS_c, toS_c, List.getD_eq_getElem?_getD, List.getD_eq_getElem?_getD]
  unfold mon
  rw [List.getElem?_map]
  cases a[k]? with
  | none => show (0 : R) = _ * 0; grind
  | some x => show x * _ = _ * x; grind
theorem mon_last {a : List R} (F : Fl inv) (ta : Trm a) (ha : a ≠ []) : (mon inv a).getLast? = some 1 := by
  unfold mon
  rw [List.getLast?_map]
  rcases snoc_cases a with rfl | ⟨m, x, rfl⟩
  · exact absurd rfl ha
  · have h := lead_ne ta ha
    rw [List.getLast?_concat]
    show some (x * inv (lead (m ++ [x]))) = some 1
    have e : lead (m ++ [x]) = x := by unfold lead; rw [List.getLast?_concat]; rfl
    rw [e] at h ⊢
    rw [F.mi x h]
theorem trm_mon {a : List R} (F : Fl inv) (ta : Trm a) : Trm (mon inv a) := by
  by_cases ha : a = []
  · subst ha; exact tr_nil
  · intro x hx
    rw [mon_last F ta ha] at hx
    cases hx
    simp [isz, F.one]
theorem mon_len (a : List R) : (mon inv a).length = a.length := by unfold mon; simp
theorem mon_nil : mon inv ([] : List R) = [] := rfl
/-- what divides one another is the same up to a factor -/
theorem assoc_mon (F : Fl inv) {a b : List R} (ta : Trm a) (tb : Trm b) (h : Dv a b) (h' : Dv b a) : mon inv a = mon inv b := by
  by_cases ha : a = []
  · subst ha
    obtain ⟨c, hc⟩ := h
    have : b = [] := trm_zero tb (by rw [hc, toS_nil]; grind)
    rw [this]
  · obtain ⟨hb, c, tc, hc, e, l⟩ := Dv.len F tb ta ha h'
    obtain ⟨_, c', tc', hc', e', l'⟩ := Dv.len F ta tb hb h
    have lc : 0 < c.length := List.length_pos_iff.mpr hc
    have lc' : 0 < c'.length := List.length_pos_iff.mpr hc'
    have lA : 0 < a.length := List.length_pos_iff.mpr ha
    have lB : 0 < b.length := List.length_pos_iff.mpr hb
    have l1 : c.length = 1 := by omega
    obtain ⟨x, rfl⟩ := List.length_eq_one_iff.mp l1
    have hx : x ≠ 0 := by
      have := tc x rfl
      simpa [isz] using this
    have la : a.length = b.length := by omega
    have ll : lead a = x * lead b := by
      rw [lead_c, lead_c, e, toS_K, PS.K_mul, la]
    refine trm_ext (trm_mon F ta) (trm_mon F tb) ?_
    rw [toS_mon, toS_mon, e, toS_K]
    have hb0 := lead_ne tb hb
    have i1 := F.mi (lead b) hb0
    have i2 := F.mi (lead a) (lead_ne ta ha)
    have key : inv (lead a) * x = inv (lead b) := by
      have : inv (lead a) * x = (inv (lead a) * x) * (lead b * inv (lead b)) := by rw [i1]; grind
      rw [this]
      have : inv (lead a) * x * (lead b * inv (lead b)) = (lead a * inv (lead a)) * inv (lead b) := by rw [ll]; grind
      rw [this, i2]; grind
    refine PS.ext' fun k => ?_
    rw [PS.K_mul, PS.K_mul, PS.K_mul, ← key]; grind
theorem gcd_uniq (F : Fl inv) {g g' a b : List R} (h : IsGcd g a b) (h' : IsGcd g' a b) : mon inv g = mon inv g' :=
  assoc_mon F h.t h'.t (h'.max h.l h.r) (h.max h'.l h'.r)
end
end PM

set_option Elab.async false
set_option linter.all false
namespace DL.LW
open PM
/-! PG: contents, primitive parts, Gauss's lemma. -/
theorem nat_prime : ∀ n : Nat, 2 ≤ n → ∃ p, 2 ≤ p ∧ p ∣ n ∧ ∀ d, d ∣ p → d = 1 ∨ d = p := by
  intro n
  induction n using Nat.strongRecOn with
  | _ n ih =>
    intro h
    by_cases hd : ∃ d, 2 ≤ d ∧ d < n ∧ d ∣ n
    · obtain ⟨d, d2, dn, dd⟩ := hd
      obtain ⟨p, a, b, c⟩ := ih d dn d2
      exact ⟨p, a, Nat.dvd_trans b dd, c⟩
    · refine ⟨n, h, Nat.dvd_refl n, fun d hdv => ?_⟩
      have le := Nat.le_of_dvd (by omega) hdv
      have pos : 0 < d := Nat.pos_of_dvd_of_pos hdv (by omega)
      by_cases e : d = 1
      · exact .inl e
      · by_cases e2 : d = n
        · exact .inr e2
        · exact absurd ⟨d, by omega, by omega, hdv⟩ hd
theorem int_prime {t : Int} (h : t.natAbs ≠ 1) : ∃ p : Nat, 2 ≤ p ∧ (p : Int) ∣ t ∧ ∀ a b : Int, (p : Int) ∣ a * b → (p : Int) ∣ a ∨ (p : Int) ∣ b := by
  have key : ∃ p : Nat, 2 ≤ p ∧ (p : Int) ∣ t ∧ ∀ d, d ∣ p → d = 1 ∨ d = p := by
    by_cases h0 : t = 0
    · exact ⟨2, by decide, by rw [h0]; exact Int.dvd_zero _, fun d hd => by
        have := Nat.le_of_dvd (by decide) hd
        have := Nat.pos_of_dvd_of_pos hd (by decide)
        omega⟩
    · obtain ⟨p, a, b, c⟩ := nat_prime t.natAbs (by omega)
      exact ⟨p, a, Int.natAbs_dvd_natAbs.mp (by rw [Int.natAbs_natCast]; exact b), c⟩
  obtain ⟨p, a, b, c⟩ := key
  refine ⟨p, a, b, fun x y h => ?_⟩
  rcases c (Int.gcd p x) (by have := Int.gcd_dvd_left (a := (p : Int)) (b := x); exact Int.natCast_dvd_natCast.mp this) with e | e
  · exact .inr (dvd_cop e h)
  · refine .inl ?_
    have := Int.gcd_dvd_right (a := (p : Int)) (b := x)
    rw [e] at this
    exact this
theorem dvd_sm {p : Int} : ∀ {n : Nat} {f : Nat → Int}, (∀ i, i < n → p ∣ f i) → p ∣ sm n f
  | 0, _, _ => Int.dvd_zero _
  | n + 1, f, h => by rw [sm_succ]; exact Int.dvd_add (dvd_sm fun i hi => h i (by omega)) (h n (Nat.lt_succ_self n))
theorem least_not {P : Nat → Prop} (h : ¬ ∀ k, P k) : ∃ i, ¬ P i ∧ ∀ j, j < i → P j := by
  obtain ⟨k, hk⟩ := Classical.not_forall.mp h
  have : ∀ n, ¬ P n → ∃ i, ¬ P i ∧ ∀ j, j < i → P j := by
    intro n
    induction n using Nat.strongRecOn with
    | _ n ih =>
      intro hn
      by_cases h : ∀ j, j < n → P j
      · exact ⟨n, hn, h⟩
      · obtain ⟨j, hj⟩ := Classical.not_forall.mp h
        obtain ⟨h1, h2⟩ := Classical.not_imp.mp hj
        exact ih j h1 h2
  exact this k hk
/-- Gauss's lemma -/
theorem Prm.mul {f g : SI} (hf : Prm f) (hg : Prm g) : Prm (f * g) := fun t ht => Classical.byContradiction fun h => by
  obtain ⟨p, p2, pt, pr⟩ := int_prime h
  have no : ∀ {u : SI}, Prm u → ¬ ∀ k, (p : Int) ∣ u.c k := fun hu a => by
    have := hu p a
    rw [Int.natAbs_natCast] at this
    omega
  obtain ⟨i, i1, i2⟩ := least_not (no hf)
  obtain ⟨j, j1, j2⟩ := least_not (no hg)
  have h1 : (p : Int) ∣ (f * g).c (i + j) := Int.dvd_trans pt (ht _)
  have h2 : (f * g).c (i + j) = (sm i fun k => f.c k * g.c (i + j - k)) + (f.c i * g.c j + sm j fun k => f.c (i + (k + 1)) * g.c (i + j - (i + (k + 1)))) := by
    rw [PS.mul_c, show i + j + 1 = i + (j + 1) by omega, sm_add_n, sm_first]
    congr 2
    show f.c (i + 0) * g.c (i + j - (i + 0)) = _
    rw [Nat.add_zero, Nat.add_sub_cancel_left]
  have h3 : (p : Int) ∣ sm i fun k => f.c k * g.c (i + j - k) := dvd_sm fun k hk => Int.dvd_trans (i2 k hk) (Int.dvd_mul_right ..)
  have h4 : (p : Int) ∣ sm j fun k => f.c (i + (k + 1)) * g.c (i + j - (i + (k + 1))) := dvd_sm fun k hk => Int.dvd_trans (j2 (i + j - (i + (k + 1))) (by omega)) (Int.dvd_mul_left ..)
  rw [h2] at h1
  have h5 : (p : Int) ∣ f.c i * g.c j := (Int.dvd_iff_dvd_of_dvd_add ((Int.dvd_iff_dvd_of_dvd_add h1).mp h3 |> fun z => z)).mpr h4
  rcases pr _ _ h5 with z | z
  · exact i1 z
  · exact j1 z
/-! ### contents of lists -/
theorem contL_dvd : ∀ (a : List Int) (c : Int), c ∈ a → contL a ∣ c := by
  have key : ∀ n (a : List Int), a.length = n → ∀ c ∈ a, contL a ∣ c := by
    intro n
    induction n with
    | zero => intro a h c hc; rw [List.length_eq_zero_iff.mp h] at hc; cases hc
    | succ n ih =>
      intro a h c hc
      rcases snoc_cases a with rfl | ⟨m, d, rfl⟩
      · cases h
      · rw [contL_snoc]
        rcases List.mem_append.mp hc with q | q
        · exact Int.dvd_trans (Int.gcd_dvd_left ..) (ih m (by simpa using h) c q)
        · rw [List.mem_singleton.mp q]; exact Int.gcd_dvd_right ..
  exact fun a c hc => key a.length a rfl c hc
theorem dvd_contL {t : Int} : ∀ (n : Nat) (a : List Int), a.length = n → (∀ c ∈ a, t ∣ c) → t ∣ contL a := by
  intro n
  induction n with
  | zero => intro a h _; rw [List.length_eq_zero_iff.mp h]; exact Int.dvd_zero _
  | succ n ih =>
    intro a h hc
    rcases snoc_cases a with rfl | ⟨m, d, rfl⟩
    · cases h
    · rw [contL_snoc]
      exact Int.dvd_coe_gcd (ih m (by simpa using h) fun c q => hc c (by simp [q])) (hc d (by simp))
theorem c_mem {a : List Int} {k : Nat} (h : k < a.length) : (toS a).c k ∈ a := by rw [toS_lt h]; exact List.getElem_mem h
theorem contL_c (a : List Int) (k : Nat) : contL a ∣ (toS a).c k := by
  by_cases h : k < a.length
  · exact contL_dvd a _ (c_mem h)
  · rw [toS_ge (by omega)]; exact Int.dvd_zero _
theorem dvd_contS {t : Int} {a : List Int} (h : ∀ k, t ∣ (toS a).c k) : t ∣ contL a := dvd_contL a.length a rfl fun c hc => by
  obtain ⟨k, hk⟩ := List.getElem?_of_mem hc
  obtain ⟨hk2, e⟩ := List.getElem?_eq_some_iff.mp hk
  have := h k
  rw [toS_lt hk2, e] at this
  exact this
/-- the content with the sign of the leading coefficient -/
def sgc (a : List Int) : Int := if 0 < lastI a then contL a else -contL a
theorem lastI_c {a : List Int} : lastI a = (toS a).c (a.length - 1) := lead_c
theorem sgc_ne {a : List Int} (t : Trm a) (h : a ≠ []) : sgc a ≠ 0 := by
  have := (contL_last t h).1
  unfold sgc
  split <;> omega
theorem sgc_abs (a : List Int) : (sgc a).natAbs = (contL a).natAbs := by unfold sgc; split <;> simp
theorem sgc_c (a : List Int) (k : Nat) : sgc a ∣ (toS a).c k := by
  unfold sgc
  split
  · exact contL_c a k
  · exact Int.neg_dvd.mpr (contL_c a k)
theorem primL_c {a : List Int} (t : Trm a) (h : a ≠ []) (k : Nat) : (toS a).c k = sgc a * (toS (primL a)).c k := by
  have e : (toS (primL a)).c k = ((toS a).c k).fdiv (sgc a) := by
    by_cases hk : k < a.length
    · rw [toS_lt hk, toS_lt (by unfold primL; simpa using hk)]
      unfold primL sgc
      simp
    · rw [toS_ge (l := a) (by omega), toS_ge (l := primL a) (by unfold primL; simp; omega)]; simp
  rw [e]
  exact (Int.mul_fdiv_cancel' (sgc_c a k)).symm
theorem primL_len (a : List Int) : (primL a).length = a.length := by unfold primL; simp
theorem primL_S {a : List Int} (t : Trm a) (h : a ≠ []) : toS a = PS.K (sgc a) * toS (primL a) := PS.ext' fun k => by rw [PS.K_mul]; exact primL_c t h k
theorem primL_nil : primL [] = [] := rfl
theorem primL_ne {a : List Int} (h : a ≠ []) : primL a ≠ [] := fun z => h (List.length_eq_zero_iff.mp (by rw [← primL_len, z]; rfl))
/-- a primitive part: the leading coefficient is above 0 -/
structure IsP (b : List Int) : Prop where
  t : Trm b
  n : b ≠ []
  p : Prm (toS b)
  l : 0 < lastI b
theorem primL_is {a : List Int} (t : Trm a) (h : a ≠ []) : IsP (primL a) := by
  have h0 := sgc_ne t h
  have hl := primL_ne h
  have e := primL_c t h (a.length - 1)
  have ta := lead_ne t h
  have ea : lastI a = sgc a * lastI (primL a) := by rw [lastI_c, lastI_c, primL_len]; exact e
  have pos : 0 < lastI (primL a) := by
    have c0 := (contL_last t h).1
    have ta : lastI a ≠ 0 := ta
    unfold sgc at ea
    split at ea
    · rename_i z
      rw [ea] at z
      exact Int.pos_of_mul_pos_right z c0
    · rename_i z
      have z2 : lastI a < 0 := by omega
      rw [ea, Int.neg_mul] at z2
      exact Int.pos_of_mul_pos_right (show 0 < contL a * lastI (primL a) by omega) c0
  refine ⟨fun x hx => ?_, hl, fun u hu => ?_, pos⟩
  · have e2 := lastI_get' hl
    rw [hx] at e2
    have : x = lastI (primL a) := Option.some.inj e2
    rw [this]; simp [isz]; omega
  · have h1 : (sgc a * u) ∣ contL a := dvd_contS fun k => by rw [primL_c t h k]; exact Int.mul_dvd_mul_left _ (hu k)
    have h2 := Int.natAbs_dvd_natAbs.mpr h1
    rw [Int.natAbs_mul, sgc_abs] at h2
    have c0 : 0 < (contL a).natAbs := by have := (contL_last t h).1; omega
    have h3 : (contL a).natAbs * u.natAbs ∣ (contL a).natAbs * 1 := by rw [Nat.mul_one]; exact h2
    have h4 := Nat.dvd_of_mul_dvd_mul_left c0 h3
    exact Nat.dvd_one.mp h4
/-- there is one alone -/
theorem IsP.uniq {a b : List Int} (ha : IsP a) (hb : IsP b) {s t : Int} (hs : s ≠ 0) (ht : t ≠ 0) (e : PS.K s * toS a = PS.K t * toS b) : a = b ∧ s = t := by
  have h1 := ha.p.least ht hs e.symm
  have h2 := hb.p.least hs ht e
  have ek : ∀ k, s * (toS a).c k = t * (toS b).c k := fun k => by
    have := congrArg (fun f : SI => f.c k) e
    simpa only [PS.K_mul] using this
  have st : s.natAbs = t.natAbs := by
    have := congrArg Int.natAbs (ek (a.length - 1))
    rw [Int.natAbs_mul, Int.natAbs_mul, show ((toS b).c (a.length - 1)).natAbs = ((toS a).c (a.length - 1)).natAbs from Nat.le_antisymm (h2 _) (h1 _)] at this
    have la : (toS a).c (a.length - 1) = lastI a := lastI_c.symm
    rw [la] at this
    exact Nat.eq_of_mul_eq_mul_right (by have := ha.l; omega) this
  have ll : a.length = b.length := by
    have n1 := List.length_pos_iff.mpr ha.n
    have n2 := List.length_pos_iff.mpr hb.n
    rcases Nat.lt_trichotomy a.length b.length with l | l | l
    · have := h2 (b.length - 1)
      have lb : (toS b).c (b.length - 1) = lastI b := lastI_c.symm
      rw [lb, toS_ge (by omega)] at this
      have := hb.l
      simp at *; omega
    · exact l
    · have := h1 (a.length - 1)
      have la : (toS a).c (a.length - 1) = lastI a := lastI_c.symm
      rw [la, toS_ge (by omega)] at this
      have := ha.l
      simp at *; omega
  have est : s = t := by
    have e1 := ek (a.length - 1)
    rw [← lastI_c, ll, ← lastI_c] at e1
    have p1 := ha.l
    have p2 := hb.l
    rcases Int.natAbs_eq_natAbs_iff.mp st with z | z
    · exact z
    · rw [z] at e1
      have h : -t * lastI a = t * lastI b := e1
      have : t * (lastI a + lastI b) = 0 := by rw [Int.mul_add]; rw [Int.neg_mul] at h; omega
      rcases Int.mul_eq_zero.mp this with q | q
      · exact absurd q ht
      · omega
  refine ⟨trm_ext ha.t hb.t (PS.ext' fun k => ?_), est⟩
  have := ek k
  rw [est] at this
  exact Int.eq_of_mul_eq_mul_left ht this
theorem mul_ne {a b : Int} (ha : a ≠ 0) (hb : b ≠ 0) : a * b ≠ 0 := fun z => by
  rcases Int.mul_eq_zero.mp z with q | q
  · exact ha q
  · exact hb q
theorem primL_eq {a b : List Int} (ta : Trm a) (hb : IsP b) {s t : Int} (hs : s ≠ 0) (ht : t ≠ 0) (e : PS.K s * toS a = PS.K t * toS b) : a ≠ [] ∧ primL a = b ∧ s * sgc a = t := by
  have hn : a ≠ [] := fun z => by
    have := congrArg (fun f : SI => f.c (b.length - 1)) e
    simp only [PS.K_mul] at this
    rw [z, toS_nil, PS.zero_c, ← lastI_c, Int.mul_zero] at this
    rcases Int.mul_eq_zero.mp this.symm with q | q
    · exact ht q
    · have := hb.l; omega
  have e2 : PS.K (s * sgc a) * toS (primL a) = PS.K t * toS b := by rw [← K_same, ← primL_S ta hn]; exact e
  have := (primL_is ta hn).uniq hb (mul_ne hs (sgc_ne ta hn)) ht e2
  exact ⟨hn, this.1, this.2⟩
end DL.LW

set_option Elab.async false
set_option linter.all false
namespace DL.LW
open PM
/-! PT: Euclid's chain of primitive parts. -/
/-- a step of the pseudo division -/
def preS (b : List Int) (f : SI) (p : Nat) : SI := PS.K (lastI b) * f - PS.mono (f.c (p + (b.length - 1))) p * toS b
def prs (b : List Int) : Nat → SI → SI
  | 0, f => f
  | p + 1, f => prs b p (preS b f p)
def psrL (a b : List Int) : List Int := trim (lst a.length (prs b (a.length + 1 - b.length) (toS a)))
theorem dg_list (a : List Int) : dg (toS a) a.length := fun k hk => toS_ge hk
theorem dg_mono (c : Int) (p : Nat) : dg (PS.mono c p) (p + 1) := fun k hk => if_neg (by omega)
theorem preS_c (b : List Int) (f : SI) (p k : Nat) : (preS b f p).c k = lastI b * f.c k - if p ≤ k then f.c (p + (b.length - 1)) * (toS b).c (k - p) else 0 := by
  unfold preS
  rw [PS.sub_c, PS.K_mul, PS.mono_mul]
theorem preS_dg {b : List Int} (hb : b ≠ []) {f : SI} {p : Nat} (h : dg f (b.length - 1 + (p + 1))) : dg (preS b f p) (b.length - 1 + p) := fun k hk => by
  have lb := List.length_pos_iff.mpr hb
  rw [preS_c, if_pos (by omega)]
  by_cases e : k = p + (b.length - 1)
  · rw [e, Nat.add_sub_cancel_left, lastI_c]; rw [Int.mul_comm, Int.sub_self]
  · rw [h k (by omega), toS_ge (by omega), Int.mul_zero, Int.mul_zero]; rfl
/-- r is a rest of a by b, up to a factor -/
structure RestOf (a b r : List Int) : Prop where
  t : Trm r
  l : r.length < b.length
  e : ∃ (c : Int) (q : SI) (N : Nat), c ≠ 0 ∧ dg q N ∧ PS.K c * toS a = q * toS b + toS r
theorem prs_rest {b : List Int} (hb : b ≠ []) (tb : Trm b) : ∀ (P : Nat) (f : SI), dg f (b.length - 1 + P) → dg (prs b P f) (b.length - 1) ∧ ∃ (c : Int) (q : SI) (N : Nat), c ≠ 0 ∧ dg q N ∧ PS.K c * f = q * toS b + prs b P f
  | 0, f, h => ⟨h, 1, 0, 0, by decide, dg_zero 0, by
      have : (PS.K (1 : Int) : SI) = 1 := PS.ext' fun k => by rw [PS.K_c, PS.one_c]
      rw [this]; show 1 * f = 0 * toS b + f; grind⟩
  | P + 1, f, h => by
    obtain ⟨h1, c, q, N, hc, hq, e⟩ := prs_rest hb tb P (preS b f P) (preS_dg hb h)
    refine ⟨h1, c * lastI b, q + PS.K c * PS.mono (f.c (P + (b.length - 1))) P, N + P + 1, mul_ne hc (lead_ne tb hb), (hq.mono (by omega)).add ((dg_mono _ P).K c |>.mono (by omega)), ?_⟩
    show _ = _ + prs b P (preS b f P)
    unfold preS at e ⊢
    rw [← K_same]
    grind
theorem lst_len_trim (n : Nat) (f : SI) : (trim (lst n f)).length ≤ n := Nat.le_trans (trimP_le _) (by rw [lst_length]; exact Nat.le_refl _)
theorem trm_short {l : List Int} (t : Trm l) {n : Nat} (h : dg (toS l) n) : l.length ≤ n := by
  by_cases hl : l = []
  · rw [hl]; exact Nat.zero_le _
  · have := trm_last t hl
    rcases Nat.lt_or_ge n l.length with z | z
    · exact absurd (h (l.length - 1) (by omega)) this
    · exact z
theorem psrL_rest {a b : List Int} (hb : b ≠ []) (tb : Trm b) : RestOf a b (psrL a b) := by
  have lb := List.length_pos_iff.mpr hb
  have h0 : dg (toS a) (b.length - 1 + (a.length + 1 - b.length)) := (dg_list a).mono (by omega)
  obtain ⟨h1, c, q, N, hc, hq, e⟩ := prs_rest hb tb (a.length + 1 - b.length) (toS a) h0
  have hs : toS (psrL a b) = prs b (a.length + 1 - b.length) (toS a) := by
    unfold psrL
    rw [toS_trim]
    refine toS_lst fun k hk => ?_
    by_cases hab : a.length < b.length
    · have : a.length + 1 - b.length = 0 := by omega
      rw [this]; exact toS_ge hk
    · exact h1 k (by omega)
  refine ⟨tr_trim _, ?_, c, q, N, hc, hq, by rw [hs]; exact e⟩
  have := trm_short (l := psrL a b) (tr_trim _) (n := b.length - 1) (by rw [hs]; exact h1)
  omega
theorem exd_list {b : List Int} (tb : Trm b) (hb : b ≠ []) : exd (toS b) (b.length - 1) := ⟨trm_last tb hb, by
  have := List.length_pos_iff.mpr hb
  rw [show b.length - 1 + 1 = b.length by omega]; exact dg_list b⟩
theorem K_inj {s : Int} (hs : s ≠ 0) {f : SI} (h : PS.K s * f = 0) : f = 0 := K_zero hs h
theorem RestOf.prim {a b r r' : List Int} (tb : Trm b) (hb : b ≠ []) (h : RestOf a b r) (h' : RestOf a b r') : primL r = primL r' := by
  obtain ⟨c, q, N, hc, hq, e⟩ := h.e
  obtain ⟨c', q', N', hc', hq', e'⟩ := h'.e
  have e1 : (PS.K c' * q - PS.K c * q') * toS b = PS.K c * toS r' - PS.K c' * toS r := by
    have x1 : PS.K c' * (PS.K c * toS a) = PS.K c' * q * toS b + PS.K c' * toS r := by rw [e]; grind
    have x2 : PS.K c * (PS.K c' * toS a) = PS.K c * q' * toS b + PS.K c * toS r' := by rw [e']; grind
    have x3 : PS.K c' * (PS.K c * toS a) = PS.K c * (PS.K c' * toS a) := by grind
    rw [x1, x2] at x3
    grind
  have lb := List.length_pos_iff.mpr hb
  have z : PS.K c' * q - PS.K c * q' = 0 := by
    refine dg_none (dg_div (exd_list tb hb) (N + N') (((hq.K c').mono (by omega)).sub ((hq'.K c).mono (by omega))) ?_)
    rw [e1, Nat.add_zero]
    have l1 := h.l
    have l2 := h'.l
    exact (((dg_list r').mono (by omega)).K c).sub (((dg_list r).mono (by omega)).K c')
  rw [z] at e1
  have e2 : PS.K c * toS r' = PS.K c' * toS r := by
    have : (0 : SI) * toS b = 0 := by grind
    rw [this] at e1
    have : PS.K c * toS r' = (PS.K c * toS r' - PS.K c' * toS r) + PS.K c' * toS r := by grind
    rw [this, ← e1]; grind
  by_cases hr : r = []
  · subst hr
    have : toS r' = 0 := K_inj hc (by rw [e2, toS_nil]; grind)
    have : r' = [] := trm_zero h'.t this
    rw [this]
  · have := primL_eq h'.t (primL_is h.t hr) hc (mul_ne hc' (sgc_ne h.t hr)) (by rw [e2, ← K_same, ← primL_S h.t hr])
    exact this.2.1.symm
/-! ### the chain -/
def comP : Nat → List Int → List Int → List Int
  | 0, f, _ => f
  | n + 1, f, s => if s = [] then f else comP n s (primL (psrL f s))
theorem comP_nil (n : Nat) (f : List Int) : comP n f [] = f := by cases n <;> simp [comP]
/-- primitive, or nothing -/
def IsN (s : List Int) : Prop := s = [] ∨ IsP s
theorem primN {r : List Int} (t : Trm r) : IsN (primL r) := by
  by_cases h : r = []
  · rw [h]; exact .inl rfl
  · exact .inr (primL_is t h)
theorem IsN.t {s : List Int} (h : IsN s) : Trm s := by
  rcases h with h | h
  · rw [h]; exact tr_nil
  · exact h.t
theorem next_len {f s : List Int} (hs : s ≠ []) (ts : Trm s) : (primL (psrL f s)).length < s.length := by rw [primL_len]; exact (psrL_rest hs ts).l
/-- scaled by g: G is g as a list -/
theorem IsP.mul {g q : List Int} (hg : IsP g) (hq : IsP q) : IsP (pmul g q) ∧ (pmul g q).length = g.length + q.length - 1 := by
  have e := toS_pmul g q
  have l1 := List.length_pos_iff.mpr hg.n
  have l2 := List.length_pos_iff.mpr hq.n
  have top : (toS (pmul g q)).c (g.length - 1 + (q.length - 1)) = lastI g * lastI q := by rw [e]; exact mul_top hg.n hq.n
  have pos : 0 < lastI g * lastI q := Int.mul_pos hg.l hq.l
  have lq := pmul_len g q
  have ln : g.length - 1 + (q.length - 1) < (pmul g q).length := by
    rcases Nat.lt_or_ge (g.length - 1 + (q.length - 1)) (pmul g q).length with z | z
    · exact z
    · rw [toS_ge z] at top; omega
  have ll : (pmul g q).length = g.length + q.length - 1 := by omega
  refine ⟨⟨trm_pmul _ _, fun z => by rw [z] at ln; exact absurd ln (Nat.not_lt_zero _), by rw [e]; exact Prm.mul hg.p hq.p, ?_⟩, ll⟩
  rw [lastI_c, ll, show g.length + q.length - 1 - 1 = g.length - 1 + (q.length - 1) by omega, top]
  exact pos
theorem primL_mul {g q r : List Int} (hg : IsP g) (tq : Trm q) (tr : Trm r) (e : toS r = toS g * toS q) : primL r = pmul g (primL q) := by
  by_cases hq : q = []
  · subst hq
    have : r = [] := trm_zero tr (by rw [e, toS_nil]; grind)
    rw [this, primL_nil, pmul_nil]
  · have hp := primL_is tq hq
    have := primL_eq tr (hg.mul hp).1 (s := 1) (t := sgc q) (by decide) (sgc_ne tq hq) (by
      have o : (PS.K (1 : Int) : SI) = 1 := PS.ext' fun k => by rw [PS.K_c, PS.one_c]
      rw [o, toS_pmul, e, primL_S tq hq]; grind)
    exact this.2.1
theorem RestOf.mul {g a b r a' b' : List Int} (hg : IsP g) (h : RestOf a b r) (ea : toS a' = toS g * toS a) (eb : toS b' = toS g * toS b) (lb : b'.length = g.length + b.length - 1) (hb : b ≠ []) : RestOf a' b' (pmul g r) := by
  obtain ⟨c, q, N, hc, hq, e⟩ := h.e
  refine ⟨trm_pmul _ _, ?_, c, q, N, hc, hq, by rw [ea, eb, toS_pmul]; grind⟩
  have l1 := pmul_len g r
  have l2 := h.l
  have l3 := List.length_pos_iff.mpr hg.n
  have l4 := List.length_pos_iff.mpr hb
  by_cases hr : r = []
  · rw [hr, pmul_nil]; show 0 < _; omega
  · have := List.length_pos_iff.mpr hr
    omega
/-- the chain goes on as it does divided by g -/
theorem comP_mul {g : List Int} (hg : IsP g) : ∀ (n : Nat) (f s : List Int), IsN f → IsN s → comP n (pmul g f) (pmul g s) = pmul g (comP n f s)
  | 0, _, _, _, _ => rfl
  | n + 1, f, s, hf, hs => by
    unfold comP
    rcases hs with rfl | hs
    · rw [pmul_nil, if_pos rfl, if_pos rfl]
    · obtain ⟨h1, h2⟩ := hg.mul hs
      rw [if_neg h1.n, if_neg hs.n, ← comP_mul hg n s _ (.inr hs) (primN (psrL_rest hs.n hs.t).t)]
      congr 1
      rw [← primL_mul hg (psrL_rest hs.n hs.t (a := f)).t (trm_pmul g (psrL f s)) (toS_pmul ..)]
      exact (psrL_rest h1.n h1.t).prim h1.t h1.n ((psrL_rest hs.n hs.t).mul hg (toS_pmul ..) (toS_pmul ..) h2 hs.n)
/-- a factor of a multiple is a factor -/
theorem div_mul {g f : List Int} {X : SI} {c : Int} {N : Nat} (hg : IsP g) (tf : Trm f) (hc : c ≠ 0) (hX : dg X N) (e : PS.K c * toS f = toS g * X) : ∃ F : List Int, Trm F ∧ toS f = toS g * toS F := by
  have eX : toS (trim (lst N X)) = X := by rw [toS_trim]; exact toS_lst hX
  generalize trim (lst N X) = x at *
  by_cases hf : f = []
  · exact ⟨[], tr_nil, by rw [hf, toS_nil]; grind⟩
  have tx : Trm (trim x) := tr_trim x
  have ex : toS (trim x) = X := by rw [toS_trim, eX]
  have hx : trim x ≠ [] := fun z => by
    rw [z, toS_nil] at ex
    have : PS.K c * toS f = 0 := by rw [e, ← ex]; grind
    exact hf (trm_zero tf (K_inj hc this))
  -- contents
  have hp := primL_is tx hx
  have h1 := primL_eq tf (hg.mul hp).1 (s := c) (t := sgc (trim x)) hc (sgc_ne tx hx) (by rw [e, toS_pmul, ← ex, primL_S tx hx]; grind)
  have h2 : c * sgc f = sgc (trim x) := h1.2.2
  refine ⟨trim ((primL (trim x)).map (sgc f * ·)), tr_trim _, ?_⟩
  have e3 : toS (trim ((primL (trim x)).map (sgc f * ·))) = PS.K (sgc f) * toS (primL (trim x)) := by
    rw [toS_trim]
    refine PS.ext' fun k => ?_
    rw [PS.K_mul]
    by_cases hk : k < (primL (trim x)).length
    · rw [toS_lt hk, toS_lt (by simpa using hk)]; simp
    · rw [toS_ge (l := primL (trim x)) (by omega), toS_ge (by simp; omega), Int.mul_zero]
  rw [e3, primL_S tf hf, h1.2.1, toS_pmul]; grind
/-- what the chain ends with divides both -/
theorem comP_dvd : ∀ (n : Nat) (f s : List Int), s.length < n → IsN f → IsN s → (f ≠ [] ∨ s ≠ []) → IsP (comP n f s) ∧ (∃ F, Trm F ∧ toS f = toS (comP n f s) * toS F) ∧ ∃ S, Trm S ∧ toS s = toS (comP n f s) * toS S
  | 0, _, _, h, _, _, _ => by omega
  | n + 1, f, s, h, hf, hs, hn => by
    unfold comP
    rcases hs with rfl | hs
    · rw [if_pos rfl]
      have hf : IsP f := by
        rcases hf with z | z
        · rcases hn with q | q
          · exact absurd z q
          · exact absurd rfl q
        · exact z
      exact ⟨hf, ⟨[1], tr_snoc (l := []) (by simp [isz]), by rw [toS_one]; grind⟩, [], tr_nil, by rw [toS_nil]; grind⟩
    · rw [if_neg hs.n]
      have hr := psrL_rest (a := f) hs.n hs.t
      have hl := next_len (f := f) hs.n hs.t
      obtain ⟨h1, ⟨S, tS, eS⟩, ⟨R, tR, eR⟩⟩ := comP_dvd n s (primL (psrL f s)) (by omega) (.inr hs) (primN hr.t) (.inl hs.n)
      generalize comP n s (primL (psrL f s)) = g at *
      refine ⟨h1, ?_, S, tS, eS⟩
      obtain ⟨c, q, N, hc, hq, e⟩ := hr.e
      have er : ∃ Y : SI, (∃ M, dg Y M) ∧ toS (psrL f s) = toS g * Y := by
        by_cases hz : psrL f s = []
        · exact ⟨0, ⟨0, dg_zero 0⟩, by rw [hz, toS_nil]; grind⟩
        · exact ⟨PS.K (sgc (psrL f s)) * toS R, ⟨R.length, (dg_list R).K _⟩, by rw [primL_S hr.t hz, eR]; grind⟩
      obtain ⟨Y, ⟨M, hY⟩, eY⟩ := er
      refine div_mul (X := q * toS S + Y) (N := N + S.length + M) h1 hf.t hc (((hq.mul (dg_list S) (by omega)).mono (Nat.le_refl _) : dg (q * toS S) (N + S.length)).mono (by omega) |>.add (hY.mono (by omega))) ?_
      rw [e, eS, eY]; grind
end DL.LW

set_option Elab.async false
set_option linter.all false
set_option exponentiation.threshold 100000
namespace DL.LW
open PM DL
/-! PU: sizes along the chain; division. -/
def Bs (n : Nat) (f : SI) : Prop := ∀ k, Sz n (f.c k)
theorem Bs.mono {m n : Nat} {f : SI} (h : Bs m f) (hm : m ≤ n) : Bs n f := fun k => (h k).mono hm
theorem bs_of {n : Nat} {a : List Int} (h : Bd n a) : Bs n (toS a) := fun k => by
  by_cases hk : k < a.length
  · exact h _ (c_mem hk)
  · rw [toS_ge (by omega)]; exact Nat.two_pow_pos n
theorem Bs.bd {n : Nat} {a : List Int} (h : Bs n (toS a)) : Bd n a := fun c hc => by
  obtain ⟨k, hk⟩ := List.getElem?_of_mem hc
  obtain ⟨hk2, e⟩ := List.getElem?_eq_some_iff.mp hk
  have := h k
  rw [toS_lt hk2, e] at this
  exact this
theorem bs_sub_mul {L M : Nat} {x y c d : Int} (hx : Sz (L + M) x) (h1 : Sz L c) (h2 : Sz M d) : Sz (L + M + 1) (x - c * d) := hx.sub (h1.mul h2)
theorem bs_preS {b : List Int} {f : SI} {p L M : Nat} (hf : Bs L f) (hb : Bd M b) : Bs (L + M + 1) (preS b f p) := fun k => by
  have hb := bs_of hb
  rw [preS_c, lastI_c]
  have h1 : Sz (L + M) ((toS b).c (b.length - 1) * f.c k) := by rw [Nat.add_comm]; exact (hb _).mul (hf k)
  split
  · exact h1.sub ((hf _).mul (hb _))
  · rw [Int.sub_zero]; exact h1.mono (Nat.le_succ _)
theorem bs_prs {b : List Int} {M : Nat} (hb : Bd M b) : ∀ (P : Nat) {f : SI} {L : Nat}, Bs L f → Bs (L + P * (M + 1)) (prs b P f)
  | 0, f, L, h => h.mono (by omega)
  | P + 1, f, L, h => (bs_prs hb P (bs_preS (p := P) h hb)).mono (by rw [Nat.add_mul]; omega)
theorem bd_lst {n m : Nat} {f : SI} (h : Bs n f) : Bd n (lst m f) := fun c hc => by
  obtain ⟨i, hi, rfl⟩ := List.mem_map.mp hc
  exact h i
theorem bd_psrL {a b : List Int} {L M : Nat} (ha : Bd L a) (hb : Bd M b) : Bd (L + (a.length + 1 - b.length) * (M + 1)) (psrL a b) := Bd.trim (bd_lst (bs_prs hb _ (bs_of ha)))
theorem bd_primL {a : List Int} {n : Nat} (t : Trm a) (h : Bd n a) : Bd n (primL a) := by
  by_cases ha : a = []
  · rw [ha]; exact Bd.nil
  · refine Bs.bd fun k => ?_
    have e := primL_c t ha k
    have hk := bs_of h k
    have h0 := sgc_ne t ha
    unfold Sz at *
    rw [e, Int.natAbs_mul] at hk
    exact Nat.lt_of_le_of_lt (Nat.le_mul_of_pos_left _ (by omega)) hk
/-! ### along the chain -/
def okP (m : Nat) : Nat → List Int → List Int → Prop
  | 0, f, s => Bd m f ∧ Bd m s
  | n + 1, f, s => Bd m f ∧ Bd m s ∧ (s ≠ [] → okP m n s (primL (psrL f s)))
theorem dn_low {p0 p1 x p : SI} {d : Nat} (h : Dn p0 p1 x d p) : dg p d := by
  induction h with
  | base _ h => exact h
  | step _ _ _ _ _ _ ih => exact ih
theorem stp_next {f s : List Int} (hs : IsP s) : Stp (toS f) (toS s) (toS (primL (psrL f s))) ∧ dg (toS (primL (psrL f s))) (s.length - 1) := by
  have hr := psrL_rest (a := f) hs.n hs.t
  have hl := next_len (f := f) hs.n hs.t
  obtain ⟨c, q, N, hc, hq, e⟩ := hr.e
  refine ⟨?_, (dg_list _).mono (by omega)⟩
  by_cases hz : psrL f s = []
  · exact ⟨c, 1, q, N, hc, by decide, hq, by rw [e, hz, primL_nil, toS_nil]; grind⟩
  · exact ⟨c, sgc (psrL f s), q, N, hc, sgc_ne hr.t hz, hq, by rw [e, ← primL_S hr.t hz]⟩
theorem big_le {N B : Nat} (hN : N ≤ 32) : N * (2 ^ B * (N * (N * 2 ^ B) ^ (N - 1))) < 2 ^ (32 * B + 166) := by
  have h1 : N ≤ 2 ^ 5 := hN
  have h3 : (N * 2 ^ B) ^ (N - 1) ≤ (2 ^ 5 * 2 ^ B) ^ 31 := Nat.le_trans (Nat.pow_le_pow_left (Nat.mul_le_mul_right _ h1) _) (Nat.pow_le_pow_right (Nat.mul_pos (by decide) (Nat.two_pow_pos B)) (by omega))
  refine Nat.lt_of_le_of_lt (Nat.mul_le_mul h1 (Nat.mul_le_mul_left _ (Nat.mul_le_mul h1 h3))) ?_
  rw [← Nat.pow_add, ← Nat.pow_mul, ← Nat.pow_add, ← Nat.pow_add, ← Nat.pow_add]
  exact Nat.pow_lt_pow_right (by decide) (by omega)
theorem dn_size {p0 p1 p : List Int} {x : SI} {d B : Nat} (h : Dn (toS p0) (toS p1) x d (toS p)) (h0 : IsP p0) (h1 : IsP p1) (l0 : p0.length ≤ 16) (l1 : p1.length ≤ 16) (b0 : Bd B p0) (b1 : Bd B p1) (hd0 : d ≤ p0.length - 1) (hd1 : d ≤ p1.length - 1) (hp : IsP p) : Bd (32 * B + 166) p := by
  have := h.size (exd_list h0.t h0.n) (exd_list h1.t h1.n) hd0 hd1 (B := 2 ^ B) (Nat.one_le_two_pow) (fun k => Nat.le_of_lt (bs_of b0 k)) (fun k => Nat.le_of_lt (bs_of b1 k)) hp.p rfl
  exact Bs.bd fun k => Nat.lt_of_le_of_lt (this k) (big_le (by omega))
theorem okP_dn {p0 p1 : List Int} {B : Nat} (h0 : IsP p0) (h1 : IsP p1) (l0 : p0.length ≤ 16) (l1 : p1.length ≤ 16) (b0 : Bd B p0) (b1 : Bd B p1) : ∀ (n : Nat) (f s : List Int), Dn (toS p0) (toS p1) (toS f) (f.length - 1) (toS s) → IsP f → IsN s → f.length - 1 ≤ p0.length - 1 → f.length - 1 ≤ p1.length - 1 → Bd (32 * B + 166) f → okP (32 * B + 166) n f s := by
  intro n
  induction n with
  | zero =>
    intro f s h hf hs q0 q1 bf
    refine ⟨bf, ?_⟩
    rcases hs with rfl | hs
    · exact Bd.nil
    · exact dn_size h h0 h1 l0 l1 b0 b1 q0 q1 hs
  | succ n ih =>
    intro f s h hf hs q0 q1 bf
    rcases hs with rfl | hs
    · exact ⟨bf, Bd.nil, fun z => absurd rfl z⟩
    · have bs := dn_size h h0 h1 l0 l1 b0 b1 q0 q1 hs
      obtain ⟨st, lo⟩ := stp_next (f := f) hs
      have l := trm_short hs.t (dn_low h)
      have := List.length_pos_iff.mpr hs.n
      exact ⟨bf, bs, fun _ => ih s _ (h.more st (exd_list hs.t hs.n) lo (by omega)) hs (primN (psrL_rest hs.n hs.t).t) (by omega) (by omega) bs⟩
theorem okP_sorted {p0 p1 : List Int} {B : Nat} (h0 : IsP p0) (h1 : IsN p1) (l0 : p0.length ≤ 16) (l : p1.length ≤ p0.length) (b0 : Bd B p0) (b1 : Bd B p1) (n : Nat) : okP (32 * B + 166) n p0 p1 := by
  have c0 := b0.mono (show B ≤ 32 * B + 166 by omega)
  have c1 := b1.mono (show B ≤ 32 * B + 166 by omega)
  cases n with
  | zero => exact ⟨c0, c1⟩
  | succ n =>
    refine ⟨c0, c1, fun hne => ?_⟩
    rcases h1 with z | h1
    · exact absurd z hne
    obtain ⟨st, lo⟩ := stp_next (f := p0) h1
    exact okP_dn h0 h1 l0 (by omega) b0 b1 n p1 _ (.step st (exd_list h0.t h0.n) (exd_list h1.t h1.n) (by omega) (Nat.le_refl _) (.base (exd_list h1.t h1.n) lo)) h1 (primN (psrL_rest h1.n h1.t).t) (by omega) (Nat.le_refl _) c1
theorem primL_self {p : List Int} (h : IsN p) : primL p = p := by
  rcases h with rfl | h
  · rfl
  · exact (primL_eq h.t h (s := 1) (t := 1) (by decide) (by decide) rfl).2.1
theorem psrL_low {a b : List Int} (t : Trm a) (h : a.length < b.length) : psrL a b = a := by
  unfold psrL
  rw [show a.length + 1 - b.length = 0 by omega]
  show trim (lst a.length (toS a)) = a
  rw [lst_toS rfl]; exact trim_tr t
theorem okP_any {p0 p1 : List Int} {B : Nat} (h0 : IsN p0) (h1 : IsN p1) (l0 : p0.length ≤ 16) (l1 : p1.length ≤ 16) (b0 : Bd B p0) (b1 : Bd B p1) (n : Nat) : okP (32 * B + 166) n p0 p1 := by
  by_cases hl : p1.length ≤ p0.length
  · rcases h0 with rfl | h0
    · have : p1 = [] := List.length_eq_zero_iff.mp (by simpa using hl)
      subst this
      cases n with
      | zero => exact ⟨Bd.nil, Bd.nil⟩
      | succ n => exact ⟨Bd.nil, Bd.nil, fun z => absurd rfl z⟩
    · exact okP_sorted h0 h1 l0 hl b0 b1 n
  · have c0 := b0.mono (show B ≤ 32 * B + 166 by omega)
    have c1 := b1.mono (show B ≤ 32 * B + 166 by omega)
    cases n with
    | zero => exact ⟨c0, c1⟩
    | succ n =>
      refine ⟨c0, c1, fun hne => ?_⟩
      rcases h1 with z | h1
      · exact absurd z hne
      rw [psrL_low h0.t (by omega), primL_self h0]
      exact okP_sorted h1 h0 l1 (by omega) b1 b0 n
end DL.LW

set_option Elab.async false
set_option linter.all false
set_option exponentiation.threshold 100000
namespace DL.LW
open PM DL
/-! PW: exact division; the parts that a common divisor leaves. -/
theorem K_one : (PS.K (1 : Int) : SI) = 1 := PS.ext' fun k => by rw [PS.K_c, PS.one_c]
theorem divSt_stepI {a b : List Int} (hb : b ≠ []) {i : Nat} {f g : SI} (h : DivSt a b i f g) (hi : i < a.length + 1 - b.length) {t : Nat} (ht : t = a.length + 1 - b.length - 1 - i) {c : Int} (hc : c * lastI b = f.c (t + b.length - 1)) :
    DivSt a b (i + 1) (f - PS.mono c t * toS b) (g + PS.mono c t) := by
  have lb : 0 < b.length := List.length_pos_iff.mpr hb
  refine ⟨?_, ?_, ?_, ?_⟩
  · have := h.eq
    grind
  · intro k hk
    rw [PS.sub_c, PS.mono_mul, if_pos (by omega)]
    by_cases e : k = t + b.length - 1
    · have e2 : k - t = b.length - 1 := by omega
      rw [e2, ← lastI_c, e, hc]; omega
    · rw [h.hf k (by omega), toS_ge (by omega)]; omega
  · intro k hk
    rw [PS.add_c, h.g0 k (by omega), show (PS.mono c t).c k = 0 from if_neg (by omega)]; rfl
  · intro k hk
    rw [PS.add_c, h.g1 k (by omega), show (PS.mono c t).c k = 0 from if_neg (by omega)]; rfl
theorem bs_step {b : List Int} {f : SI} {t L M : Nat} {c : Int} (hf : Bs L f) (hb : Bd M b) (hc : Sz L c) : Bs (L + M + 1) (f - PS.mono c t * toS b) := fun k => by
  have hb := bs_of hb
  rw [PS.sub_c, PS.mono_mul]
  split
  · exact Sz.sub ((hf _).mono (by omega)) (hc.mul (hb _))
  · rw [Int.sub_zero]; exact (hf _).mono (by omega)
/-- what is left, if there is a quotient -/
theorem quo_left {a b q : List Int} {i : Nat} {f g : SI} (tb : Trm b) (hb : b ≠ []) (h : DivSt a b i f g) (e : toS a = toS b * toS q) (hi : i ≤ a.length + 1 - b.length) {n : Nat} (hn : n = a.length + 1 - b.length - i) (hab : b.length ≤ a.length ∨ n = 0) : dg (toS q - g) n ∧ (toS q - g) * toS b = f := by
  have lb : 0 < b.length := List.length_pos_iff.mpr hb
  have e2 : (toS q - g) * toS b = f := by rw [h.eq, e]; grind
  refine ⟨dg_div (exd_list tb hb) (q.length + (a.length + 1 - b.length)) (((dg_list q).mono (by omega)).sub (fun k hk => h.g1 k (by omega))) ?_, e2⟩
  rw [e2]
  exact fun k hk => h.hf k (by omega)
theorem quo_top {a b q : List Int} {i t : Nat} {f g : SI} (tb : Trm b) (hb : b ≠ []) (h : DivSt a b i f g) (e : toS a = toS b * toS q) (hi : i < a.length + 1 - b.length) (ht : t = a.length + 1 - b.length - 1 - i) : (toS q).c t * lastI b = f.c (t + b.length - 1) := by
  have lb : 0 < b.length := List.length_pos_iff.mpr hb
  obtain ⟨h1, h2⟩ := quo_left (n := t + 1) tb hb h e (by omega) (by omega) (.inl (by omega))
  have := top_mul h1 (n := b.length - 1) (by rw [show b.length - 1 + 1 = b.length by omega]; exact dg_list b)
  rw [h2, PS.sub_c, h.g0 t (by omega), Int.sub_zero, ← lastI_c] at this
  rw [← this]; congr 1; omega
theorem quo_none {a b : List Int} {i t : Nat} {f g : SI} (tb : Trm b) (hb : b ≠ []) (h : DivSt a b i f g) (hi : i < a.length + 1 - b.length) (ht : t = a.length + 1 - b.length - 1 - i) (hm : (f.c (t + b.length - 1)).fmod (lastI b) ≠ 0) : ¬ ∃ q, Trm q ∧ toS a = toS b * toS q := by
  rintro ⟨q, _, e⟩
  rw [← quo_top tb hb h e hi ht] at hm
  exact hm (Int.mul_fmod_left ..)
open Classical in
/-- the quotient, if there is one -/
noncomputable def quoO (a b : List Int) : Option (List Int) := if h : ∃ q, Trm q ∧ toS a = toS b * toS q then some (choose h) else none
theorem quoO_some {a b q : List Int} (h : quoO a b = some q) : Trm q ∧ toS a = toS b * toS q := by
  unfold quoO at h
  split at h
  · rename_i z
    cases h
    exact Classical.choose_spec z
  · cases h
theorem quo_uniq {a b q r : List Int} (tb : Trm b) (hb : b ≠ []) (tq : Trm q) (tr : Trm r) (e : toS a = toS b * toS q) (e' : toS a = toS b * toS r) : q = r := by
  have z : toS q - toS r = 0 := by
    refine dg_none (dg_div (exd_list tb hb) (q.length + r.length) (((dg_list q).mono (by omega)).sub ((dg_list r).mono (by omega))) ?_)
    have : (toS q - toS r) * toS b = 0 := by
      have : toS b * toS q = toS b * toS r := by rw [← e, e']
      grind
    rw [this]
    exact dg_zero _
  exact trm_ext tq tr (by grind)
theorem quoO_is {a b q : List Int} (tb : Trm b) (hb : b ≠ []) (tq : Trm q) (e : toS a = toS b * toS q) : quoO a b = some q := by
  have h : ∃ q, Trm q ∧ toS a = toS b * toS q := ⟨q, tq, e⟩
  unfold quoO
  rw [dif_pos h]
  have := Classical.choose_spec h
  exact congrArg some (quo_uniq tb hb this.1 tq this.2 e)
theorem quoO_no {a b : List Int} (h : ¬ ∃ q, Trm q ∧ toS a = toS b * toS q) : quoO a b = none := dif_neg h
theorem quo_end {a b : List Int} {f g : SI} (tb : Trm b) (hb : b ≠ []) (h : DivSt a b (a.length + 1 - b.length) f g) : quoO a b = if trim (lst a.length f) = [] then some (trim (lst (a.length + 1 - b.length) g)) else none := by
  have lb : 0 < b.length := List.length_pos_iff.mpr hb
  have e1 : toS (lst a.length f) = f := toS_lst fun k hk => h.hf k (by omega)
  have e2 : toS (lst (a.length + 1 - b.length) g) = g := toS_lst h.g1
  split
  · rename_i z
    have f0 : f = 0 := by rw [← e1, ← toS_trim, z, toS_nil]
    refine quoO_is tb hb (tr_trim _) ?_
    rw [toS_trim, e2]
    have := h.eq
    grind
  · rename_i z
    refine quoO_no ?_
    rintro ⟨q, tq, e⟩
    obtain ⟨h1, h2⟩ := quo_left (n := 0) tb hb h e (Nat.le_refl _) (by omega) (.inr rfl)
    rw [dg_none h1] at h2
    refine z (trm_zero (tr_trim _) ?_)
    rw [toS_trim, e1, ← h2]; grind
theorem quo_bd {a b q : List Int} {L M : Nat} (tb : Trm b) (hb : b ≠ []) (tq : Trm q) (e : toS a = toS b * toS q) (ha : Bd L a) (hM : Bd M b) : Bd (L + (a.length + 1 - b.length) * (M + 1)) q ∧ q.length ≤ a.length + 1 - b.length := by
  have l0 : dg (toS q) (a.length + 1 - b.length) := by
    refine dg_div (exd_list tb hb) q.length (dg_list q) ?_
    rw [show toS q * toS b = toS a by rw [e]; grind]
    exact (dg_list a).mono (by omega)
  have key : ∀ i, i ≤ a.length + 1 - b.length → ∃ f g, DivSt a b i f g ∧ Bs (L + i * (M + 1)) f ∧ ∀ k, a.length + 1 - b.length - i ≤ k → Sz (L + i * (M + 1)) ((toS q).c k) := by
    intro i
    induction i with
    | zero => exact fun _ => ⟨toS a, 0, .start a b, (bs_of ha).mono (by omega), fun k hk => by rw [l0 k (by omega)]; exact sz0⟩
    | succ i ih =>
      intro h
      obtain ⟨f, g, h1, h2, h3⟩ := ih (by omega)
      have tp := quo_top tb hb h1 e (t := a.length + 1 - b.length - 1 - i) (by omega) rfl
      have hc : Sz (L + i * (M + 1)) ((toS q).c (a.length + 1 - b.length - 1 - i)) := by
        have := h2 (a.length + 1 - b.length - 1 - i + b.length - 1)
        rw [← tp] at this
        unfold Sz at *
        rw [Int.natAbs_mul] at this
        refine Nat.lt_of_le_of_lt (Nat.le_mul_of_pos_right _ ?_) this
        have := lead_ne tb hb
        have e : lastI b = lead b := rfl
        rw [e]; omega
      have es : L + i * (M + 1) + M + 1 = L + (i + 1) * (M + 1) := by rw [Nat.succ_mul]; omega
      refine ⟨_, _, divSt_stepI hb h1 (by omega) rfl tp, by rw [← es]; exact bs_step h2 hM hc, fun k hk => ?_⟩
      by_cases e : k = a.length + 1 - b.length - 1 - i
      · rw [e]; exact hc.mono (by omega)
      · exact (h3 k (by omega)).mono (by omega)
  obtain ⟨_, _, _, _, h⟩ := key _ (Nat.le_refl _)
  exact ⟨Bs.bd fun k => h k (by omega), trm_short tq l0⟩
/-! ### the chain, once more -/
theorem comP_more : ∀ (n m : Nat) (f s : List Int), s.length < n → s.length < m → IsN s → comP n f s = comP m f s
  | 0, _, _, _, h, _, _ => by omega
  | _, 0, _, _, _, h, _ => by omega
  | n + 1, m + 1, f, s, h1, h2, hs => by
    unfold comP
    split
    · rfl
    · rename_i hne
      have := next_len (f := f) hne hs.t
      exact comP_more n m s _ (by omega) (by omega) (primN (psrL_rest hne hs.t).t)
def comC (f s : List Int) : List Int := comP (s.length + 1) f s
theorem comC_nil (f : List Int) : comC f [] = f := comP_nil _ f
theorem comC_step {f s : List Int} (hs : IsN s) (hn : s ≠ []) : comC f s = comC s (primL (psrL f s)) := by
  have := next_len (f := f) hn hs.t
  unfold comC
  rw [show comP (s.length + 1) f s = comP s.length s (primL (psrL f s)) from if_neg hn]
  exact comP_more _ _ _ _ (by omega) (by omega) (primN (psrL_rest hn hs.t).t)
/-- all that the chain comes to is bounded -/
def okC (m : Nat) (f s : List Int) : Prop := ∀ n, okP m n f s
theorem okC.f {m : Nat} {f s : List Int} (h : okC m f s) : Bd m f := (h 0).1
theorem okC.s {m : Nat} {f s : List Int} (h : okC m f s) : Bd m s := (h 0).2
theorem okC.step {m : Nat} {f s : List Int} (h : okC m f s) (hs : s ≠ []) : okC m s (primL (psrL f s)) := fun n => (h (n + 1)).2.2 hs
theorem okC_end {m : Nat} : ∀ (n : Nat) (f s : List Int), s.length < n → IsN s → okC m f s → Bd m (comP n f s)
  | 0, _, _, h, _, _ => by omega
  | n + 1, f, s, h, hs, o => by
    unfold comP
    split
    · exact o.f
    · rename_i hne
      have := next_len (f := f) hne hs.t
      exact okC_end n s _ (by omega) (primN (psrL_rest hne hs.t).t) (o.step hne)
theorem okC.bd {m : Nat} {f s : List Int} (h : okC m f s) (hs : IsN s) : Bd m (comC f s) := okC_end _ f s (by omega) hs h
theorem okC_any {p0 p1 : List Int} {B : Nat} (h0 : IsN p0) (h1 : IsN p1) (l0 : p0.length ≤ 16) (l1 : p1.length ≤ 16) (b0 : Bd B p0) (b1 : Bd B p1) : okC (32 * B + 166) p0 p1 := fun n => okP_any h0 h1 l0 l1 b0 b1 n
/-- the chain of the parts, by that of the multiples -/
theorem bd_part {g f : List Int} {m : Nat} (hg : IsP g) (hf : IsN f) (h : Bd m (pmul g f)) (bg : Bd m g) (hl : (pmul g f).length ≤ 16) : Bd (m + 16 * (m + 1)) f := by
  have lg := List.length_pos_iff.mpr hg.n
  refine ((quo_bd hg.t hg.n hf.t (toS_pmul g f) h bg).1).mono ?_
  have := Nat.mul_le_mul_right (m + 1) (show (pmul g f).length + 1 - g.length ≤ 16 by omega)
  omega
theorem okP_part {g : List Int} {m : Nat} (hg : IsP g) (bg : Bd m g) : ∀ (n : Nat) (f s : List Int), IsN f → IsN s → (pmul g f).length ≤ 16 → (pmul g s).length ≤ 16 → okP m n (pmul g f) (pmul g s) → okP (m + 16 * (m + 1)) n f s
  | 0, f, s, hf, hs, lf, ls, h => ⟨bd_part hg hf h.1 bg lf, bd_part hg hs h.2 bg ls⟩
  | n + 1, f, s, hf, hs, lf, ls, h => by
    refine ⟨bd_part hg hf h.1 bg lf, bd_part hg hs h.2.1 bg ls, fun hne => ?_⟩
    have hs : IsP s := by
      rcases hs with z | z
      · exact absurd z hne
      · exact z
    obtain ⟨h1, h2⟩ := hg.mul hs
    have e : primL (psrL (pmul g f) (pmul g s)) = pmul g (primL (psrL f s)) := by
      rw [← primL_mul hg (psrL_rest hs.n hs.t (a := f)).t (trm_pmul g (psrL f s)) (toS_pmul ..)]
      exact (psrL_rest h1.n h1.t).prim h1.t h1.n ((psrL_rest hs.n hs.t).mul hg (toS_pmul ..) (toS_pmul ..) h2 hs.n)
    have := h.2.2 h1.n
    rw [e] at this
    refine okP_part hg bg n s _ (.inr hs) (primN (psrL_rest hs.n hs.t).t) ls ?_ this
    rw [← e, primL_len]
    have := (psrL_rest (a := pmul g f) h1.n h1.t).l
    omega
end DL.LW

set_option Elab.async false
set_option linter.all false
set_option exponentiation.threshold 100000
namespace DL.LW
open PM DL
/-! PX: the parts that the common divisor leaves have none. -/
def comL (a b : List Int) : List Int := (comC (primL a) (primL b)).map (((Int.gcd (contL a) (contL b) : Nat) : Int) * ·)
theorem toS_mapK (c : Int) (a : List Int) : toS (a.map (c * ·)) = PS.K c * toS a := PS.ext' fun k => by
  rw [PS.K_mul]
  by_cases hk : k < a.length
  · rw [toS_lt hk, toS_lt (by simpa using hk)]; simp
  · rw [toS_ge (l := a) (by omega), toS_ge (by simp; omega), Int.mul_zero]
theorem trm_mapK {c : Int} {a : List Int} (t : Trm a) (hc : c ≠ 0) : Trm (a.map (c * ·)) := by
  rcases snoc_cases a with rfl | ⟨m, x, rfl⟩
  · exact tr_nil
  · rw [List.map_append, List.map_singleton]
    refine tr_snoc ?_
    have hx := t x (by rw [List.getLast?_concat])
    have : ¬ x = 0 := by simpa [isz] using hx
    simp [isz, hc, this]
theorem contL_zero {a : List Int} (t : Trm a) (h : contL a = 0) : a = [] := Classical.byContradiction fun hn => by
  have := (contL_last t hn).1
  omega
/-- what is left of one of the two -/
theorem part_of {g a F : List Int} {c : Int} (hg : IsP g) (ta : Trm a) (tF : Trm F) (hc : 0 < c) (hd : c ∣ contL a) (e : toS (primL a) = toS g * toS F) :
    ∃ A, Trm A ∧ toS a = toS (g.map (c * ·)) * toS A ∧ primL A = F ∧ contL a = c * contL A := by
  by_cases ha : a = []
  · subst ha
    have hF : F = [] := by
      refine trm_zero tF ?_
      have e : toS g * toS F = 0 := by rw [← e, primL_nil, toS_nil]
      exact dg_none (dg_div (exd_list hg.t hg.n) F.length (dg_list F) (by rw [show toS F * toS g = 0 by rw [← e]; grind]; exact dg_zero _))
    refine ⟨[], tr_nil, by rw [toS_nil]; grind, by rw [hF]; rfl, ?_⟩
    show (0 : Int) = c * 0
    rw [Int.mul_zero]
  · have hs : c ∣ sgc a := by unfold sgc; split; exact hd; exact Int.dvd_neg.mpr hd
    obtain ⟨k, hk⟩ := hs
    have s0 := sgc_ne ta ha
    have k0 : k ≠ 0 := fun z => s0 (by rw [hk, z, Int.mul_zero])
    have pa := primL_is ta ha
    -- F is primitive
    have hF0 : F ≠ [] := fun z => pa.n (trm_zero pa.t (by rw [e, z, toS_nil]; grind))
    have hF : IsP F := by
      have h1 := primL_is tF hF0
      have h2 := primL_eq pa.t (hg.mul h1).1 (s := 1) (t := sgc F) (by decide) (sgc_ne tF hF0) (by rw [K_one, e, toS_pmul, primL_S tF hF0]; grind)
      have h3 : sgc (primL a) = sgc F := by have := h2.2.2; omega
      have h4 : sgc (primL a) = 1 := (primL_eq pa.t pa (s := 1) (t := 1) (by decide) (by decide) rfl).2.2 |> fun z => by omega
      have h5 : primL F = F := trm_ext h1.t tF (by
        have := primL_S tF hF0
        rw [← h3, h4, K_one] at this
        rw [this]; grind)
      rw [← h5]; exact h1
    refine ⟨F.map (k * ·), trm_mapK tF k0, ?_, ?_⟩
    · rw [toS_mapK, toS_mapK, primL_S ta ha, e, hk, ← K_same]; grind
    · have tA := trm_mapK (c := k) tF k0
      have h1 := primL_eq tA hF (s := 1) (t := k) (by decide) k0 (by rw [K_one, toS_mapK]; grind)
      refine ⟨h1.2.1, ?_⟩
      have h2 : sgc (F.map (k * ·)) = k := by have := h1.2.2; omega
      have h3 : sgc a = c * sgc (F.map (k * ·)) := by rw [h2, hk]
      have h4 := congrArg Int.natAbs h3
      rw [Int.natAbs_mul, sgc_abs, sgc_abs, ← Int.natAbs_mul] at h4
      have p1 := contL_nonneg a
      have p2 := Int.mul_nonneg (Int.le_of_lt hc) (contL_nonneg (F.map (k * ·)))
      omega
theorem len_pmul {g f : List Int} (hg : IsP g) (hf : IsN f) : (pmul g f).length ≤ g.length + f.length - 1 := pmul_len g f
theorem comL_parts {a b : List Int} (ta : Trm a) (tb : Trm b) (hab : a ≠ [] ∨ b ≠ []) (la : a.length ≤ 16) (lb : b.length ≤ 16) {B : Nat} (ba : Bd B a) (bb : Bd B b) :
    Trm (comL a b) ∧ comL a b ≠ [] ∧ Bd (B + (32 * B + 166)) (comL a b) ∧ ∃ A B', quoO a (comL a b) = some A ∧ quoO b (comL a b) = some B' ∧ Trm A ∧ Trm B' ∧ A.length ≤ 16 ∧ B'.length ≤ 16 ∧
      Bd (B + 16 * (B + (32 * B + 166) + 1)) A ∧ Bd (B + 16 * (B + (32 * B + 166) + 1)) B' ∧ comL A B' = [1] ∧ okC (32 * B + 166 + 16 * (32 * B + 166 + 1)) (primL A) (primL B') := by
  have na := primN ta
  have nb := primN tb
  have o := okC_any na nb (by rw [primL_len]; exact la) (by rw [primL_len]; exact lb) (bd_primL ta ba) (bd_primL tb bb)
  have hn : primL a ≠ [] ∨ primL b ≠ [] := by
    rcases hab with h | h
    · exact .inl (primL_ne h)
    · exact .inr (primL_ne h)
  have og := o.bd nb
  obtain ⟨hg, ⟨F0, t0, e0⟩, ⟨F1, t1, e1⟩⟩ := comP_dvd ((primL b).length + 1) (primL a) (primL b) (by omega) na nb hn
  rw [show comP ((primL b).length + 1) (primL a) (primL b) = comC (primL a) (primL b) from rfl] at hg e0 e1
  have hc : 0 < (Int.gcd (contL a) (contL b) : Int) := by
    have : 0 < Int.gcd (contL a) (contL b) := by
      rcases hab with h | h
      · exact Int.gcd_pos_of_ne_zero_left _ (by have := (contL_last ta h).1; omega)
      · exact Int.gcd_pos_of_ne_zero_right _ (by have := (contL_last tb h).1; omega)
    omega
  have hcB : Sz B (Int.gcd (contL a) (contL b) : Int) := by
    have hle : ∀ {x : List Int}, Trm x → x ≠ [] → Bd B x → Int.gcd (contL a) (contL b) ≤ (contL x).natAbs → Sz B (Int.gcd (contL a) (contL b) : Int) := fun t h bx hl => by
      have := (contL_last t h).2 B bx
      unfold Sz at *
      rw [Int.natAbs_natCast]; omega
    rcases hab with h | h
    · exact hle ta h ba (Nat.le_of_dvd (by have := (contL_last ta h).1; omega) (Nat.gcd_dvd_left _ _))
    · exact hle tb h bb (Nat.le_of_dvd (by have := (contL_last tb h).1; omega) (Nat.gcd_dvd_right _ _))
  obtain ⟨A, tA, eA, pA, cA⟩ := part_of hg ta t0 hc (Int.gcd_dvd_left ..) e0
  obtain ⟨C, tC, eC, pC, cC⟩ := part_of hg tb t1 hc (Int.gcd_dvd_right ..) e1
  have tD : Trm (comL a b) := trm_mapK hg.t (by omega)
  have nD : comL a b ≠ [] := fun z => hg.n (by simpa [comL] using z)
  have bD : Bd (B + (32 * B + 166)) (comL a b) := fun x hx => by
    obtain ⟨y, hy, rfl⟩ := List.mem_map.mp hx
    exact hcB.mul (og y hy)
  have i0 : IsN F0 := by rw [← pA]; exact primN tA
  have i1 : IsN F1 := by rw [← pC]; exact primN tC
  have m0 : pmul (comC (primL a) (primL b)) F0 = primL a := trm_ext (trm_pmul _ _) na.t (by rw [toS_pmul, e0])
  have m1 : pmul (comC (primL a) (primL b)) F1 = primL b := trm_ext (trm_pmul _ _) nb.t (by rw [toS_pmul, e1])
  have up : ∀ x : List Int, x.length ≤ 16 → B + (x.length + 1 - (comL a b).length) * (B + (32 * B + 166) + 1) ≤ B + 16 * (B + (32 * B + 166) + 1) := fun x hx => by
    have := List.length_pos_iff.mpr nD
    exact Nat.add_le_add_left (Nat.mul_le_mul_right _ (by omega)) _
  have ld := List.length_pos_iff.mpr nD
  obtain ⟨bA, lA⟩ := quo_bd tD nD tA eA ba bD
  obtain ⟨bC, lC⟩ := quo_bd tD nD tC eC bb bD
  refine ⟨tD, nD, bD, A, C, quoO_is tD nD tA eA, quoO_is tD nD tC eC, tA, tC, by omega, by omega, bA.mono (up a la), bC.mono (up b lb), ?_, ?_⟩
  · have hgd : Int.gcd (contL A) (contL C) = 1 := by
      have h1 : Int.gcd (contL a) (contL b) = (Int.gcd (contL a) (contL b) : Int).natAbs * Int.gcd (contL A) (contL C) := by
        rw [← Int.gcd_mul_left, ← cA, ← cC]
      rw [Int.natAbs_natCast] at h1
      generalize Int.gcd (contL a) (contL b) = G at *
      generalize Int.gcd (contL A) (contL C) = K at *
      have h2 : G * K = G * 1 := by rw [Nat.mul_one]; exact h1.symm
      exact Nat.eq_of_mul_eq_mul_left (by omega) h2
    have hone : comC F0 F1 = [1] := by
      have h1 := comP_mul hg (max (primL b).length F1.length + 1) F0 F1 i0 i1
      rw [m0, m1, comP_more _ ((primL b).length + 1) _ _ (by omega) (by omega) nb, comP_more _ (F1.length + 1) _ _ (by omega) (by omega) i1] at h1
      have h2 : comC (primL a) (primL b) = pmul (comC (primL a) (primL b)) (comC F0 F1) := h1
      have hn2 : F0 ≠ [] ∨ F1 ≠ [] := by
        rcases hn with z | z
        · exact .inl fun y => z (by rw [← m0, y, pmul_nil])
        · exact .inr fun y => z (by rw [← m1, y, pmul_nil])
      have h3 : IsP (comC F0 F1) := (comP_dvd (F1.length + 1) F0 F1 (by omega) i0 i1 hn2).1
      have e := congrArg toS h2
      rw [toS_pmul] at e
      exact quo_uniq hg.t hg.n h3.t (tr_snoc (l := []) (by simp [isz])) e (by rw [toS_one]; grind)
    unfold comL
    rw [pA, pC, hone, hgd]; rfl
  · rw [pA, pC]
    intro n
    refine okP_part hg og n F0 F1 i0 i1 (by rw [m0, primL_len]; exact la) (by rw [m1, primL_len]; exact lb) ?_
    rw [m0, m1]; exact o n
end DL.LW

set_option Elab.async false
set_option linter.all false
set_option maxRecDepth 100000
set_option maxHeartbeats 4000000
namespace DL.LW
open PySem PySem.Spec PyProof.Rows L2 DL TL PM
/-! L2: the laws' own polynomials: lists of ints. -/
theorem _root_.DL.Ext.subput {p : Addr} {l : List D} {G G' : DH} (e : Ext p l G G') : Sub (put G p (.lst l)) G' := fun b o h => by
  by_cases hb : b = p
  · subst hb
    rw [put_same] at h
    rw [e.1]; exact h
  · rw [put_ne hb] at h
    exact e.2 b o hb h
theorem _root_.DL.Ext.sq {p : Addr} {l : List D} {G G' : DH} (e : Ext p l G G') : sqAt G' p = some l := sqAt_some.mpr e.1
theorem _root_.DL.Ext.keep {p b : Addr} {l : List D} {o : DO} {G G' : DH} (e : Ext p l G G') (h : G b = some o) (hp : G p = none) : G' b = some o := e.2 b o (fun z => by rw [z, hp] at h; cases h) h
theorem _root_.DL.Ext.keeps {p b : Addr} {l m : List D} {G G' : DH} (e : Ext p l G G') (h : sqAt G b = some m) (hp : G p = none) : sqAt G' b = some m := sqAt_some.mpr (e.keep (sqAt_some.mp h) hp)
theorem _root_.DL.Sub.sq {G G' : DH} (s : Sub G G') {a : Addr} {l : List D} (h : sqAt G a = some l) : sqAt G' a = some l := sqAt_some.mpr (s _ _ (sqAt_some.mp h))
theorem _root_.DL.Sub.free {G G' : DH} (s : Sub G G') {p : Addr} (h : G' p = none) : G p = none := by
  cases e : G p with
  | none => rfl
  | some o => rw [s _ _ e] at h; cases h
/-- a new list below a larger heap -/
theorem _root_.DL.Sub.putput {G G' : DH} (s : Sub G G') {p : Addr} {o : DO} : Sub (put G p o) (put G' p o) := fun b u h => by
  by_cases hb : b = p
  · subst hb; rw [put_same] at h ⊢; exact h
  · rw [put_ne hb] at h ⊢; exact s b u h
theorem psum_one (a b : List Int) : psum a b 1 = padd a b := trm_ext (psum_trm _ _ _) (trm_padd _ _) (by
  rw [toS_psum, toS_padd, show (PS.K (1 : Int)) = 1 from rfl]; grind)
/-- a new list of ints -/
def NewL (r : List Int) (G : DH) (Q : QD) : Prop := ∀ p, G p = none → Q (.ref p) (put G p (.lst (iL r)))
def S_f_law_trim : DSp := fun ds G Q _ => ∃ x l, ds = [x] ∧ sqOf G x = some (iL l) ∧ NewL (trim l) G Q
theorem run_f_law_trim {Γ : GE} {ds : List D} {G : DH} {Q : QD} {E : ED} (hl : ds.length = 1) (h : S_f_law_trim ds G Q E) : Runs Γ m_f_law_trim 2 ds G Q E := by
  obtain ⟨x, l, rfl, hx, q⟩ := h
  unfold Runs m_f_law_trim
  have go : ∀ p, G p = none → ∃ N, whD (cD Γ (.and (.cons (.cmp .NotEq (.var 1) (.lst .nil)) (.cons (.cmp .Eq (.ix (.var 1) (.neg (.int 1))) (.int 0)) .nil))) (fun xd _ G1 => ∃ G2, Sub G2 G1 ∧ E xd G2)) (bD Γ (.cons (.expr (.meth .pop (.var 1) .nil)) .nil) (fun xd _ G1 => ∃ G2, Sub G2 G1 ∧ E xd G2))
      { nx := fun σ' G' => ∃ d, gt σ' 1 = some d ∧ ∃ G2, Sub G2 G' ∧ Q d G2, rt := fun d G1 => ∃ G2, Sub G2 G1 ∧ Q d G2 } N [some x, some (.ref p)] (put G p (.lst (iL l))) := by
    intro p hp
    refine while_rule (fun n σ G' => ∃ m : Nat, n = m ∧ m ≤ l.length ∧ σ = [some x, some (.ref p)] ∧ Ext p (iL (l.take m)) G G' ∧ trim (l.take m) = trim l) l.length ⟨l.length, rfl, Nat.le_refl _, rfl, by rw [List.take_length]; exact .put, by rw [List.take_length]⟩ ?_
    rintro n σ G' Kn ⟨m, rfl, hm, rfl, ex, ht⟩ hK
    simp
    intro r hr
    have hrp : p ≠ r := ne_free ex.1 hr
    have ex1 := ex.new (o := .lst []) hr
    refine eqL_i0 ex1.1 put_same ?_
    have out : ∀ G1, trim l = l.take n → Ext p (iL (l.take n)) G G1 → ∃ G2, Sub G2 G1 ∧ Q (.ref p) G2 := fun G1 e x1 => by
      have q' := q p hp
      rw [e] at q'
      exact ⟨_, x1.subput, q'⟩
    cases n with
    | zero =>
      simp
      exact out _ (by rw [← ht]; rfl) ex1
    | succ n =>
      have hn : n < l.length := by omega
      have tt := trim_take hn
      have e1 : l.take (n + 1) = l.take n ++ [l[n]] := take_snoc hn
      have e2 : (l.take (n + 1)).isEmpty = false := by
        cases h : l.take (n + 1) with
        | nil =>
          have := congrArg List.length h
          rw [List.length_take, List.length_nil] at this
          omega
        | cons _ _ => rfl
      have e4 : iL (l.take (n + 1)) = iL (l.take n) ++ [.int l[n]] := by rw [e1]; exact List.map_append
      have e3 := ex1.sq
      have ex2 := ex1
      rw [e4] at e3 ex2
      rw [e2]
      simp [e3, -List.map_take]
      by_cases h0 : l[n] = 0
      · refine ite_l (.inr ⟨h0, ?_⟩)
        refine ⟨_, ex2.1, ⟨.int l[n], by simp⟩, hK n _ _ (by omega) ⟨n, rfl, by omega, rfl, ?_, by rw [← ht, tt, if_pos h0]⟩⟩
        rw [List.dropLast_concat]
        exact ex1.trans .put
      · exact ite_l (.inl ⟨h0, out _ (by rw [← ht, tt, if_neg h0]) ex1⟩)
  cases x with
  | tup ds =>
    obtain rfl : ds = iL l := by simpa [sqOf] using hx
    simp [startD, dEnds, List.replicate]
    exact go
  | ref a =>
    have ha : sqAt G a = some (iL l) := hx
    simp [startD, dEnds, List.replicate, ha]
    exact go
  | _ => cases hx
def S_f_law_times : DSp := fun ds G Q _ => ∃ (p1 p2 : Addr) (a b : List Int) (m n : Nat), ds = [.ref p1, .ref p2] ∧ G p1 = some (.lst (iL a)) ∧ G p2 = some (.lst (iL b)) ∧ a.length ≤ 900 ∧ b.length ≤ 900 ∧ Bd m a ∧ Bd n b ∧ m + n ≤ 10000000 ∧ NewL (pmul a b) G Q
theorem run_f_law_times {Γ : GE} (h1 : Fn Γ "_law_trim" ["items"] S_f_law_trim) {ds : List D} {G : DH} {Q : QD} {E : ED} (hl : ds.length = 2) (h : S_f_law_times ds G Q E) : Runs Γ m_f_law_times 5 ds G Q E := by
  obtain ⟨k1, d1, h1⟩ := h1
  obtain ⟨p1, p2, a, b, m, n, rfl, g1, g2, la, lb, ba, bb, hmn, q⟩ := h
  have hsz := sizeLine_eq
  unfold Runs m_f_law_times
  simp [startD, dEnds, List.replicate]
  intro r hr
  have s1 : Sub G (put G r (.lst [])) := .put hr
  refine eqL_i0 (s1 _ _ g1) put_same ?_
  generalize put G r (.lst []) = G1 at *
  have em : pmul a b = [] → ∀ G2, Sub G G2 → ∀ p, G2 p = none → ∃ G3, Sub G3 (put G2 p (.lst [])) ∧ Q (.ref p) G3 := fun e G2 s p hp => by
    have q' := q p (s.free hp)
    rw [e] at q'
    exact ⟨_, s.putput, q'⟩
  by_cases ha : a = []
  · subst ha
    simp
    exact em (nil_pmul b) G1 s1
  have ea : a.isEmpty = false := by simpa using ha
  rw [ea]
  simp
  intro r2 hr2
  have s2 : Sub G (put G1 r2 (.lst [])) := s1.trans (.put hr2)
  refine eqL_i0 (s2 _ _ g2) put_same ?_
  generalize put G1 r2 (.lst []) = G2 at *
  by_cases hb : b = []
  · subst hb
    simp
    exact em (pmul_nil a) G2 s2
  have eb : b.isEmpty = false := by simpa using hb
  rw [eb]
  have f1 : sqAt G2 p1 = some (iL a) := sqAt_some.mpr (s2 _ _ g1)
  have f2 : sqAt G2 p2 = some (iL b) := sqAt_some.mpr (s2 _ _ g2)
  simp [f1, f2]
  intro r3 hr3
  have s3 : Sub G (put G2 r3 (.lst [.int 0])) := s2.trans (.put hr3)
  have f1 := Sub.sq (.put hr3 (o := .lst [.int 0])) f1
  have f2 := Sub.sq (.put hr3 (o := .lst [.int 0])) f2
  simp [f1, f2]
  generalize put G2 r3 (.lst [.int 0]) = G3 at *
  have ia : 0 < a.length := List.length_pos_iff.mpr ha
  have ib : 0 < b.length := List.length_pos_iff.mpr hb
  refine ⟨by omega, by omega, by omega, fun p hp => ?_⟩
  generalize hN : a.length + b.length - 1 = N at *
  have hp1 : p1 ≠ p := ne_free (sqAt_some.mp f1) hp
  have hp2 : p2 ≠ p := ne_free (sqAt_some.mp f2) hp
  have e0 : List.replicate (((a.length : Int) + (b.length : Int)).toNat - 1) (D.int 0) = iL (lst N (accP a b 0 0)) := by
    rw [accP_zero, lst_zero, show ((a.length : Int) + (b.length : Int)).toNat - 1 = N by omega]; simp [iL]
  rw [e0]
  have k1' : ∀ l : List D, sqAt (put G3 p (.lst l)) p1 = some (iL a) := fun l => sqAt_some.mpr (by rw [put_ne hp1]; exact sqAt_some.mp f1)
  have k2' : ∀ l : List D, sqAt (put G3 p (.lst l)) p2 = some (iL b) := fun l => sqAt_some.mpr (by rw [put_ne hp2]; exact sqAt_some.mp f2)
  simp [k1']
  refine ⟨by omega, ?_⟩
  refine for_rule (fun i σ G' => ∃ s3 s4, σ = [some (.ref p1), some (.ref p2), some (.ref p), s3, s4] ∧ G' = put G3 p (.lst (iL (lst N (accP a b i 0))))) ⟨_, _, rfl, rfl⟩ (fun _ _ _ _ _ => srcOk_nil) ?_ ?_
  · rintro i d σ G' Kn hd ⟨s3, s4, rfl, rfl⟩ hK
    obtain ⟨hi, rfl⟩ := range_get hd
    simp [k2']
    refine ⟨by omega, ?_⟩
    refine for_rule (fun j σ G' => ∃ s4, σ = [some (.ref p1), some (.ref p2), some (.ref p), some (.int i), s4] ∧ G' = put G3 p (.lst (iL (lst N (accP a b i j))))) ⟨_, rfl, rfl⟩ (fun _ _ _ _ _ => srcOk_nil) ?_ ?_
    · rintro j d σ G' Kn hd ⟨s4, rfl, rfl⟩ hK
      obtain ⟨hj, rfl⟩ := range_get hd
      have hi' : i < a.length := by simpa using hi
      have hij : i + j < N := by omega
      have ec : ((i : Int) + (j : Int)) = ((i + j : Nat) : Int) := by omega
      simp [k1', k2', iL_get hi', iL_get hj, hi', hj]
      rw [ec]
      refine ⟨.int ((accP a b i j).c (i + j)), by rw [atI_nat]; exact acc_get hij, mulOk (ba _ (List.getElem_mem hi')) (bb _ (List.getElem_mem hj)) (by omega), ?_⟩
      simp
      refine ⟨i + j, ixN_nat (by rw [lst_length]; exact hij), hK _ _ ⟨_, rfl, ?_⟩⟩
      have := acc_set (a := a) (b := b) hij
      rw [getD_lt hi', getD_lt hj] at this
      rw [this]
    · rintro σ G' ⟨s4, rfl, rfl⟩
      rw [rangeL_length, accP_row]
      exact hK _ _ ⟨_, _, rfl, rfl⟩
  · rintro σ G' ⟨s3', s4, rfl, rfl⟩
    rw [rangeL_length, accP_end]
    simp [h1]
    refine ⟨.ref p, lst N (toS a * toS b), rfl, by simp [sqOf], fun p' hp' => ⟨put G p' (.lst (iL (pmul a b))), ?_, ?_⟩⟩
    · have : pmul a b = trim (lst N (toS a * toS b)) := by unfold pmul; rw [hN]
      rw [this]
      exact (s3.trans (.put hp)).putput
    · exact q p' ((s3.trans (.put hp)).free hp')
def S_f_law_plus : DSp := fun ds G Q _ => ∃ (p1 p2 : Addr) (a b : List Int), ds = [.ref p1, .ref p2] ∧ G p1 = some (.lst (iL a)) ∧ G p2 = some (.lst (iL b)) ∧ a.length ≤ 1000 ∧ b.length ≤ 1000 ∧ NewL (padd a b) G Q
theorem run_f_law_plus {Γ : GE} (h1 : Fn Γ "_law_trim" ["items"] S_f_law_trim) {ds : List D} {G : DH} {Q : QD} {E : ED} (hl : ds.length = 2) (h : S_f_law_plus ds G Q E) : Runs Γ m_f_law_plus 4 ds G Q E := by
  obtain ⟨k1, d1, h1⟩ := h1
  obtain ⟨p1, p2, a, b, rfl, g1, g2, la, lb, q⟩ := h
  have hsz := sizeLine_eq
  have f1 := sqAt_some.mpr g1
  have f2 := sqAt_some.mpr g2
  unfold Runs m_f_law_plus
  simp [startD, dEnds, List.replicate, h1, f1, f2]
  refine ⟨by omega, by omega, by rw [rangeL_length]; omega, ?_⟩
  refine lc_all (fun d => match d with | .int i => .int (a.getD i.toNat 0 + b.getD i.toNat 0) | d => d) srcOk_nil (fun d hd K1 K0 z => ?_) ?_
  · obtain ⟨i, hi, rfl⟩ := range_mem hd
    simp [f1, f2]
    have z' : K1 (.int (a.getD i 0 + b.getD i 0)) G := z
    by_cases ha : i < a.length
    · rw [getD_lt ha] at z'
      refine ite_l (.inr ⟨ha, .int a[i], by simp [ha], ?_⟩)
      by_cases hb : i < b.length
      · rw [getD_lt hb] at z'
        exact ite_l (.inr ⟨hb, .int b[i], by simp [hb], z'⟩)
      · rw [getD_ge (by omega)] at z'
        exact ite_l (.inl ⟨by omega, z'⟩)
    · rw [getD_ge (by omega)] at z'
      refine ite_l (.inl ⟨by omega, ?_⟩)
      by_cases hb : i < b.length
      · rw [getD_lt hb] at z'
        exact ite_l (.inr ⟨hb, .int b[i], by simp [hb], z'⟩)
      · rw [getD_ge (by omega)] at z'
        exact ite_l (.inl ⟨by omega, by simpa using z'⟩)
  · have e : (rangeL 0 (max (a.length : Int) (b.length : Int)).toNat 1).map (fun d => match d with | .int i => D.int (a.getD i.toNat 0 + b.getD i.toNat 0) | d => d) = iL (lst (max a.length b.length) (toS a + toS b)) := by
      rw [show (max (a.length : Int) (b.length : Int)).toNat = max a.length b.length by omega]
      unfold rangeL lst
      rw [List.map_map]
      refine Eq.trans ?_ (List.map_map).symm
      refine List.map_congr_left fun k _ => ?_
      show D.int _ = D.int _
      congr 1
      show a.getD (0 + (k : Int) * 1).toNat 0 + b.getD (0 + (k : Int) * 1).toNat 0 = (toS a).c k + (toS b).c k
      rw [show (0 + (k : Int) * 1).toNat = k by omega]; rfl
    rw [e]
    intro p hp
    refine ⟨.ref p, _, rfl, by simp [sqOf], fun p' hp' => ⟨put G p' (.lst (iL (padd a b))), (Sub.put hp).putput, q p' ((Sub.put hp).free hp')⟩⟩
def S_f_law_at : DSp := fun ds G Q _ => ∃ (p : Addr) (a : List Int) (x : Int) (m n : Nat), ds = [.ref p, .int x] ∧ G p = some (.lst (iL a)) ∧ a.length ≤ 900 ∧ Bd m a ∧ Sz n x ∧ m ≤ 10000 ∧ n ≤ 10000 ∧ Q (.int (horner a x)) G
theorem run_f_law_at {Γ : GE} {ds : List D} {G : DH} {Q : QD} {E : ED} (hl : ds.length = 2) (h : S_f_law_at ds G Q E) : Runs Γ m_f_law_at 4 ds G Q E := by
  obtain ⟨p, a, x, m, n, rfl, g, la, ba, hx, hm, hn, q⟩ := h
  have f := sqAt_some.mpr g
  unfold Runs m_f_law_at
  simp [startD, dEnds, List.replicate, f]
  refine ⟨by omega, ?_⟩
  refine for_rule (fun i σ G' => ∃ s3, σ = [some (.ref p), some (.int x), some (.int (horner (a.drop (a.length - i)) x)), s3] ∧ G' = G) ⟨none, by simp [horner], rfl⟩ (fun _ _ _ _ _ => srcOk_nil) ?_ ?_
  · rintro i d σ G' Kn hd ⟨s3, rfl, rfl⟩ hK
    obtain ⟨hi, rfl⟩ := range_get hd
    have hi' : i < a.length := by simpa using hi
    have hj : a.length - 1 - i < a.length := by omega
    have ec : (a.length : Int) - 1 - (i : Int) = ((a.length - 1 - i : Nat) : Int) := by omega
    simp [f]
    have e1 : a.length - i = (a.length - 1 - i) + 1 := by omega
    have e2 := horner_snd a x (a.length - 1 - i) hj
    rw [← e1] at e2
    have s1 := horner_sz hx (a := a.drop (a.length - i)) fun c hc => ba c (List.mem_of_mem_drop hc)
    have e3 : (a.drop (a.length - i)).length * (n + 1) ≤ 900 * 10001 := Nat.mul_le_mul (by rw [List.length_drop]; omega) (by omega)
    refine ⟨mulOk s1 hx (by omega), .int a[a.length - 1 - i], by rw [ec, atI_nat]; exact iL_get hj, ?_⟩
    simp
    refine hK _ _ ⟨some (.int i), ?_, rfl⟩
    rw [← e2, show a.length - (i + 1) = a.length - 1 - i by omega]
  · rintro σ G' ⟨s3, rfl, rfl⟩
    simp
    exact ⟨G', .refl, by rw [rangeL_length, show a.length - a.length = 0 by omega]; simpa using q⟩
def S_f_law_derived : DSp := fun ds G Q _ => ∃ (p : Addr) (a : List Int), ds = [.ref p] ∧ G p = some (.lst (iL a)) ∧ a.length ≤ 900 ∧ NewL (trim (derL a)) G Q
theorem derL_eq (a : List Int) : derL a = (List.range (a.length - 1)).map fun k => ((k + 1 : Nat) : Int) * a.getD (k + 1) 0 := by
  unfold derL
  refine List.ext_getElem? fun k => ?_
  rw [List.getElem?_drop]
  by_cases h : k < a.length - 1
  · rw [List.getElem?_map, List.getElem?_map, List.getElem?_range (by omega), List.getElem?_range h]
    simp [Nat.add_comm]
  · rw [List.getElem?_eq_none (by simp; omega), List.getElem?_eq_none (by simp; omega)]
theorem run_f_law_derived {Γ : GE} (h1 : Fn Γ "_law_trim" ["items"] S_f_law_trim) {ds : List D} {G : DH} {Q : QD} {E : ED} (hl : ds.length = 1) (h : S_f_law_derived ds G Q E) : Runs Γ m_f_law_derived 2 ds G Q E := by
  obtain ⟨k1, d1, h1⟩ := h1
  obtain ⟨p, a, rfl, g, la, q⟩ := h
  have hsz := sizeLine_eq
  have f := sqAt_some.mpr g
  unfold Runs m_f_law_derived
  simp [startD, dEnds, List.replicate, h1, f]
  refine ⟨by omega, by rw [rangeL_length]; omega, ?_⟩
  refine lc_all (fun d => match d with | .int i => .int (i * a.getD i.toNat 0) | d => d) srcOk_nil (fun d hd K1 K0 z => ?_) ?_
  · obtain ⟨i, hi⟩ := List.getElem?_of_mem hd
    obtain ⟨hi, rfl⟩ := rangeL_get hi
    have e1 : (1 : Int) + (i : Int) * 1 = ((i + 1 : Nat) : Int) := by omega
    have hi1 : i + 1 < a.length := by omega
    rw [e1] at z ⊢
    simp only [gD_app, wp63, oD_app, wp61, if_true, eD_app]
    simp [f]
    refine ⟨.int a[i + 1], by rw [show ((i : Int) + 1) = ((i + 1 : Nat) : Int) by omega, atI_nat]; exact iL_get hi1, ?_⟩
    simp
    have z' : K1 (.int (((i + 1 : Nat) : Int) * a.getD (i + 1) 0)) G := z
    rw [getD_lt hi1] at z'
    exact ⟨.of_left (intBits_le_64 (by omega) (by omega)), z'⟩
  · have e : (rangeL 1 ((a.length : Int) - 1).toNat 1).map (fun d => match d with | .int i => D.int (i * a.getD i.toNat 0) | d => d) = iL (derL a) := by
      rw [derL_eq, show ((a.length : Int) - 1).toNat = a.length - 1 by omega]
      unfold rangeL
      rw [List.map_map]
      refine Eq.trans ?_ (List.map_map).symm
      refine List.map_congr_left fun k _ => ?_
      show D.int ((1 + (k : Int) * 1) * a.getD (1 + (k : Int) * 1).toNat 0) = D.int (((k + 1 : Nat) : Int) * a.getD (k + 1) 0)
      rw [show (1 + (k : Int) * 1) = ((k + 1 : Nat) : Int) by omega, Int.toNat_natCast]
    intro p' hp'
    have e' : (rangeL 1 (a.length - 1) 1).map (fun d => match d with | .int i => D.int (i * a.getD i.toNat 0) | d => d) = iL (derL a) := by
      rw [← e, show ((a.length : Int) - 1).toNat = a.length - 1 by omega]
    simp only [e, e']
    exact ⟨.ref p', derL a, rfl, by simp [sqOf], fun r hr => ⟨_, (Sub.put hp').putput, q r ((Sub.put hp').free hr)⟩⟩
def S_f_law_gcd : DSp := fun ds G Q _ => ∃ a b : Int, ds = [.int a, .int b] ∧ Q (.int (Int.gcd a b : Nat)) G
@[simp] theorem gcd_at {a b : Int} {G : DH} {Q : QD} {E : ED} : S_f_law_gcd [.int a, .int b] G Q E ↔ Q (.int (Int.gcd a b : Nat)) G := by
  constructor
  · rintro ⟨a', b', e, h⟩
    cases e
    exact h
  · exact fun h => ⟨a, b, rfl, h⟩
theorem run_f_law_gcd {Γ : GE} {ds : List D} {G : DH} {Q : QD} {E : ED} (hl : ds.length = 2) (h : S_f_law_gcd ds G Q E) : Runs Γ m_f_law_gcd 2 ds G Q E := by
  obtain ⟨a, b, rfl, q⟩ := h
  unfold Runs m_f_law_gcd
  simp [startD, dEnds]
  refine while_rule (fun n σ G' => ∃ x y : Nat, σ = [some (.int x), some (.int y)] ∧ Nat.gcd x y = Int.gcd a b ∧ n = y ∧ G' = G) b.natAbs ⟨a.natAbs, b.natAbs, rfl, rfl, rfl, rfl⟩ ?_
  rintro n σ G' Kn ⟨x, y, rfl, hg, rfl, rfl⟩ hK
  simp
  by_cases hy : n = 0
  · rw [if_pos hy]
    subst hy
    refine ⟨G', .refl, ?_⟩
    rw [Nat.gcd_zero_right] at hg
    rw [hg]
    exact q
  · rw [if_neg hy]
    refine ⟨hy, hK (x % n) _ G' (Nat.mod_lt _ (by omega)) ⟨n, x % n, ?_, ?_, rfl, rfl⟩⟩
    · rw [Int.fmod_eq_emod_of_nonneg _ (by omega : (0 : Int) ≤ (n : Int))]; rfl
    · rw [Nat.gcd_comm, ← Nat.gcd_rec, Nat.gcd_comm]; exact hg
def S_f_law_content : DSp := fun ds G Q _ => ∃ (p : Addr) (a : List Int), ds = [.ref p] ∧ G p = some (.lst (iL a)) ∧ Q (.int (contL a)) G
theorem run_f_law_content {Γ : GE} (h1 : Fn Γ "_law_gcd" ["a", "b"] S_f_law_gcd) {ds : List D} {G : DH} {Q : QD} {E : ED} (hl : ds.length = 1) (h : S_f_law_content ds G Q E) : Runs Γ m_f_law_content 3 ds G Q E := by
  obtain ⟨k1, d1, h1⟩ := h1
  obtain ⟨p, a, rfl, g, q⟩ := h
  have f := sqAt_some.mpr g
  unfold Runs m_f_law_content
  simp [startD, dEnds, List.replicate, f]
  refine for_rule (fun i σ G' => ∃ s, σ = [some (.ref p), some (.int (contL (a.take i))), s] ∧ G' = G) ⟨none, rfl, rfl⟩ (fun i σ G' _ ⟨_, _, e⟩ => by rw [e]; exact srcOk_one f) ?_ ?_
  · rintro i d σ G' Kn hd ⟨s, rfl, rfl⟩ hK
    obtain ⟨hi, rfl⟩ := iL_some hd
    simp [h1]
    exact hK _ _ ⟨some (.int a[i]), by rw [take_snoc hi, contL_snoc], rfl⟩
  · rintro σ G' ⟨s, rfl, rfl⟩
    simp
    exact ⟨G', .refl, q⟩
def S_f_law_primitive : DSp := fun ds G Q _ => ∃ (p : Addr) (a : List Int) (n : Nat), ds = [.ref p] ∧ G p = some (.lst (iL a)) ∧ Trm a ∧ a.length ≤ 2000 ∧ Bd n a ∧ n ≤ 100000000 ∧ NewL (primL a) G Q
theorem run_f_law_primitive {Γ : GE} (h1 : Fn Γ "_law_content" ["one"] S_f_law_content) {ds : List D} {G : DH} {Q : QD} {E : ED} (hl : ds.length = 1) (h : S_f_law_primitive ds G Q E) : Runs Γ m_f_law_primitive 3 ds G Q E := by
  obtain ⟨k1, d1, h1⟩ := h1
  obtain ⟨p, a, n, rfl, g, ta, la, ba, hn, q⟩ := h
  have hsz := sizeLine_eq
  have f := sqAt_some.mpr g
  unfold Runs m_f_law_primitive
  simp [startD, dEnds, List.replicate, h1]
  refine ⟨p, a, rfl, g, ?_⟩
  by_cases h0 : a = []
  · subst h0
    simp [contL]
    exact fun r hr => ⟨_, .refl, q r hr⟩
  · obtain ⟨c0, c1⟩ := contL_last ta h0
    have sz := c1 n ba
    have hc : ¬ contL a = 0 := by omega
    have key : ∀ f : Int, f ≠ 0 → Pyl f → primL a = a.map (fun c => c.fdiv f) → lcD [(p, iL a)] (gD Γ (.name 2) nowish) (oD' Γ .none) (eD Γ (.bin .FloorDiv (.var 2) (.var 1))) (fun acc G2 => ∀ p, G2 p = none → ∃ G2_1, Sub G2_1 (put G2 p (.lst acc)) ∧ Q (.ref p) G2_1) [some (.ref p), some (.int f), none] (iL a) [] G := by
      intro f' hf hs e
      refine lc_all (fun d => match d with | .int i => .int (i.fdiv f') | d => d) (srcOk_one f) (fun d hd K1 K0 z => ?_) ?_
      · obtain ⟨c, hc, rfl⟩ := List.mem_map.mp hd
        simp
        exact ⟨hf, hs, z⟩
      · intro r hr
        have q' := q r hr
        rw [e] at q'
        refine ⟨_, ?_, q'⟩
        have e3 : iL (a.map fun c => c.fdiv f') = (iL a).map (fun d => match d with | .int i => D.int (i.fdiv f') | d => d) := by
          rw [List.map_map]
          exact (List.map_map).trans rfl
        rw [e3]
        exact .refl
    simp [hc, f, lastI_get' h0]
    by_cases hp : 0 < lastI a
    · refine ite_l (.inr ⟨hp, by omega, ?_⟩)
      exact key (contL a) hc trivial (by unfold primL; simp [hp])
    · refine ite_l (.inl ⟨by omega, by omega, ?_⟩)
      exact key (-contL a) (by omega) trivial (by unfold primL; simp [hp])
def S_f_law_composed : DSp := fun ds G Q _ => ∃ (p1 p2 : Addr) (a b : List Int) (m n : Nat), ds = [.ref p1, .ref p2] ∧ G p1 = some (.lst (iL a)) ∧ G p2 = some (.lst (iL b)) ∧ a.length ≤ 800 ∧ b.length ≤ 800 ∧ a.length * b.length ≤ 800 ∧ Bd m a ∧ Bd n b ∧ m ≤ 10000 ∧ n ≤ 10000 ∧ NewL (pcomp a b) G Q
theorem run_f_law_composed {Γ : GE} (h1 : Fn Γ "_law_plus" ["one", "other"] S_f_law_plus) (h2 : Fn Γ "_law_times" ["one", "other"] S_f_law_times) (h3 : Fn Γ "_law_trim" ["items"] S_f_law_trim) {ds : List D} {G : DH} {Q : QD} {E : ED} (hl : ds.length = 2) (h : S_f_law_composed ds G Q E) : Runs Γ m_f_law_composed 4 ds G Q E := by
  obtain ⟨k1, d1, h1⟩ := h1
  obtain ⟨k2, d2, h2⟩ := h2
  obtain ⟨k3, d3, h3⟩ := h3
  obtain ⟨p1, p2, a, b, m, n, rfl, g1, g2, la, lb, lab, ba, bb, hm, hn, q⟩ := h
  have f1 := sqAt_some.mpr g1
  have f2 := sqAt_some.mpr g2
  unfold Runs m_f_law_composed
  simp [startD, dEnds, List.replicate]
  intro p hp
  have hp1 : p1 ≠ p := ne_free g1 hp
  have hp2 : p2 ≠ p := ne_free g2 hp
  have f1' : sqAt (put G p (.lst [])) p1 = some (iL a) := Sub.sq (.put hp) f1
  simp [f1']
  refine ⟨a.length, ?_, ?_⟩
  · have := RgC.neg (i := (a.length : Int) - 1) (j := -1) (by omega) (by omega) (by omega) (by omega)
    rwa [show ((a.length : Int) - 1 - -1).toNat = a.length by omega] at this
  have s0 : Sub G (put G p (.lst [])) := .put hp
  have gp : put G p (.lst []) p = some (.lst (iL (pcomp [] b))) := put_same
  refine for_rule (fun i σ G' => ∃ (r : Addr) (s3 : Option D), σ = [some (.ref p1), some (.ref p2), some (.ref r), s3] ∧ G' r = some (.lst (iL (pcomp (a.drop (a.length - i)) b))) ∧ Sub G G' ∧ G r = none) ⟨p, none, rfl, by simpa using gp, s0, hp⟩ (fun _ _ _ _ _ => srcOk_nil) ?_ ?_
  · rintro i d σ G' Kn hd ⟨r, s3, rfl, gr, sg, fr⟩ hK
    obtain ⟨hi, rfl⟩ := rangeL_get hd
    have hj : a.length - 1 - i < a.length := by omega
    have ej : ((a.length : Int) - 1 + (i : Int) * -1) = ((a.length - 1 - i : Nat) : Int) := by omega
    rw [ej]
    generalize hA : a.drop (a.length - i) = A at *
    have lA : A.length = i := by rw [← hA, List.length_drop]; omega
    have bA : Bd m A := fun c hc => ba c (by rw [← hA] at hc; exact List.mem_of_mem_drop hc)
    have hAb : (A.length + 1) * b.length ≤ a.length * b.length := Nat.mul_le_mul_right _ (by omega)
    rw [Nat.succ_mul] at hAb
    have l1 := pcomp_len b A
    have b1 := Bd.pcomp bb bA (by omega)
    have e2 : pcomp (a.drop (a.length - (i + 1))) b = padd (pmul (pcomp A b) b) (trim [a[a.length - 1 - i]]) := by
      rw [show a.length - (i + 1) = a.length - 1 - i by omega, List.drop_eq_getElem_cons hj, pcomp_cons, show a.length - 1 - i + 1 = a.length - i by omega, hA, psum_one]
    have e3 : A.length * (n + 12) ≤ 800 * 10012 := Nat.mul_le_mul (by omega) (by omega)
    have l2 := pmul_len (pcomp A b) b
    have l4 := trim_one_len a[a.length - 1 - i]
    simp only [gD_app, wp63, bD_app]
    simp [h1, h2, h3, sg.sq f2]
    intro r1 hr1
    refine ⟨r, r1, pcomp A b, b, _, n, rfl, ?_, put_same, by omega, by omega, b1, bb, by omega, fun r2 hr2 => ?_⟩
    · rw [put_ne (ne_free gr hr1)]; exact gr
    have s2 : Sub G' (put (put G' r1 (.lst (iL b))) r2 (.lst (iL (pmul (pcomp A b) b)))) := (Sub.put hr1).trans (.put hr2)
    have gr2 : put (put G' r1 (.lst (iL b))) r2 (.lst (iL (pmul (pcomp A b) b))) r2 = some (.lst (iL (pmul (pcomp A b) b))) := put_same
    generalize put (put G' r1 (.lst (iL b))) r2 (.lst (iL (pmul (pcomp A b) b))) = G2 at *
    have f1g : sqAt G2 p1 = some (iL a) := (sg.trans s2).sq f1
    simp [f1g]
    refine ⟨.int a[a.length - 1 - i], by simp [hj], fun r3 hr3 => ⟨.ref r3, [a[a.length - 1 - i]], rfl, by simp [sqOf], fun r4 hr4 => ?_⟩⟩
    have s4 : Sub G2 (put (put G2 r3 (.lst [.int a[a.length - 1 - i]])) r4 (.lst (iL (trim [a[a.length - 1 - i]])))) := (Sub.put hr3).trans (.put hr4)
    have gr4 : put (put G2 r3 (.lst [.int a[a.length - 1 - i]])) r4 (.lst (iL (trim [a[a.length - 1 - i]]))) r4 = some (.lst (iL (trim [a[a.length - 1 - i]]))) := put_same
    generalize put (put G2 r3 (.lst [.int a[a.length - 1 - i]])) r4 (.lst (iL (trim [a[a.length - 1 - i]]))) = G4 at *
    refine ⟨r2, r4, _, _, rfl, s4 _ _ gr2, gr4, by omega, by omega, fun r5 hr5 => ?_⟩
    refine hK _ _ ⟨r5, some (.int ((a.length - 1 - i : Nat) : Int)), rfl, by rw [e2]; exact put_same, sg.trans (s2.trans (s4.trans (.put hr5))), (sg.trans (s2.trans s4)).free hr5⟩
  · rintro σ G' ⟨r, s3, rfl, gr, sg, fr⟩
    rw [rangeL_length, show a.length - a.length = 0 by omega, List.drop_zero] at gr
    simp
    refine ⟨_, ?_, q r fr⟩
    intro x o hx
    by_cases hxr : x = r
    · subst hxr
      rw [put_same] at hx
      rw [gr]; exact hx
    · rw [put_ne hxr] at hx
      exact sg _ _ hx
end DL.LW

set_option Elab.async false
set_option linter.all false
set_option maxRecDepth 100000
set_option maxHeartbeats 4000000
namespace DL.LW
open PySem PySem.Spec PyProof.Rows L2 DL TL PM
/-! L3: drawn polynomials. -/
/-- what stood stands, but for a -/
def Kp (a : Addr) (G G' : DH) : Prop := ∀ b o, b ≠ a → G b = some o → G' b = some o
/-- .. and at a is a box -/
def Bx (B : Int) (a : Addr) (G G' : DH) : Prop := (∃ l, G' a = some (.lst l) ∧ BoxOk B l) ∧ Kp a G G'
section
variable {a p : Addr} {B B' : Int} {G G1 G2 : DH} {o : DO} {l : List D}
theorem Kp.refl : Kp a G G := fun _ _ _ h => h
theorem Kp.trans (h : Kp a G G1) (h' : Kp a G1 G2) : Kp a G G2 := fun b o hb e => h' b o hb (h b o hb e)
theorem Kp.put (hp : G p = none) : Kp a G (put G p o) := fun b u hb e => by rw [put_ne (ne_free e hp)]; exact e
theorem Kp.sub (h : Sub G G1) : Kp a G G1 := fun b o _ e => h b o e
theorem Bx.start (h : G a = some (.lst l)) (hb : BoxOk B l) : Bx B a G G := ⟨⟨l, h, hb⟩, .refl⟩
theorem Bx.trans (h : Bx B a G G1) (h' : Bx B' a G1 G2) : Bx B' a G G2 := ⟨h'.1, h.2.trans h'.2⟩
theorem Bx.mono (h : Bx B a G G1) (hb : B ≤ B') : Bx B' a G G1 := by
  obtain ⟨⟨l, e, k⟩, q⟩ := h
  exact ⟨⟨l, e, k.mono hb⟩, q⟩
theorem Bx.sub (h : Bx B a G G1) (s : Sub G1 G2) : Bx B a G G2 := by
  obtain ⟨⟨l, e, k⟩, q⟩ := h
  exact ⟨⟨l, s _ _ e, k⟩, q.trans (.sub s)⟩
theorem Bx.put (h : Bx B a G G1) (hp : G1 p = none) : Bx B a G (DL.put G1 p o) := h.sub (.put hp)
theorem Bx.ne (h : Bx B a G G1) (hp : G1 p = none) : p ≠ a := by
  obtain ⟨⟨l, e, k⟩, q⟩ := h
  exact Ne.symm (ne_free e hp)
theorem Bx.fresh (h : Bx B a G G1) (hp : G1 p = none) : G p = none := by
  cases e : G p with
  | none => rfl
  | some o => rw [h.2 _ _ (h.ne hp) e] at hp; cases hp
theorem Bx.at (h : Bx B a G G1) (hp : G p = some o) (hne : p ≠ a) : G1 p = some o := h.2 _ _ hne hp
theorem Bx.self (h : Bx B a G G1) : Bx B a G1 G1 := ⟨h.1, .refl⟩
/-- a list that is written, not the box -/
theorem Bx.write (h : Bx B a G G1) (hp : p ≠ a) (hG : G p = none) : Bx B a G (DL.put G1 p o) := by
  obtain ⟨⟨l, e, k⟩, q⟩ := h
  exact ⟨⟨l, by rw [put_ne (Ne.symm hp)]; exact e, k⟩, fun b u hb hu => by
    rw [put_ne (ne_free hu hG)]; exact q b u hb hu⟩
end
theorem take_b {a : Addr} {m B : Int} {G : DH} {Q : QD} {E : ED} {G0 : DH} (hb : Bx B a G0 G) (hB : B < 1000000000) (hm : 0 < m) (hs : m < 100000000000000000000000000)
    (k : ∀ (d : Int) (G' : DH), 0 ≤ d → d < m → Bx (B + 1) a G0 G' → Kp a G G' → Q (.int d) G') : S_f_law_take [.ref a, .int m] G Q E := by
  obtain ⟨⟨l, e, hk⟩, q⟩ := hb
  exact take_at e hk hB hm (sm26 hm hs) fun d l' G' h1 h2 b e' => k d G' h1 h2 ⟨⟨l', e'.1, b⟩, q.trans e'.2⟩ e'.2
theorem cut_to' {l : List D} {m : Nat} : cutL l none (some (m : Int)) = l.take m := by
  unfold cutL
  rw [HT.sIx_nat, HT.sIx_none, List.drop_zero, Nat.sub_zero]
  by_cases h : m ≤ l.length
  · rw [Nat.min_eq_left h]
  · rw [Nat.min_eq_right (by omega), List.take_length, List.take_of_length_le (by omega)]
/-- one of some ints -/
theorem pick {ns : List Int} {d : Int} (h0 : 0 ≤ d) (h : d < (ns.length : Int)) : ∃ w ∈ ns, atI (ns.map D.int) d = some (.int w) := by
  obtain ⟨n, rfl⟩ : ∃ n : Nat, d = n := ⟨d.toNat, by omega⟩
  have hn : n < ns.length := by omega
  exact ⟨ns[n], List.getElem_mem hn, by rw [atI_nat, List.getElem?_map, List.getElem?_eq_getElem hn]; rfl⟩
/-- drawn numbers in a row -/
theorem lc_draw {Γ : GE} {e : ME} {Q : List D → DH → Prop} {σ : Sg} {s n : Nat} {a : Addr} {B : Int} {G0 G : DH} {P : Int → Prop} (hb : Bx B a G0 G)
    (he : ∀ (i : Nat) (G' : DH) (K : QD), i < n → Bx (B + i) a G0 G' → Kp a G G' → (∀ (c : Int) (G'' : DH), P c → Bx (B + i + 1) a G0 G'' → Kp a G' G'' → K (.int c) G'') → eD Γ e (st σ s (some (.int i))) G' K)
    (fin : ∀ (r : List Int) (G' : DH), r.length = n → (∀ c ∈ r, P c) → Bx (B + n) a G0 G' → Kp a G G' → Q (iL r) G') : lcD [] (gD Γ (.name s) nowish) (oD' Γ .none) (eD Γ e) Q σ (rangeL 0 n 1) [] G := by
  refine lc_inv (fun i acc G' => ∃ r : List Int, acc = iL r ∧ r.length = i ∧ (∀ c ∈ r, P c) ∧ Bx (B + i) a G0 G' ∧ Kp a G G') ⟨[], rfl, rfl, fun c h => (by cases h), by simpa using hb, .refl⟩ (fun _ _ _ _ _ => srcOk_nil) ?_ ?_
  · rintro i d acc G' K hd ⟨r, rfl, hr, hP, hb', kp⟩ hK
    obtain ⟨hi, rfl⟩ := range_get hd
    simp only [gD_app, wp63, oD_app, wp61, if_true]
    refine he i G' _ hi hb' kp fun c G'' hc hb'' kp' => hK _ _ ⟨r ++ [c], by simp [iL], by simp [hr], ?_, ?_, kp.trans kp'⟩
    · intro x hx
      rcases List.mem_append.mp hx with q | q
      · exact hP x q
      · rw [List.mem_singleton.mp q]; exact hc
    · rw [show B + ((i + 1 : Nat) : Int) = B + i + 1 by omega]; exact hb''
  · rintro acc G' ⟨r, rfl, hr, hP, hb', kp⟩
    rw [rangeL_length] at hr hb'
    exact fin r G' hr hP hb' kp
theorem bd_of {n : Nat} {B : Nat} {r : List Int} (h : ∀ c ∈ r, c.natAbs ≤ B) (hB : B < 2 ^ n) : Bd n r := fun c hc => Nat.lt_of_le_of_lt (h c hc) hB
/-- a drawn polynomial as a list -/
def DrawnL (a : Addr) (B : Int) (len bits : Nat) (G : DH) (Q : QD) : Prop := ∀ (p : Addr) (r : List Int) (G' : DH), Bx B a G G' → p ≠ a → G' p = some (.lst (iL r)) → Trm r → r.length ≤ len → Bd bits r → Q (.ref p) G'
def S_f_law_roots_made : DSp := fun ds G Q _ => ∃ (a : Addr) (n : Nat) (B : Int), ds = [.ref a, .int n] ∧ Bx B a G G ∧ B < 900000000 ∧ n ≤ 100 ∧ DrawnL a (B + 4 * n) (2 * n + 1) (32 * n + 1) G Q
theorem run_f_law_roots_made {Γ : GE} (h1 : Fn Γ "_law_take" ["box", "many"] S_f_law_take) (h2 : Fn Γ "_law_times" ["one", "other"] S_f_law_times) {ds : List D} {G : DH} {Q : QD} {E : ED} (hl : ds.length = 2) (h : S_f_law_roots_made ds G Q E) : Runs Γ m_f_law_roots_made 6 ds G Q E := by
  obtain ⟨k1, d1, h1⟩ := h1
  obtain ⟨k2, d2, h2⟩ := h2
  obtain ⟨a, n, B, rfl, hb, hB, hn, q⟩ := h
  unfold Runs m_f_law_roots_made
  simp [startD, dEnds, List.replicate]
  intro p hp
  refine ⟨by omega, ?_⟩
  have b0 : Bx B a G (put G p (.lst [.int 1])) := hb.put hp
  refine for_rule (fun i σ G' => ∃ (r : Addr) (l : List Int) (s3 s4 s5 : Option D), σ = [some (.ref a), some (.int n), some (.ref r), s3, s4, s5] ∧ G' r = some (.lst (iL l)) ∧ r ≠ a ∧ Bx (B + 4 * i) a G G' ∧ Trm l ∧ l.length ≤ 2 * i + 1 ∧ Bd (32 * i + 1) l)
    ⟨p, [1], _, _, _, rfl, put_same, hb.ne hp, by simpa using b0, tr_snoc (l := []) (by simp [isz]), by simp, Bd.cons (sz1 (by decide)) Bd.nil⟩ (fun _ _ _ _ _ => srcOk_nil) ?_ ?_
  · rintro i d σ G' Kn hd ⟨r, l, s3, s4, s5, rfl, gr, hra, hbi, tl, ll, bl⟩ hK
    obtain ⟨hi, rfl⟩ := range_get hd
    simp [h1, h2]
    refine take_b hbi (by omega) (by decide) (by decide) fun d1 G1 x1 y1 b1 e1 => ?_
    simp
    refine take_b b1 (by omega) (by decide) (by decide) fun d2 G2 x2 y2 b2 e2 => ?_
    simp
    refine take_b b2 (by omega) (by decide) (by decide) fun d3 G3 x3 y3 b3 e3 => ?_
    have gr3 : G3 r = some (.lst (iL l)) := e3 _ _ hra (e2 _ _ hra (e1 _ _ hra gr))
    have key : ∃ w : Int, 1 ≤ w ∧ w ≤ 3 ∧ IntMulOk d2 (if d3 = 0 then 1 else 0) ∧ 1 + d2 * (if d3 = 0 then 1 else 0) = w := by
      by_cases h0 : d3 = 0
      · rw [if_pos h0]
        exact ⟨1 + d2, by omega, by omega, .of_right (intBits_le_64 (by decide) (by decide)), by omega⟩
      · rw [if_neg h0]
        exact ⟨1, by omega, by omega, .of_right (intBits_le_64 (by decide) (by decide)), by omega⟩
    obtain ⟨w, w1, w2, wm, we⟩ := key
    simp [wm, we]
    have bw : Bd 4 [-(d1 - 6), w] := Bd.cons (by unfold Sz; omega) (Bd.cons (by unfold Sz; omega) Bd.nil)
    intro p1 hp1
    refine ⟨r, p1, l, [-(d1 - 6), w], 32 * i + 1, 4, rfl, by rw [put_ne (ne_free gr3 hp1)]; exact gr3, put_same, by omega, by simp, bl, bw, by omega, fun p2 hp2 => ?_⟩
    have b4 := (b3.put (o := .lst [.int (-(d1 - 6)), .int w]) hp1).put (o := .lst (iL (pmul l [-(d1 - 6), w]))) hp2
    have n2 := (b3.put (o := .lst [.int (-(d1 - 6)), .int w]) hp1).ne hp2
    have g2 : put (put G3 p1 (.lst (iL [-(d1 - 6), w]))) p2 (.lst (iL (pmul l [-(d1 - 6), w]))) p2 = some (.lst (iL (pmul l [-(d1 - 6), w]))) := put_same
    have l2 := pmul_len l [-(d1 - 6), w]
    have t2 := trm_pmul l [-(d1 - 6), w]
    have bd2 := Bd.pmul bl bw (by omega)
    generalize pmul l [-(d1 - 6), w] = l2' at *
    have l2 : l2'.length ≤ l.length + 1 := by simpa using l2
    simp only [List.map_cons, List.map_nil] at g2 ⊢
    generalize put (put G3 p1 (.lst [.int (-(d1 - 6)), .int w])) p2 (.lst (iL l2')) = G4 at *
    refine take_b b4 (by omega) (by decide) (by decide) fun d4 G5 x4 y4 b5 e5 => ?_
    have g5 : G5 p2 = some (.lst (iL l2')) := e5 _ _ n2 g2
    have f5 := sqAt_some.mpr g5
    simp [f5]
    by_cases h0 : d4 = 0
    · refine ite_l (.inr ⟨h0, ?_⟩)
      by_cases hlt : l2'.length < n
      · refine ite_l (.inr ⟨hlt, fun p3 hp3 => ?_⟩)
        refine ⟨p2, p3, l2', [-(d1 - 6), w], _, 4, rfl, by rw [put_ne (ne_free g5 hp3)]; exact g5, put_same, by omega, by simp, bd2, bw, by omega, fun p4 hp4 => ?_⟩
        have b6 := (b5.put (o := .lst [.int (-(d1 - 6)), .int w]) hp3).put (o := .lst (iL (pmul l2' [-(d1 - 6), w]))) hp4
        have n4 := (b5.put (o := .lst [.int (-(d1 - 6)), .int w]) hp3).ne hp4
        have l3 := pmul_len l2' [-(d1 - 6), w]
        have l3 : (pmul l2' [-(d1 - 6), w]).length ≤ l2'.length + 1 := by simpa using l3
        exact hK _ _ ⟨p4, _, _, _, _, rfl, put_same, n4, b6.mono (by omega), trm_pmul _ _, by omega, (Bd.pmul bd2 bw (by omega)).mono (by omega)⟩
      · exact ite_l (.inl ⟨by omega, hK _ _ ⟨p2, _, _, _, _, rfl, g5, n2, b5.mono (by omega), t2, by omega, bd2.mono (by omega)⟩⟩)
    · exact ite_l (.inl ⟨h0, hK _ _ ⟨p2, _, _, _, _, rfl, g5, n2, b5.mono (by omega), t2, by omega, bd2.mono (by omega)⟩⟩)
  · rintro σ G' ⟨r, l, s3, s4, s5, rfl, gr, hra, hbi, tl, ll, bl⟩
    rw [rangeL_length] at hbi ll bl
    simp
    exact ⟨G', .refl, q r l G' hbi hra gr tl ll bl⟩
theorem bx_sub_put {a p : Addr} {B : Int} {G G1 : DH} {o : DO} (hb : Bx B a G G1) (hp : G1 p = none) : Bx B a G (put G1 p o) := hb.put hp
def S_f_law_drawn : DSp := fun ds G Q _ => ∃ (a : Addr) (most : Nat) (B : Int), ds = [.ref a, .int most] ∧ Bx B a G G ∧ B < 800000000 ∧ most ≤ 30 ∧ DrawnL a (B + 500) (most + 1) 1000 G Q
theorem run_f_law_drawn {Γ : GE} (h1 : Fn Γ "_law_take" ["box", "many"] S_f_law_take) (h2 : Fn Γ "_law_trim" ["items"] S_f_law_trim) (h3 : Fn Γ "_law_roots_made" ["box", "many"] S_f_law_roots_made) (h4 : Fn Γ "_law_times" ["one", "other"] S_f_law_times) (h5 : Fn Γ "_law_plus" ["one", "other"] S_f_law_plus) {ds : List D} {G : DH} {Q : QD} {E : ED} (hl : ds.length = 2) (h : S_f_law_drawn ds G Q E) : Runs Γ m_f_law_drawn 13 ds G Q E := by
  obtain ⟨k1, d1, h1⟩ := h1
  obtain ⟨k2, d2, h2⟩ := h2
  obtain ⟨k3, d3, h3⟩ := h3
  obtain ⟨k4, d4, h4⟩ := h4
  obtain ⟨k5, d5, h5⟩ := h5
  obtain ⟨a, most, B, rfl, hb, hB, hm, q⟩ := h
  have hsz := sizeLine_eq
  unfold Runs m_f_law_drawn
  simp [startD, dEnds, List.replicate, h1, h2, h3, h4, h5]
  refine take_b hb (by omega) (by decide) (by decide) fun way G1 w0 w1 b1 e1 => ?_
  simp
  refine take_b b1 (by omega) (by omega) (by omega) fun many' G2 m0 m1 b2 e2 => ?_
  obtain ⟨many, rfl⟩ : ∃ m : Nat, many' = m := ⟨many'.toNat, by omega⟩
  simp
  intro p0 hp0
  have b3 := b2.put (o := .lst [.int 1, .int 2, .int 5, .int 20, .int 1000]) hp0
  have g3 : put G2 p0 (.lst [.int 1, .int 2, .int 5, .int 20, .int 1000]) p0 = some (.lst [.int 1, .int 2, .int 5, .int 20, .int 1000]) := put_same
  have n3 := b2.ne hp0
  generalize put G2 p0 (.lst [.int 1, .int 2, .int 5, .int 20, .int 1000]) = G3 at *
  refine take_b b3 (by omega) (by decide) (by decide) fun wi G4 x0 x1 b4 e4 => ?_
  obtain ⟨wide, hw, pw⟩ := pick (ns := [1, 2, 5, 20, 1000]) x0 x1
  have pw' : atI [D.int 1, D.int 2, D.int 5, D.int 20, D.int 1000] wi = some (D.int wide) := pw
  have hw : 1 ≤ wide ∧ wide ≤ 1000 := by
    simp at hw
    omega
  have f4 := sqAt_some.mpr (e4 _ _ n3 g3)
  simp [f4, pw']
  have fin : ∀ (B' : Int) (p : Addr) (r : List Int) (n : Nat) (G' : DH), Bx B' a G G' → B' ≤ B + 500 → p ≠ a → G' p = some (.lst (iL r)) → Trm r → r.length ≤ most + 1 → Bd n r → n ≤ 1000 → ∃ G2, Sub G2 G' ∧ Q (.ref p) G2 :=
    fun B' p r n G' b hB' hp g t l bd hn => ⟨G', .refl, q p r G' (b.mono hB') hp g t l (bd.mono hn)⟩
  have hmany : many ≤ most := by omega
  refine ⟨by omega, by omega, by rw [rangeL_length]; omega, lc_draw (n := many + 1) (P := fun c => c.natAbs ≤ 2000) b4 (fun i G' K hi hbi kp hK => ?_) (fun r G' hr hP hb' kp p hp => ?_)⟩
  · simp [h1]
    refine ⟨.of_left (intBits_le_64 (by decide) (by decide)), take_b hbi (by omega) (by omega) (by omega) fun d G'' y0 y1 b e => ?_⟩
    simp
    exact hK _ _ (by omega) b e
  refine ⟨.ref p, r, rfl, by simp [sqOf], fun p2 hp2 => ?_⟩
  have b5 := (hb'.put (o := .lst (iL r)) hp).put (o := .lst (iL (trim r))) hp2
  have n5 := (hb'.put (o := .lst (iL r)) hp).ne hp2
  have g5 : put (put G' p (.lst (iL r))) p2 (.lst (iL (trim r))) p2 = some (.lst (iL (trim r))) := put_same
  have l5 : (trim r).length ≤ many + 1 := Nat.le_trans (trimP_le _) (by omega)
  have t5 : Trm (trim r) := tr_trim r
  have d5 : Bd 11 (trim r) := (bd_of hP (by decide)).trim
  generalize put (put G' p (.lst (iL r))) p2 (.lst (iL (trim r))) = G5 at *
  have ef : (many : Int).fdiv 2 = ((many / 2 : Nat) : Int) := by rw [Int.fdiv_eq_ediv_of_nonneg _ (by decide)]; rfl
  have lg2 : Pyl 2 := by decide +kernel
  by_cases h0 : way = 0
  · exact ite_l (.inr ⟨h0, fin _ p2 _ 11 _ b5 (by omega) n5 g5 t5 (by omega) d5 (by omega)⟩)
  refine ite_l (.inl ⟨h0, ?_⟩)
  by_cases h1' : way = 1
  · refine ite_l (.inr ⟨h1', ?_⟩)
    refine ⟨a, many, _, rfl, b5.self, by omega, by omega, fun p3 r3 G6 b6 n6 g6 t6 l6 d6 => ?_⟩
    have f6 := sqAt_some.mpr g6
    simp [f6]
    intro p4 hp4
    have em : (most : Int) + 1 = ((most + 1 : Nat) : Int) := by omega
    rw [em, cut_to', ← List.map_take]
    refine ⟨.ref p4, r3.take (most + 1), rfl, by simp [sqOf], fun p5 hp5 => ?_⟩
    refine fin _ p5 (trim (r3.take (most + 1))) _ _ (((b5.trans b6).put hp4).put hp5) (by omega) ((((b5.trans b6).put hp4)).ne hp5) put_same (tr_trim _) (Nat.le_trans (trimP_le _) (by rw [List.length_take]; omega)) (Bd.trim fun c hc => d6 c (List.mem_of_mem_take hc)) (by omega)
  refine ite_l (.inl ⟨h1', ?_⟩)
  by_cases h2' : way = 2
  · refine ite_l (.inr ⟨h2', lg2, ?_⟩)
    rw [ef]
    generalize hh : many / 2 = hf at *
    simp only [Int.toNat_natCast]
    refine ⟨by omega, by omega, by rw [rangeL_length]; omega, lc_draw (n := hf) (P := fun c => c.natAbs ≤ 10) b5 (fun i G' K hi hbi kp hK => ?_) (fun r1 G6 hr1 hP1 b6 kp p3 hp3 => ?_)⟩
    · simp [h1]
      refine take_b hbi (by omega) (by decide) (by decide) fun d G'' y0 y1 b e => ?_
      simp
      exact hK _ _ (by omega) b e
    have b7 := b6.put (o := .lst (iL r1)) hp3
    have n7 := b6.ne hp3
    have g7 : put G6 p3 (.lst (iL r1)) p3 = some (.lst (iL r1)) := put_same
    generalize put G6 p3 (.lst (iL r1)) = G7 at *
    refine take_b b7 (by omega) (by decide) (by decide) fun c1 G8 y0 y1 b8 e8 => ?_
    simp
    intro p4 hp4
    have g8 := e8 _ _ n7 g7
    refine ⟨iL r1, by rw [put_ne (ne_free g8 hp4)]; exact g8, by simp; omega, fun p5 hp5 => ?_⟩
    have b9 := (b8.put (o := .lst [.int (1 + c1)]) hp4).put (o := .lst (iL r1 ++ [.int (1 + c1)])) hp5
    have n9 := (b8.put (o := .lst [.int (1 + c1)]) hp4).ne hp5
    have g9 : put (put G8 p4 (.lst [.int (1 + c1)])) p5 (.lst (iL r1 ++ [.int (1 + c1)])) p5 = some (.lst (iL (r1 ++ [1 + c1]))) := by rw [put_same]; simp [iL]
    generalize put (put G8 p4 (.lst [.int (1 + c1)])) p5 (.lst (iL r1 ++ [.int (1 + c1)])) = G9 at *
    have d9 : Bd 4 (r1 ++ [1 + c1]) := (bd_of hP1 (by decide)).app (Bd.cons (by unfold Sz; omega) Bd.nil)
    have l9 : (r1 ++ [1 + c1]).length = hf + 1 := by simp; omega
    generalize r1 ++ [1 + c1] = one at *
    have es : ((many : Int) - (hf : Int)) = ((many - hf : Nat) : Int) := by omega
    simp only [es, Int.toNat_natCast]
    refine ⟨by omega, by omega, by rw [rangeL_length]; omega, lc_draw (n := many - hf) (P := fun c => c.natAbs ≤ 10) b9 (fun i G' K hi hbi kp hK => ?_) (fun r2 G10 hr2 hP2 b10 kp10 p6 hp6 => ?_)⟩
    · simp [h1]
      refine take_b hbi (by omega) (by decide) (by decide) fun d G'' y0 y1 b e => ?_
      simp
      exact hK _ _ (by omega) b e
    intro p7 hp7
    have b11 := b10.put (o := .lst (iL r2)) hp6
    have g11 : put G10 p6 (.lst (iL r2)) p6 = some (.lst (iL r2)) := put_same
    have g11o : put G10 p6 (.lst (iL r2)) p5 = some (.lst (iL one)) := by
      have := kp10 _ _ n9 g9
      rw [put_ne (ne_free this hp6)]; exact this
    generalize put G10 p6 (.lst (iL r2)) = G11 at *
    refine ⟨iL r2, by rw [put_ne (ne_free g11 hp7)]; exact g11, by simp; omega, fun p8 hp8 => ?_⟩
    have b12 := (b11.put (o := .lst [.int 1]) hp7).put (o := .lst (iL r2 ++ [.int 1])) hp8
    have g12 : put (put G11 p7 (.lst [.int 1])) p8 (.lst (iL r2 ++ [.int 1])) p8 = some (.lst (iL (r2 ++ [1]))) := by rw [put_same]; simp [iL]
    have g12o : put (put G11 p7 (.lst [.int 1])) p8 (.lst (iL r2 ++ [.int 1])) p5 = some (.lst (iL one)) := by
      have h1 : put G11 p7 (.lst [.int 1]) p5 = some (.lst (iL one)) := by rw [put_ne (ne_free g11o hp7)]; exact g11o
      rw [put_ne (ne_free h1 hp8)]; exact h1
    generalize put (put G11 p7 (.lst [.int 1])) p8 (.lst (iL r2 ++ [.int 1])) = G12 at *
    have d12 : Bd 4 (r2 ++ [1]) := (bd_of hP2 (by decide)).app (Bd.cons (by unfold Sz; decide) Bd.nil)
    have l12 : (r2 ++ [1]).length = many - hf + 1 := by simp; omega
    have lp := pmul_len one (r2 ++ [1])
    refine ⟨p5, p8, one, r2 ++ [1], 4, 4, rfl, g12o, g12, by omega, by omega, d9, d12, by omega, fun p9 hp9 => ?_⟩
    exact fin _ p9 _ _ _ (b12.put hp9) (by omega) (b12.ne hp9) put_same (trm_pmul _ _) (by omega) (Bd.pmul d9 d12 (by omega)) (by omega)
  refine ite_l (.inl ⟨h2', ?_⟩)
  by_cases h3' : way = 3
  · refine ite_l (.inr ⟨h3', ?_⟩)
    intro p3 hp3
    have b6 := b5.put (o := .lst [.int 0]) hp3
    generalize put G5 p3 (.lst [.int 0]) = G6 at *
    refine ⟨by omega, by omega, by omega, fun p4 hp4 => ?_⟩
    have n4 := b6.ne hp4
    have fr4 := b6.fresh hp4
    have ez : List.replicate (many + 1) (D.int 0) = iL (List.replicate (many + 1) 0) := by simp [iL]
    rw [ez]
    refine for_rule (fun i σ G' => ∃ (r' : List Int) (s10 : Option D), σ = [some (.ref a), some (.int most), some (.int wide), some (.ref p2), some (.int way), some (.int many), none, none, none, some (.ref p4), s10, none, none] ∧ G' p4 = some (.lst (iL r')) ∧ r'.length = many + 1 ∧ (∀ c ∈ r', c.natAbs ≤ 2000) ∧ Bx (B + 1 + 1 + 1 + ((many + 1 : Nat) : Int) + 2 * i) a G G') ⟨List.replicate (many + 1) 0, none, rfl, put_same, by simp, fun c hc => by rw [(List.mem_replicate.mp hc).2]; simp, by simpa using b6.put hp4⟩ (fun _ _ _ _ _ => srcOk_nil) ?_ ?_
    · rintro i d σ G' Kn hd ⟨r', s10, rfl, gr, lr, hr', br⟩ hK
      obtain ⟨hi, rfl⟩ := range_get hd
      have hi3 : i < 3 := hi
      simp [h1]
      refine ⟨.of_left (intBits_le_64 (by decide) (by decide)), take_b br (by omega) (by omega) (by omega) fun c1 G7 y0 y1 b7 e7 => ?_⟩
      simp
      refine take_b b7 (by omega) (by omega) (by omega) fun c2 G8 z0 z1 b8 e8 => ?_
      obtain ⟨c2, rfl⟩ : ∃ m : Nat, c2 = m := ⟨c2.toNat, by omega⟩
      have g8 := e8 _ _ n4 (e7 _ _ n4 gr)
      simp
      refine ⟨iL r', g8, c2, ixN_nat (by simp; omega), hK _ _ ⟨r'.set c2 (c1 - wide), some (.int i), rfl, ?_, by simp [lr], ?_, ?_⟩⟩
      · rw [put_same]
        exact congrArg (fun l => some (DO.lst l)) List.map_set.symm
      · intro c hc
        rcases List.mem_or_eq_of_mem_set hc with q | q
        · exact hr' c q
        · rw [q]; omega
      · exact (b8.write n4 fr4).mono (by omega)
    · rintro σ G' ⟨r', s10, rfl, gr, lr, hr', br⟩
      rw [rangeL_length] at br
      simp
      refine ⟨.ref p4, r', rfl, by simp [sqOf, sqAt_some, gr], fun p5 hp5 => ?_⟩
      exact fin _ p5 (trim r') _ _ (br.put hp5) (by omega) (br.ne hp5) put_same (tr_trim _) (Nat.le_trans (trimP_le _) (by omega)) (Bd.trim (bd_of (n := 11) hr' (by decide))) (by omega)
  refine ite_l (.inl ⟨h3', ?_⟩)
  by_cases h4' : way = 4
  · refine ite_l (.inr ⟨h4', lg2, ?_⟩)
    rw [ef]
    generalize hh : many / 2 = hf at *
    have es : ((hf : Int) + 1) = ((hf + 1 : Nat) : Int) := by omega
    simp only [es, Int.toNat_natCast]
    refine ⟨by omega, by omega, by rw [rangeL_length]; omega, lc_draw (n := hf + 1) (P := fun c => c.natAbs ≤ 10) b5 (fun i G' K hi hbi kp hK => ?_) (fun r1 G6 hr1 hP1 b6 kp p3 hp3 p4 hp4 => ?_)⟩
    · simp [h1]
      refine take_b hbi (by omega) (by decide) (by decide) fun d G'' y0 y1 b e => ?_
      simp
      exact hK _ _ (by omega) b e
    have b7 := (b6.put (o := .lst (iL r1)) hp3).put (o := .lst (iL r1).reverse) hp4
    have g7 : put (put G6 p3 (.lst (iL r1))) p4 (.lst (iL r1).reverse) p3 = some (.lst (iL r1)) := by
      have h1 : put G6 p3 (.lst (iL r1)) p3 = some (.lst (iL r1)) := put_same
      rw [put_ne (ne_free h1 hp4)]; exact h1
    generalize put (put G6 p3 (.lst (iL r1))) p4 (.lst (iL r1).reverse) = G7 at *
    have e3 : iL r1 ++ (iL r1).reverse = iL (r1 ++ r1.reverse) := by simp [iL]
    refine ⟨iL r1, g7, by simp; omega, fun p5 hp5 p6 hp6 => ?_⟩
    have em : (most : Int) + 1 = ((most + 1 : Nat) : Int) := by omega
    rw [e3] at hp6 ⊢
    rw [em, cut_to', ← List.map_take]
    have d9 : Bd 4 (r1 ++ r1.reverse) := (bd_of hP1 (by decide)).app fun c hc => bd_of hP1 (by decide) c (List.mem_reverse.mp hc)
    generalize r1 ++ r1.reverse = two at *
    refine ⟨.ref p6, two.take (most + 1), rfl, by simp [sqOf], fun p7 hp7 => ?_⟩
    have b8 := (b7.put (o := .lst (iL two)) hp5).put (o := .lst (iL (two.take (most + 1)))) hp6
    exact fin _ p7 (trim (two.take (most + 1))) _ _ (b8.put hp7) (by omega) (b8.ne hp7) put_same (tr_trim _) (Nat.le_trans (trimP_le _) (by rw [List.length_take]; omega)) (Bd.trim fun c hc => d9 c (List.mem_of_mem_take hc)) (by omega)
  refine ite_l (.inl ⟨h4', ?_⟩)
  by_cases h5' : way = 5
  · refine ite_l (.inr ⟨h5', lg2, ?_⟩)
    rw [ef]
    generalize hh : many / 2 = hf at *
    simp only [Int.toNat_natCast]
    refine ⟨by omega, by omega, by rw [rangeL_length]; omega, lc_draw (n := hf) (P := fun c => c.natAbs ≤ 10) b5 (fun i G' K hi hbi kp hK => ?_) (fun r1 G6 hr1 hP1 b6 kp p3 hp3 p4 hp4 => ?_)⟩
    · simp [h1]
      refine take_b hbi (by omega) (by decide) (by decide) fun d G'' y0 y1 b e => ?_
      simp
      exact hK _ _ (by omega) b e
    have b7 := (b6.put (o := .lst (iL r1)) hp3).put (o := .lst [.int 1]) hp4
    have g7 : put (put G6 p3 (.lst (iL r1))) p4 (.lst [.int 1]) p3 = some (.lst (iL r1)) := by
      have h1 : put G6 p3 (.lst (iL r1)) p3 = some (.lst (iL r1)) := put_same
      rw [put_ne (ne_free h1 hp4)]; exact h1
    generalize put (put G6 p3 (.lst (iL r1))) p4 (.lst [.int 1]) = G7 at *
    have e3 : iL r1 ++ [D.int 1] = iL (r1 ++ [1]) := by simp [iL]
    refine ⟨iL r1, g7, by simp; omega, fun p5 hp5 => ?_⟩
    rw [e3]
    have d9 : Bd 4 (r1 ++ [1]) := (bd_of hP1 (by decide)).app (Bd.cons (by unfold Sz; decide) Bd.nil)
    have l9 : (r1 ++ [1]).length = hf + 1 := by simp; omega
    generalize r1 ++ [1] = one at *
    have lp := pmul_len one one
    have dp := Bd.pmul d9 d9 (by omega)
    refine ⟨p5, p5, one, one, 4, 4, rfl, put_same, put_same, by omega, by omega, d9, d9, by omega, fun p6 hp6 => ?_⟩
    have b8 := (b7.put (o := .lst (iL one)) hp5).put (o := .lst (iL (pmul one one))) hp6
    have n8 := (b7.put (o := .lst (iL one)) hp5).ne hp6
    have g8 : put (put G7 p5 (.lst (iL one))) p6 (.lst (iL (pmul one one))) p6 = some (.lst (iL (pmul one one))) := put_same
    generalize put (put G7 p5 (.lst (iL one))) p6 (.lst (iL (pmul one one))) = G8 at *
    refine take_b b8 (by omega) (by decide) (by decide) fun c1 G9 y0 y1 b9 e9 => ?_
    simp
    intro p7 hp7
    have g9 := e9 _ _ n8 g8
    refine ⟨p6, p7, pmul one one, [c1 - 2], rfl, by rw [put_ne (ne_free g9 hp7)]; exact g9, put_same, by omega, by simp, fun p8 hp8 => ?_⟩
    have b10 := b9.put (o := .lst [.int (c1 - 2)]) hp7
    have la := padd_len (pmul one one) [c1 - 2]
    refine fin _ p8 _ _ _ (b10.put hp8) (by omega) (b10.ne hp8) put_same (trm_padd _ _) ?_ (Bd.padd dp (Bd.cons (by unfold Sz; omega) Bd.nil)) (by omega)
    have : max (pmul one one).length [c1 - 2].length ≤ most + 1 := Nat.max_le.mpr ⟨by omega, by simp⟩
    omega
  refine ite_l (.inl ⟨h5', ?_⟩)
  refine ⟨by omega, by rw [rangeL_length]; omega, lc_draw (n := many) (P := fun c => c.natAbs ≤ 2000) b5 (fun i G' K hi hbi kp hK => ?_) (fun r1 G6 hr1 hP1 b6 kp p3 hp3 p4 hp4 => ?_)⟩
  · simp [h1]
    refine ⟨.of_left (intBits_le_64 (by decide) (by decide)), take_b hbi (by omega) (by omega) (by omega) fun d G'' y0 y1 b e => ?_⟩
    simp
    exact hK _ _ (by omega) b e
  have b7 := (b6.put (o := .lst (iL r1)) hp3).put (o := .lst [.int 1]) hp4
  have g7 : put (put G6 p3 (.lst (iL r1))) p4 (.lst [.int 1]) p3 = some (.lst (iL r1)) := by
    have h1 : put G6 p3 (.lst (iL r1)) p3 = some (.lst (iL r1)) := put_same
    rw [put_ne (ne_free h1 hp4)]; exact h1
  generalize put (put G6 p3 (.lst (iL r1))) p4 (.lst [.int 1]) = G7 at *
  have e3 : iL r1 ++ [D.int 1] = iL (r1 ++ [1]) := by simp [iL]
  refine ⟨iL r1, g7, by simp; omega, fun p5 hp5 => ?_⟩
  rw [e3]
  exact fin _ p5 (r1 ++ [1]) 11 _ (b7.put hp5) (by omega) (b7.ne hp5) put_same (tr_snoc (by simp [isz])) (by simp; omega) ((bd_of hP1 (by decide)).app (Bd.cons (by unfold Sz; decide) Bd.nil)) (by omega)
def S_f_law_one : DSp := fun ds G Q _ => ∃ (a : Addr) (B : Int), ds = [.ref a] ∧ Bx B a G G ∧ B < 700000000 ∧ ∀ (r : List Int) (G' : DH), Bx (B + 600) a G G' → Trm r → r.length ≤ 13 → Bd 1000 r → Q (tI r) G'
theorem run_f_law_one {Γ : GE} (h1 : Fn Γ "_law_take" ["box", "many"] S_f_law_take) (h2 : Fn Γ "_law_drawn" ["box", "most"] S_f_law_drawn) {ds : List D} {G : DH} {Q : QD} {E : ED} (hl : ds.length = 1) (h : S_f_law_one ds G Q E) : Runs Γ m_f_law_one 2 ds G Q E := by
  obtain ⟨k1, d1, h1⟩ := h1
  obtain ⟨k2, d2, h2⟩ := h2
  obtain ⟨a, B, rfl, hb, hB, q⟩ := h
  unfold Runs m_f_law_one
  simp [startD, dEnds, List.replicate, h1, h2]
  refine take_b hb (by omega) (by decide) (by decide) fun way G1 w0 w1 b1 e1 => ?_
  simp
  by_cases h0 : way = 0
  · exact ite_l (.inr ⟨h0, G1, .refl, q [] G1 (b1.mono (by omega)) tr_nil (by simp) Bd.nil⟩)
  refine ite_l (.inl ⟨h0, ?_⟩)
  by_cases h1' : way = 1
  · refine ite_l (.inr ⟨h1', ?_⟩)
    refine take_b b1 (by omega) (by decide) (by decide) fun c1 G2 y0 y1 b2 e2 => ?_
    simp
    refine take_b b2 (by omega) (by decide) (by decide) fun c2 G3 z0 z1 b3 e3 => ?_
    simp
    have hc : c2 = 0 ∨ c2 = 1 := by omega
    refine ⟨.of_left (intBits_le_64 (by decide) (by decide)), .of_left (intBits_le_64 (by omega) (by omega)), G3, .refl, ?_⟩
    refine q [(1 + c1) * (1 - 2 * c2)] G3 (b3.mono (by omega)) (tr_snoc (l := []) ?_) (by simp) (Bd.cons ?_ Bd.nil)
    · rcases hc with rfl | rfl <;> (simp [isz]; omega)
    · rcases hc with rfl | rfl <;> (unfold Sz; simp; omega)
  refine ite_l (.inl ⟨h1', ?_⟩)
  have go : ∀ (m : Nat) (B' : Int) (G' : DH), m ≤ 12 → Bx B' a G G' → B' ≤ B + 10 → S_f_law_drawn [.ref a, .int m] G' (fun x G1 => bi1 .tuple x G1 fun x G1 => ∃ G2, Sub G2 G1 ∧ Q x G2) fun xd G2 => ∃ G2_1, Sub G2_1 G2 ∧ E xd G2_1 := by
    intro m B' G' hm b hB'
    refine ⟨a, m, B', rfl, b.self, by omega, by omega, fun p r G2 b2 n2 g2 t2 l2 d2 => ?_⟩
    have f2 := sqAt_some.mpr g2
    simp [f2]
    exact ⟨G2, .refl, q r G2 ((b.trans b2).mono (by omega)) t2 (by omega) d2⟩
  by_cases h2' : 2 < way
  · refine ite_l (.inr ⟨h2', fun p hp => ?_⟩)
    have b2 := b1.put (o := .lst [.int 3, .int 4, .int 2, .int 5, .int 4, .int 3, .int 6, .int 8]) hp
    have n2 := b1.ne hp
    have g2 : put G1 p (.lst [.int 3, .int 4, .int 2, .int 5, .int 4, .int 3, .int 6, .int 8]) p = some (.lst [.int 3, .int 4, .int 2, .int 5, .int 4, .int 3, .int 6, .int 8]) := put_same
    generalize put G1 p (.lst [.int 3, .int 4, .int 2, .int 5, .int 4, .int 3, .int 6, .int 8]) = G2 at *
    refine take_b b2 (by omega) (by decide) (by decide) fun c1 G3 y0 y1 b3 e3 => ?_
    obtain ⟨w, hw, pw⟩ := pick (ns := [3, 4, 2, 5, 4, 3, 6, 8]) y0 y1
    have pw' : atI [D.int 3, D.int 4, D.int 2, D.int 5, D.int 4, D.int 3, D.int 6, D.int 8] c1 = some (D.int w) := pw
    have hw : 0 ≤ w ∧ w ≤ 8 := by
      simp at hw
      omega
    have f3 := sqAt_some.mpr (e3 _ _ n2 g2)
    obtain ⟨m, rfl⟩ : ∃ m : Nat, w = m := ⟨w.toNat, by omega⟩
    simp [f3, pw']
    exact go m _ G3 (by omega) b3 (by omega)
  · exact ite_l (.inl ⟨by omega, go 12 _ G1 (by omega) b1 (by omega)⟩)
end DL.LW

set_option Elab.async false
set_option linter.all false
set_option maxRecDepth 100000
set_option maxHeartbeats 4000000
set_option exponentiation.threshold 10000
namespace DL.LW
open PySem PySem.Spec PyProof.Rows L2 DL TL PM
/-! V1: k04: exact division. -/
def qoD : Option (List Int) → D
  | none => .non
  | some q => tI q
theorem lstI_at {n k : Nat} {f : PS Int} (h : k < n) : (iL (lst n f))[k]? = some (.int (f.c k)) := by
  unfold iL
  rw [List.getElem?_map, lst_get h]; rfl
theorem iL_set {l : List Int} {k : Nat} {x : Int} : (iL l).set k (.int x) = iL (l.set k x) := List.map_set.symm
theorem mul_at_len {L M n : Nat} (h : L + (n + 1) * (M + 1) ≤ 100000000) {i : Nat} (hi : i ≤ n) : L + i * (M + 1) + M + 1 ≤ 100000000 := by
  have := Nat.mul_le_mul_right (M + 1) hi
  rw [Nat.succ_mul] at h
  omega
theorem subI_wr {G G' : DH} (s : Sub G G') {q : Addr} {o : DO} (h : G q = none) : Sub G (put G' q o) := fun b u e => by
  rw [put_ne (fun z => by rw [z, h] at e; cases e)]
  exact s b u e
def S_quotient_of : DSp := fun ds G Q _ => ∃ (a b : List Int) (L M : Nat), ds = [tI a, tI b] ∧ a.length ≤ 900 ∧ b.length ≤ 900 ∧ Trm b ∧ b ≠ [] ∧ Bd L a ∧ Bd M b ∧ L + (a.length + 1 - b.length + 1) * (M + 1) ≤ 100000000 ∧ Q (qoD (quoO a b)) G
theorem div_cancel {x y : Int} (h : ¬ x.fmod y ≠ 0) : x.fdiv y * y = x := by
  have := Int.fmod_add_mul_fdiv x y
  rw [Int.mul_comm]
  omega
theorem run_quotient_of {Γ : GE} (h1 : Fn Γ "trimmed" ["items"] S_trimmed) {ds : List D} {G : DH} {Q : QD} {E : ED} (hl : ds.length = 2) (h : S_quotient_of ds G Q E) : Runs Γ m_quotient_of 8 ds G Q E := by
  obtain ⟨k1, d1, h1⟩ := h1
  obtain ⟨a, b, L, M, rfl, la, lb, tb, hb, ba, bb, hs, q⟩ := h
  have hsz := sizeLine_eq
  have lbp : 0 < b.length := List.length_pos_iff.mpr hb
  have hlast := lastI_get hb
  have hlead : lastI b ≠ 0 := lead_ne tb hb
  unfold Runs m_quotient_of
  simp [startD, dEnds, List.replicate, h1]
  intro pL hpL pT hpT
  have en : max (0 : Int) ((a.length : Int) - b.length + 1) = ((a.length + 1 - b.length : Nat) : Int) := by omega
  rw [en]
  refine ⟨by omega, by omega, by omega, fun pF hF => ?_⟩
  have e0 : List.replicate ((a.length + 1 - b.length : Nat) : Int).toNat (D.int 0) = iL (lst (a.length + 1 - b.length) 0) := by rw [lst_zero, Int.toNat_natCast]; simp [iL]
  rw [e0]
  have hNe : a.length + 1 - b.length = a.length + 1 - b.length := rfl
  generalize hN : a.length + 1 - b.length = N at *
  have gL : put (put (put G pL (.lst (iL a))) pT (.lst [.int 0])) pF (.lst (iL (lst N 0))) pL = some (.lst (iL a)) := (Sub.put hF) _ _ ((Sub.put hpT (o := .lst [.int 0])) _ _ put_same)
  have gF : put (put (put G pL (.lst (iL a))) pT (.lst [.int 0])) pF (.lst (iL (lst N 0))) pF = some (.lst (iL (lst N 0))) := put_same
  have sG : Sub G (put (put (put G pL (.lst (iL a))) pT (.lst [.int 0])) pF (.lst (iL (lst N 0)))) := ((Sub.put hpL).trans (.put hpT)).trans (.put hF)
  have nLF : pL ≠ pF := ne_free (show put (put G pL (.lst (iL a))) pT (.lst [.int 0]) pL = some (.lst (iL a)) from (Sub.put hpT) _ _ put_same) hF
  have fL0 : G pL = none := hpL
  have fF : G pF = none := Sub.free (Sub.trans (Sub.put (o := .lst (iL a)) hpL) (Sub.put (o := .lst [.int 0]) hpT)) hF
  generalize put (put (put G pL (.lst (iL a))) pT (.lst [.int 0])) pF (.lst (iL (lst N 0))) = G1 at *
  have fF1 := sqAt_some.mpr gF
  refine ⟨N, ?_, ?_⟩
  · have := RgC.neg (i := (N : Int) - 1) (j := -1) (by omega) (by omega) (by omega) (by omega)
    rwa [show ((N : Int) - 1 - -1).toNat = N by omega] at this
  have ea : lst a.length (toS a) = a := lst_toS rfl
  refine for_rule (fun i σ G' => ∃ (s2 s5 s6 s7 : Option D) (f g : PS Int), σ = [some (tI a), some (tI b), s2, some (.ref pL), some (.ref pF), s5, s6, s7] ∧
      G' pL = some (.lst (iL (lst a.length f))) ∧ G' pF = some (.lst (iL (lst N g))) ∧ Sub G G' ∧ DivSt a b i f g ∧ Bs (L + i * (M + 1)) f) ⟨_, _, _, _, toS a, 0, rfl, by rw [ea]; exact gL, gF, sG, .start a b, (bs_of ba).mono (by omega)⟩ (fun _ _ _ _ _ => srcOk_nil) ?_ ?_
  · rintro i d σ G' Kn hd ⟨s2, s5, s6, s7, f, g, rfl, gL, gF, sG, DS, DZ⟩ hK
    obtain ⟨hi, rfl⟩ := rangeL_get hd
    have ej : ((N : Int) - 1 + (i : Int) * -1) = ((N - 1 - i : Nat) : Int) := by omega
    rw [ej]
    generalize ht : N - 1 - i = t at *
    have fL := sqAt_some.mpr gL
    simp only [gD_app, wp63, bD_app]
    simp [fL, h1, hlast]
    have e1 : ((t : Int) + (b.length : Int) - 1) = ((t + b.length - 1 : Nat) : Int) := by omega
    rw [e1]
    refine ⟨.int (f.c (t + b.length - 1)), by rw [atI_nat]; exact lstI_at (by omega), ?_⟩
    simp
    refine ⟨hlead, ?_⟩
    by_cases hm : (f.c (t + b.length - 1)).fmod (lastI b) = 0
    rotate_left
    · rw [if_neg hm]
      rw [quoO_no (quo_none tb hb DS (t := t) (by omega) (by omega) hm)] at q
      exact ⟨G, sG, q⟩
    rw [if_pos hm]
    have hc := div_cancel (x := f.c (t + b.length - 1)) (y := lastI b) (by omega)
    have hcS : Sz (L + i * (M + 1)) ((f.c (t + b.length - 1)).fdiv (lastI b)) := by
      have h1 := DZ (t + b.length - 1)
      rw [← hc] at h1
      unfold Sz at *
      rw [Int.natAbs_mul] at h1
      exact Nat.lt_of_le_of_lt (Nat.le_mul_of_pos_right _ (by omega)) h1
    generalize (f.c (t + b.length - 1)).fdiv (lastI b) = c at *
    refine ⟨hlead, trivial, _, gF, t, ixN_nat (by simp [lst_length]; omega), ?_⟩
    rw [iL_set, mono_set (DS.g0 t (by omega))]
    have D2 := divSt_stepI hb DS (t := t) (c := c) (by omega) (by omega) hc
    have Z2 := bs_step (t := t) DZ bb hcS
    have hsi := mul_at_len hs (i := i) (by omega)
    have es : L + i * (M + 1) + M + 1 = L + (i + 1) * (M + 1) := by rw [Nat.succ_mul]; omega
    have gL2 : put G' pF (.lst (iL (lst N (g + PS.mono c t)))) pL = some (.lst (iL (lst a.length (f - part c t b 0)))) := by rw [put_ne nLF, part_zero]; exact gL
    have gF2 : put G' pF (.lst (iL (lst N (g + PS.mono c t)))) pF = some (.lst (iL (lst N (g + PS.mono c t)))) := put_same
    have sG2 : Sub G (put G' pF (.lst (iL (lst N (g + PS.mono c t))))) := subI_wr sG fF
    have egt : (g + PS.mono c t).c t = c := by
      rw [PS.add_c, DS.g0 t (by omega), show (PS.mono c t).c t = c from if_pos rfl]; omega
    generalize put G' pF (.lst (iL (lst N (g + PS.mono c t)))) = G2 at *
    refine for_rule (fun j σ G' => ∃ (s6 s7 : Option D), σ = [some (tI a), some (tI b), some (.int t), some (.ref pL), some (.ref pF), some (.int (f.c (t + b.length - 1))), s6, s7] ∧
      G' pL = some (.lst (iL (lst a.length (f - part c t b j)))) ∧ G' pF = some (.lst (iL (lst N (g + PS.mono c t)))) ∧ Sub G G') ⟨_, _, rfl, gL2, gF2, sG2⟩ (fun _ _ _ _ _ => srcOk_nil) ?_ ?_
    · rintro j d σ G3 Kn2 hd2 ⟨s6, s7, rfl, gL3, gF3, sG3⟩ hK2
      obtain ⟨e, he, rfl⟩ := enumL_some hd2
      obtain ⟨hj, rfl⟩ := iL_some he
      have fL3 := sqAt_some.mpr gL3
      have fF3 := sqAt_some.mpr gF3
      have ec : ((t : Int) + (j : Int)) = ((t + j : Nat) : Int) := by omega
      have hbj : b[j] = b.getD j 0 := by rw [List.getD_eq_getElem?_getD, List.getElem?_eq_getElem hj]; rfl
      simp [fL3, fF3]
      rw [ec]
      refine ⟨.int ((f - part c t b j).c (t + j)), by rw [atI_nat]; exact lstI_at (by omega), .int c, by have := lstI_at (f := g + PS.mono c t) (n := N) (k := t) (by omega); rw [egt] at this; simpa using this, ?_⟩
      simp
      refine ⟨mulOk hcS (bb _ (List.getElem_mem hj)) (by omega), _, gL3, t + j, ixN_nat (by simp [lst_length]; omega), ?_⟩
      rw [iL_set, part_at, hbj, part_step]
      exact hK2 _ _ ⟨_, _, rfl, put_same, by rw [put_ne (Ne.symm nLF)]; exact gF3, subI_wr sG3 fL0⟩
    · rintro σ G3 ⟨s6, s7, rfl, gL3, gF3, sG3⟩
      rw [enumL_length, List.length_map, part_end] at gL3
      exact hK _ _ ⟨_, _, _, _, _, _, rfl, gL3, gF3, sG3, D2, by rw [← es]; exact Z2⟩
  · rintro σ G' ⟨s2, s5, s6, s7, f, g, rfl, gL, gF, sG, DS, DZ⟩
    rw [rangeL_length] at DS DZ
    rw [← hN] at DS gF
    have qe := quo_end tb hb DS
    have fL := sqAt_some.mpr gL
    have fF := sqAt_some.mpr gF
    simp
    refine ⟨lst a.length f, by simp [sqOf]; exact fL, by rw [lst_length]; omega, eqT_i0 ?_⟩
    rw [qe] at q
    by_cases hz : trim (lst a.length f) = []
    · rw [if_pos hz] at q
      rw [hz]
      simp
      exact ⟨_, by simp [sqOf]; exact fF, by rw [lst_length]; omega, G, sG, q⟩
    · rw [if_neg hz] at q
      have : (trim (lst a.length f)).isEmpty = false := by simpa using hz
      rw [this]
      simp
      exact ⟨G, sG, q⟩
end DL.LW

set_option Elab.async false
set_option linter.all false
set_option maxRecDepth 100000
set_option maxHeartbeats 4000000
set_option exponentiation.threshold 10000
namespace DL.LW
open PySem PySem.Spec PyProof.Rows L2 DL TL PM
/-! V2: k04: pseudo division. -/
theorem iL_mapK {n : Nat} {f : PS Int} (k : Int) : (iL (lst n f)).map (fun d => match d with | .int i => D.int (k * i) | d => d) = iL (lst n (PS.K k * f)) := by
  unfold iL PM.lst
  rw [List.map_map, List.map_map, List.map_map]
  refine List.map_congr_left fun i _ => ?_
  show D.int (k * f.c i) = D.int ((PS.K k * f).c i)
  rw [PS.K_mul]
def scR (k : Int) : D → D
  | .int i => .int (i * k)
  | d => d
theorem iL_scR {n : Nat} {f : PS Int} (k : Int) : (iL (lst n f)).map (scR k) = iL (lst n (PS.K k * f)) := by
  rw [← iL_mapK]
  refine List.map_congr_left fun d _ => ?_
  cases d <;> simp [scR, Int.mul_comm]
theorem bs_lead {b : List Int} {M : Nat} (hb : b ≠ []) (bb : Bd M b) : Sz M (lastI b) := by
  have := bs_of bb (b.length - 1)
  rw [← lastI_c] at this
  exact this
theorem lst_mem {n : Nat} {f : PS Int} {L : Nat} (h : Bs L f) {d : D} (hd : d ∈ iL (lst n f)) : ∃ c, d = .int c ∧ Sz L c := by
  obtain ⟨c, hc, rfl⟩ := List.mem_map.mp hd
  exact ⟨c, rfl, bd_lst h c hc⟩
def S_pseudo_rest_of : DSp := fun ds G Q _ => ∃ (a b : List Int) (L M : Nat), ds = [tI a, tI b] ∧ a.length ≤ 900 ∧ b.length ≤ 900 ∧ b ≠ [] ∧ Bd L a ∧ Bd M b ∧ L + (a.length + 1 - b.length + 1) * (M + 1) ≤ 100000000 ∧ Q (tI (psrL a b)) G
theorem run_pseudo_rest_of {Γ : GE} (h1 : Fn Γ "trimmed" ["items"] S_trimmed) {ds : List D} {G : DH} {Q : QD} {E : ED} (hl : ds.length = 2) (h : S_pseudo_rest_of ds G Q E) : Runs Γ m_pseudo_rest_of 7 ds G Q E := by
  obtain ⟨k1, d1, h1⟩ := h1
  obtain ⟨a, b, L, M, rfl, la, lb, hb, ba, bb, hs, q⟩ := h
  have hsz := sizeLine_eq
  have lbp : 0 < b.length := List.length_pos_iff.mpr hb
  have hlast := lastI_get hb
  have bl := bs_lead hb bb
  unfold psrL at q
  unfold Runs m_pseudo_rest_of
  simp [startD, dEnds, List.replicate, h1]
  intro pL hpL
  generalize hN : a.length + 1 - b.length = N at *
  have gL : put G pL (.lst (iL a)) pL = some (.lst (iL a)) := put_same
  have sG : Sub G (put G pL (.lst (iL a))) := Sub.put hpL
  generalize put G pL (.lst (iL a)) = G1 at *
  refine ⟨N, ?_, ?_⟩
  · have := RgC.neg (i := (a.length : Int) - b.length) (j := -1) (by omega) (by omega) (by omega) (by omega)
    rwa [show ((a.length : Int) - b.length - -1).toNat = N by omega] at this
  have ea : lst a.length (toS a) = a := lst_toS rfl
  refine for_rule (fun i σ G' => ∃ (s3 s4 s5 s6 : Option D) (pL : Addr) (f : PS Int), σ = [some (tI a), some (tI b), some (.ref pL), s3, s4, s5, s6] ∧
      G' pL = some (.lst (iL (lst a.length f))) ∧ Sub G G' ∧ Bs (L + i * (M + 1)) f ∧ prs b (N - i) f = prs b N (toS a)) ⟨_, _, _, _, pL, toS a, rfl, by rw [ea]; exact gL, sG, (bs_of ba).mono (by omega), rfl⟩ (fun _ _ _ _ _ => srcOk_nil) ?_ ?_
  · rintro i d σ G' Kn hd ⟨s3, s4, s5, s6, pL, f, rfl, gL, sG, DZ, DP⟩ hK
    obtain ⟨hi, rfl⟩ := rangeL_get hd
    have ej : ((a.length : Int) - b.length + (i : Int) * -1) = ((N - 1 - i : Nat) : Int) := by omega
    rw [ej]
    generalize ht : N - 1 - i = t at *
    have fL := sqAt_some.mpr gL
    have hsi := mul_at_len hs (i := i) (by omega)
    simp only [gD_app, wp63, bD_app]
    simp [fL, hlast]
    have e1 : ((t : Int) + (b.length : Int) - 1) = ((t + b.length - 1 : Nat) : Int) := by omega
    rw [e1]
    refine ⟨.int (f.c (t + b.length - 1)), by rw [atI_nat]; exact lstI_at (by omega), ?_⟩
    simp
    refine ⟨by rw [lst_length]; omega, lc_all (fun d => match d with | .int i => .int (lastI b * i) | d => d) (srcOk_one fL) (fun d hd K1 K0 z => ?_) ?_⟩
    · obtain ⟨c, rfl, hc⟩ := lst_mem DZ hd
      simp [hlast]
      exact ⟨mulOk bl hc (by omega), z⟩
    intro pN hpN
    rw [iL_mapK]
    have fN : G pN = none := Sub.free sG hpN
    have gN : put G' pN (.lst (iL (lst a.length (PS.K (lastI b) * f)))) pN = some (.lst (iL (lst a.length (PS.K (lastI b) * f - part (f.c (t + b.length - 1)) t b 0)))) := by rw [part_zero]; exact put_same
    have sN : Sub G (put G' pN (.lst (iL (lst a.length (PS.K (lastI b) * f))))) := sG.trans (.put hpN)
    generalize put G' pN (.lst (iL (lst a.length (PS.K (lastI b) * f)))) = G2 at *
    have hcS := DZ (t + b.length - 1)
    have Z2 := bs_preS (p := t) DZ bb
    have es : L + i * (M + 1) + M + 1 = L + (i + 1) * (M + 1) := by rw [Nat.succ_mul]; omega
    have DP2 : prs b (N - (i + 1)) (preS b f t) = prs b N (toS a) := by
      rw [← DP, show N - i = t + 1 by omega, show N - (i + 1) = t by omega]; rfl
    unfold preS at Z2 DP2
    rw [show t + (b.length - 1) = t + b.length - 1 by omega] at Z2 DP2
    generalize f.c (t + b.length - 1) = c at *
    refine for_rule (fun j σ G' => ∃ (s5 s6 : Option D), σ = [some (tI a), some (tI b), some (.ref pN), some (.int t), some (.int c), s5, s6] ∧
      G' pN = some (.lst (iL (lst a.length (PS.K (lastI b) * f - part c t b j)))) ∧ Sub G G') ⟨_, _, rfl, gN, sN⟩ (fun _ _ _ _ _ => srcOk_nil) ?_ ?_
    · rintro j d σ G3 Kn2 hd2 ⟨s5, s6, rfl, gL3, sG3⟩ hK2
      obtain ⟨e, he, rfl⟩ := enumL_some hd2
      obtain ⟨hj, rfl⟩ := iL_some he
      have fL3 := sqAt_some.mpr gL3
      have ec : ((t : Int) + (j : Int)) = ((t + j : Nat) : Int) := by omega
      have hbj : b[j] = b.getD j 0 := by rw [List.getD_eq_getElem?_getD, List.getElem?_eq_getElem hj]; rfl
      simp [fL3]
      rw [ec]
      refine ⟨.int ((PS.K (lastI b) * f - part c t b j).c (t + j)), by rw [atI_nat]; exact lstI_at (by omega), ?_⟩
      simp
      refine ⟨mulOk hcS (bb _ (List.getElem_mem hj)) (by omega), _, gL3, t + j, ixN_nat (by simp [lst_length]; omega), ?_⟩
      rw [iL_set, part_at, hbj, part_step]
      exact hK2 _ _ ⟨_, _, rfl, put_same, subI_wr sG3 fN⟩
    · rintro σ G3 ⟨s5, s6, rfl, gL3, sG3⟩
      rw [enumL_length, List.length_map, part_end] at gL3
      exact hK _ _ ⟨_, _, _, _, pN, _, rfl, gL3, sG3, by rw [← es]; exact Z2, DP2⟩
  · rintro σ G' ⟨s3, s4, s5, s6, pL, f, rfl, gL, sG, DZ, DP⟩
    rw [rangeL_length, Nat.sub_self] at DP
    rw [← DP] at q
    have fL := sqAt_some.mpr gL
    simp
    exact ⟨lst a.length f, by simp [sqOf]; exact fL, by rw [lst_length]; omega, G, sG, q⟩
end DL.LW

set_option Elab.async false
set_option linter.all false
set_option maxRecDepth 100000
set_option maxHeartbeats 4000000
set_option exponentiation.threshold 10000
namespace DL.LW
open PySem PySem.Spec PyProof.Rows L2 DL TL PM
/-! V3: k04: the law's own divisions. -/
theorem subL_free {G G' : DH} (s : Sub G G') {p q : Addr} {o : DO} (hp : G p = some o) (hq : G' q = none) : p ≠ q := fun e => by
  have := s _ _ hp
  rw [e, hq] at this; cases this
def S_f_law_pseudo : DSp := fun ds G Q _ => ∃ (p1 p2 : Addr) (a b : List Int) (L M : Nat), ds = [.ref p1, .ref p2] ∧ G p1 = some (.lst (iL a)) ∧ G p2 = some (.lst (iL b)) ∧ Trm a ∧ a.length ≤ 900 ∧ b.length ≤ 900 ∧ b ≠ [] ∧ Bd L a ∧ Bd M b ∧ L + (a.length + 1 - b.length + 1) * (M + 1) ≤ 100000000 ∧ Q (tI (psrL a b)) G
theorem run_f_law_pseudo {Γ : GE} (h1 : Fn Γ "_law_trim" ["items"] S_f_law_trim) {ds : List D} {G : DH} {Q : QD} {E : ED} (hl : ds.length = 2) (h : S_f_law_pseudo ds G Q E) : Runs Γ m_f_law_pseudo 7 ds G Q E := by
  obtain ⟨k1, d1, h1⟩ := h1
  obtain ⟨p1, p2, a, b, L, M, rfl, g1, g2, ta, la, lb, hb, ba, bb, hs, q⟩ := h
  have hsz := sizeLine_eq
  have lbp : 0 < b.length := List.length_pos_iff.mpr hb
  have hlast := lastI_get hb
  have bl := bs_lead hb bb
  have f1 := sqAt_some.mpr g1
  have f2 := sqAt_some.mpr g2
  unfold Runs m_f_law_pseudo
  simp [startD, dEnds, List.replicate, h1, f1, f2]
  by_cases hab : a.length < b.length
  · refine ite_l (.inr ⟨hab, ?_⟩)
    rw [psrL_low ta hab] at q
    exact ⟨G, .refl, q⟩
  refine ite_l (.inl ⟨by omega, ?_⟩)
  unfold psrL at q
  intro pL hpL
  generalize hN : a.length + 1 - b.length = N at *
  have gL : put G pL (.lst (iL a)) pL = some (.lst (iL a)) := put_same
  have sG : Sub G (put G pL (.lst (iL a))) := Sub.put hpL
  generalize put G pL (.lst (iL a)) = G1 at *
  have f1 := sqAt_some.mpr (sG _ _ g1)
  have f2 := sqAt_some.mpr (sG _ _ g2)
  simp [f1, f2]
  refine ⟨N, ?_, ?_⟩
  · have := RgC.neg (i := (a.length : Int) - b.length) (j := -1) (by omega) (by omega) (by omega) (by omega)
    rwa [show ((a.length : Int) - b.length - -1).toNat = N by omega] at this
  have ea : lst a.length (toS a) = a := lst_toS rfl
  refine for_rule (fun i σ G' => ∃ (s3 s4 s5 s6 : Option D) (pL : Addr) (f : PS Int), σ = [some (.ref p1), some (.ref p2), some (.ref pL), s3, s4, s5, s6] ∧
      G' pL = some (.lst (iL (lst a.length f))) ∧ Sub G G' ∧ Bs (L + i * (M + 1)) f ∧ prs b (N - i) f = prs b N (toS a)) ⟨_, _, _, _, pL, toS a, rfl, by rw [ea]; exact gL, sG, (bs_of ba).mono (by omega), rfl⟩ (fun _ _ _ _ _ => srcOk_nil) ?_ ?_
  · rintro i d σ G' Kn hd ⟨s3, s4, s5, s6, pL, f, rfl, gL, sG, DZ, DP⟩ hK
    obtain ⟨hi, rfl⟩ := rangeL_get hd
    have ej : ((a.length : Int) - b.length + (i : Int) * -1) = ((N - 1 - i : Nat) : Int) := by omega
    rw [ej]
    generalize ht : N - 1 - i = t at *
    have fL := sqAt_some.mpr gL
    have f2 := sqAt_some.mpr (sG _ _ g2)
    have hsi := mul_at_len hs (i := i) (by omega)
    simp only [gD_app, wp63, bD_app]
    simp [fL, f2, hlast]
    have e1 : ((t : Int) + (b.length : Int) - 1) = ((t + b.length - 1 : Nat) : Int) := by omega
    rw [e1]
    refine ⟨.int (f.c (t + b.length - 1)), by rw [atI_nat]; exact lstI_at (by omega), ?_⟩
    simp
    refine ⟨by rw [lst_length]; omega, lc_all (scR (lastI b)) (srcOk_one fL) (fun d hd K1 K0 z => ?_) ?_⟩
    · obtain ⟨c, rfl, hc⟩ := lst_mem DZ hd
      simp [f2, hlast]
      exact ⟨mulOk hc bl (by omega), z⟩
    intro pN hpN
    rw [iL_scR]
    have fN : G pN = none := Sub.free sG hpN
    have gN : put G' pN (.lst (iL (lst a.length (PS.K (lastI b) * f)))) pN = some (.lst (iL (lst a.length (PS.K (lastI b) * f - part (f.c (t + b.length - 1)) t b 0)))) := by rw [part_zero]; exact put_same
    have sN : Sub G (put G' pN (.lst (iL (lst a.length (PS.K (lastI b) * f))))) := sG.trans (.put hpN)
    generalize put G' pN (.lst (iL (lst a.length (PS.K (lastI b) * f)))) = G2 at *
    have hcS := DZ (t + b.length - 1)
    have Z2 := bs_preS (p := t) DZ bb
    have es : L + i * (M + 1) + M + 1 = L + (i + 1) * (M + 1) := by rw [Nat.succ_mul]; omega
    have DP2 : prs b (N - (i + 1)) (preS b f t) = prs b N (toS a) := by
      rw [← DP, show N - i = t + 1 by omega, show N - (i + 1) = t by omega]; rfl
    unfold preS at Z2 DP2
    rw [show t + (b.length - 1) = t + b.length - 1 by omega] at Z2 DP2
    generalize f.c (t + b.length - 1) = c at *
    have f2 := sqAt_some.mpr (sN _ _ g2)
    simp [f2]
    refine ⟨by omega, for_rule (fun j σ G' => ∃ (s5 s6 : Option D), σ = [some (.ref p1), some (.ref p2), some (.ref pN), some (.int t), some (.int c), s5, s6] ∧
      G' pN = some (.lst (iL (lst a.length (PS.K (lastI b) * f - part c t b j)))) ∧ Sub G G') ⟨_, _, rfl, gN, sN⟩ (fun _ _ _ _ _ => srcOk_nil) ?_ ?_⟩
    · rintro j d σ G3 Kn2 hd2 ⟨s5, s6, rfl, gL3, sG3⟩ hK2
      obtain ⟨hj, rfl⟩ := range_get hd2
      have fL3 := sqAt_some.mpr gL3
      have f2 := sqAt_some.mpr (sG3 _ _ g2)
      have ec : ((t : Int) + (j : Int)) = ((t + j : Nat) : Int) := by omega
      have hbj : b[j] = b.getD j 0 := by rw [List.getD_eq_getElem?_getD, List.getElem?_eq_getElem hj]; rfl
      simp [fL3, f2]
      rw [ec]
      refine ⟨.int ((PS.K (lastI b) * f - part c t b j).c (t + j)), by rw [atI_nat]; exact lstI_at (by omega), .int b[j], by simp [hj], ?_⟩
      simp
      refine ⟨mulOk hcS (bb _ (List.getElem_mem hj)) (by omega), _, gL3, t + j, ixN_nat (by simp [lst_length]; omega), ?_⟩
      rw [iL_set, part_at, hbj, part_step]
      exact hK2 _ _ ⟨_, _, rfl, put_same, subI_wr sG3 fN⟩
    · rintro σ G3 ⟨s5, s6, rfl, gL3, sG3⟩
      rw [rangeL_length, part_end] at gL3
      exact hK _ _ ⟨_, _, _, _, pN, _, rfl, gL3, sG3, by rw [← es]; exact Z2, DP2⟩
  · rintro σ G' ⟨s3, s4, s5, s6, pL, f, rfl, gL, sG, DZ, DP⟩
    rw [rangeL_length, Nat.sub_self] at DP
    rw [← DP] at q
    have fL := sqAt_some.mpr gL
    simp
    refine ⟨.ref pL, lst a.length f, rfl, by simp [sqOf]; exact fL, fun r hr => ?_⟩
    simp
    exact ⟨G, sG.trans (.put hr), q⟩
def S_f_law_quotient : DSp := fun ds G Q _ => ∃ (p1 p2 : Addr) (a b : List Int) (L M : Nat), ds = [.ref p2, .ref p1] ∧ G p1 = some (.lst (iL a)) ∧ G p2 = some (.lst (iL b)) ∧ a.length ≤ 900 ∧ b.length ≤ 900 ∧ Trm b ∧ b ≠ [] ∧ Bd L a ∧ Bd M b ∧ L + (a.length + 1 - b.length + 1) * (M + 1) ≤ 100000000 ∧ Q (qoD (quoO a b)) G
theorem run_f_law_quotient {Γ : GE} (h1 : Fn Γ "_law_trim" ["items"] S_f_law_trim) {ds : List D} {G : DH} {Q : QD} {E : ED} (hl : ds.length = 2) (h : S_f_law_quotient ds G Q E) : Runs Γ m_f_law_quotient 6 ds G Q E := by
  obtain ⟨k1, d1, h1⟩ := h1
  obtain ⟨p1, p2, a, b, L, M, rfl, g1, g2, la, lb, tb, hb, ba, bb, hs, q⟩ := h
  have hsz := sizeLine_eq
  have lbp : 0 < b.length := List.length_pos_iff.mpr hb
  have hlast := lastI_get hb
  have hlead : lastI b ≠ 0 := lead_ne tb hb
  have f1 := sqAt_some.mpr g1
  have f2 := sqAt_some.mpr g2
  unfold Runs m_f_law_quotient
  simp [startD, dEnds, List.replicate, h1, f1, f2]
  intro pL hpL pT hpT
  have sP : Sub G (put (put G pL (.lst (iL a))) pT (.lst [.int 0])) := (Sub.put hpL).trans (.put hpT)
  have f1 := sqAt_some.mpr (sP _ _ g1)
  have f2 := sqAt_some.mpr (sP _ _ g2)
  simp [f1, f2]
  have en : max (0 : Int) ((a.length : Int) - b.length + 1) = ((a.length + 1 - b.length : Nat) : Int) := by omega
  rw [en]
  refine ⟨by omega, by omega, by omega, fun pF hF => ?_⟩
  have e0 : List.replicate (a.length + 1 - b.length) (D.int 0) = iL (lst (a.length + 1 - b.length) 0) := by rw [lst_zero]; simp [iL]
  simp only [Int.toNat_natCast, e0]
  generalize hN : a.length + 1 - b.length = N at *
  have gL : put (put (put G pL (.lst (iL a))) pT (.lst [.int 0])) pF (.lst (iL (lst N 0))) pL = some (.lst (iL a)) := (Sub.put hF) _ _ ((Sub.put hpT (o := .lst [.int 0])) _ _ put_same)
  have gF : put (put (put G pL (.lst (iL a))) pT (.lst [.int 0])) pF (.lst (iL (lst N 0))) pF = some (.lst (iL (lst N 0))) := put_same
  have sG : Sub G (put (put (put G pL (.lst (iL a))) pT (.lst [.int 0])) pF (.lst (iL (lst N 0)))) := ((Sub.put hpL).trans (.put hpT)).trans (.put hF)
  have nLF : pL ≠ pF := ne_free (show put (put G pL (.lst (iL a))) pT (.lst [.int 0]) pL = some (.lst (iL a)) from (Sub.put hpT) _ _ put_same) hF
  have fL0 : G pL = none := hpL
  have fF : G pF = none := Sub.free (Sub.trans (Sub.put (o := .lst (iL a)) hpL) (Sub.put (o := .lst [.int 0]) hpT)) hF
  generalize put (put (put G pL (.lst (iL a))) pT (.lst [.int 0])) pF (.lst (iL (lst N 0))) = G1 at *
  refine ⟨N, ?_, ?_⟩
  · have := RgC.neg (i := (N : Int) - 1) (j := -1) (by omega) (by omega) (by omega) (by omega)
    rwa [show ((N : Int) - 1 - -1).toNat = N by omega] at this
  have ea : lst a.length (toS a) = a := lst_toS rfl
  refine for_rule (fun i σ G' => ∃ (s2 s5 : Option D) (f g : PS Int), σ = [some (.ref p2), some (.ref p1), s2, some (.ref pL), some (.ref pF), s5] ∧
      G' pL = some (.lst (iL (lst a.length f))) ∧ G' pF = some (.lst (iL (lst N g))) ∧ Sub G G' ∧ DivSt a b i f g ∧ Bs (L + i * (M + 1)) f) ⟨_, _, toS a, 0, rfl, by rw [ea]; exact gL, gF, sG, .start a b, (bs_of ba).mono (by omega)⟩ (fun _ _ _ _ _ => srcOk_nil) ?_ ?_
  · rintro i d σ G' Kn hd ⟨s2, s5, f, g, rfl, gL, gF, sG, DS, DZ⟩ hK
    obtain ⟨hi, rfl⟩ := rangeL_get hd
    have ej : ((N : Int) - 1 + (i : Int) * -1) = ((N - 1 - i : Nat) : Int) := by omega
    rw [ej]
    generalize ht : N - 1 - i = t at *
    have fL := sqAt_some.mpr gL
    have f2 := sqAt_some.mpr (sG _ _ g2)
    simp only [gD_app, wp63, bD_app]
    simp [fL, f2, hlast]
    have e1 : ((t : Int) + (b.length : Int) - 1) = ((t + b.length - 1 : Nat) : Int) := by omega
    rw [e1]
    have at1 : atI (iL (lst a.length f)) ((t + b.length - 1 : Nat) : Int) = some (.int (f.c (t + b.length - 1))) := by rw [atI_nat]; exact lstI_at (by omega)
    refine ⟨.int (f.c (t + b.length - 1)), at1, ?_⟩
    simp [f2, hlast]
    refine ⟨hlead, ?_⟩
    by_cases hm : (f.c (t + b.length - 1)).fmod (lastI b) = 0
    rotate_left
    · rw [if_neg hm]
      rw [quoO_no (quo_none tb hb DS (t := t) (by omega) (by omega) hm)] at q
      exact ⟨G, sG, q⟩
    rw [if_pos hm]
    have hc := div_cancel (x := f.c (t + b.length - 1)) (y := lastI b) (by omega)
    have hcS : Sz (L + i * (M + 1)) ((f.c (t + b.length - 1)).fdiv (lastI b)) := by
      have h1 := DZ (t + b.length - 1)
      rw [← hc] at h1
      unfold Sz at *
      rw [Int.natAbs_mul] at h1
      exact Nat.lt_of_le_of_lt (Nat.le_mul_of_pos_right _ (by omega)) h1
    rw [fL]
    simp only [optK_some]
    rw [e1]
    refine optK_of at1 ?_
    simp [f2, hlast]
    generalize (f.c (t + b.length - 1)).fdiv (lastI b) = c at *
    refine ⟨hlead, trivial, _, gF, t, ixN_nat (by simp [lst_length]; omega), ?_⟩
    rw [iL_set, mono_set (DS.g0 t (by omega))]
    have D2 := divSt_stepI hb DS (t := t) (c := c) (by omega) (by omega) hc
    have Z2 := bs_step (t := t) DZ bb hcS
    have hsi := mul_at_len hs (i := i) (by omega)
    have es : L + i * (M + 1) + M + 1 = L + (i + 1) * (M + 1) := by rw [Nat.succ_mul]; omega
    have gL2 : put G' pF (.lst (iL (lst N (g + PS.mono c t)))) pL = some (.lst (iL (lst a.length (f - part c t b 0)))) := by rw [put_ne nLF, part_zero]; exact gL
    have gF2 : put G' pF (.lst (iL (lst N (g + PS.mono c t)))) pF = some (.lst (iL (lst N (g + PS.mono c t)))) := put_same
    have sG2 : Sub G (put G' pF (.lst (iL (lst N (g + PS.mono c t))))) := subI_wr sG fF
    have egt : (g + PS.mono c t).c t = c := by
      rw [PS.add_c, DS.g0 t (by omega), show (PS.mono c t).c t = c from if_pos rfl]; omega
    generalize put G' pF (.lst (iL (lst N (g + PS.mono c t)))) = G2 at *
    have f2 := sqAt_some.mpr (sG2 _ _ g2)
    simp [f2]
    refine ⟨by omega, for_rule (fun j σ G' => ∃ (s5 : Option D), σ = [some (.ref p2), some (.ref p1), some (.int t), some (.ref pL), some (.ref pF), s5] ∧
      G' pL = some (.lst (iL (lst a.length (f - part c t b j)))) ∧ G' pF = some (.lst (iL (lst N (g + PS.mono c t)))) ∧ Sub G G') ⟨_, rfl, gL2, gF2, sG2⟩ (fun _ _ _ _ _ => srcOk_nil) ?_ ?_⟩
    · rintro j d σ G3 Kn2 hd2 ⟨s5, rfl, gL3, gF3, sG3⟩ hK2
      obtain ⟨hj, rfl⟩ := range_get hd2
      have fL3 := sqAt_some.mpr gL3
      have fF3 := sqAt_some.mpr gF3
      have f2 := sqAt_some.mpr (sG3 _ _ g2)
      have ec : ((t : Int) + (j : Int)) = ((t + j : Nat) : Int) := by omega
      have hbj : b[j] = b.getD j 0 := by rw [List.getD_eq_getElem?_getD, List.getElem?_eq_getElem hj]; rfl
      simp [fL3, fF3, f2]
      rw [ec]
      refine ⟨.int ((f - part c t b j).c (t + j)), by rw [atI_nat]; exact lstI_at (by omega), .int c, by have := lstI_at (f := g + PS.mono c t) (n := N) (k := t) (by omega); rw [egt] at this; simpa using this, .int b[j], by simp [hj], ?_⟩
      simp
      refine ⟨mulOk hcS (bb _ (List.getElem_mem hj)) (by omega), _, gL3, t + j, ixN_nat (by simp [lst_length]; omega), ?_⟩
      rw [iL_set, part_at, hbj, part_step]
      exact hK2 _ _ ⟨_, rfl, put_same, by rw [put_ne (Ne.symm nLF)]; exact gF3, subI_wr sG3 fL0⟩
    · rintro σ G3 ⟨s5, rfl, gL3, gF3, sG3⟩
      rw [rangeL_length, part_end] at gL3
      exact hK _ _ ⟨_, _, _, _, rfl, gL3, gF3, sG3, D2, by rw [← es]; exact Z2⟩
  · rintro σ G' ⟨s2, s5, f, g, rfl, gL, gF, sG, DS, DZ⟩
    rw [rangeL_length] at DS DZ
    rw [← hN] at DS gF
    have qe := quo_end tb hb DS
    have fL := sqAt_some.mpr gL
    have fF := sqAt_some.mpr gF
    simp
    refine ⟨.ref pL, lst a.length f, rfl, by simp [sqOf]; exact fL, fun r hr => ?_⟩
    have gr : put G' r (.lst (iL (trim (lst a.length f)))) r = some (.lst (iL (trim (lst a.length f)))) := put_same
    have sr := Sub.put (o := .lst (iL (trim (lst a.length f)))) hr
    generalize put G' r (.lst (iL (trim (lst a.length f)))) = G4 at *
    simp
    intro r2 hr2
    refine eqL_i0 (by rw [put_ne (ne_free gr hr2)]; exact gr) put_same ?_
    rw [qe] at q
    by_cases hz : trim (lst a.length f) = []
    · rw [if_pos hz] at q
      rw [hz]
      simp
      have s4 := sr.trans (Sub.put (o := .lst []) hr2)
      refine ⟨.ref pF, lst (a.length + 1 - b.length) g, rfl, by simp [sqOf]; exact sqAt_some.mpr (s4 _ _ gF), fun r3 hr3 => ?_⟩
      simp
      exact ⟨G, sG.trans (s4.trans (.put hr3)), q⟩
    · rw [if_neg hz] at q
      have : (trim (lst a.length f)).isEmpty = false := by simpa using hz
      rw [this]
      simp
      exact ⟨G, sG.trans (sr.trans (.put hr2)), q⟩
end DL.LW

set_option Elab.async false
set_option linter.all false
set_option maxRecDepth 100000
set_option maxHeartbeats 4000000
set_option exponentiation.threshold 10000
namespace DL.LW
open PySem PySem.Spec PyProof.Rows L2 DL TL PM
/-! V4: k04: common divisors. -/
theorem rest_step {a b l : List Int} {t : Nat} (hb : b ≠ []) (hl : l.length = t + b.length) (h : ∃ (c : Int) (q : SI) (N : Nat), c ≠ 0 ∧ dg q N ∧ PS.K c * toS a = q * toS b + toS l) (tb : Trm b) :
    (∃ (c : Int) (q : SI) (N : Nat), c ≠ 0 ∧ dg q N ∧ PS.K c * toS a = q * toS b + toS (trim (lst l.length (preS b (toS l) t)))) ∧ (trim (lst l.length (preS b (toS l) t))).length < l.length := by
  have lb := List.length_pos_iff.mpr hb
  obtain ⟨c, q, N, hc, hq, e⟩ := h
  have d1 := preS_dg (f := toS l) (p := t) hb (by rw [show b.length - 1 + (t + 1) = l.length by omega]; exact dg_list l)
  have e1 : toS (trim (lst l.length (preS b (toS l) t))) = preS b (toS l) t := by
    rw [toS_trim]
    exact toS_lst fun k hk => d1 k (by omega)
  refine ⟨⟨c * lastI b, PS.K (lastI b) * q + PS.mono ((toS l).c (t + (b.length - 1))) t, N + t + 1, mul_ne hc (lead_ne tb hb), ((hq.K _).mono (by omega)).add ((dg_mono _ t).mono (by omega)), ?_⟩, ?_⟩
  · rw [e1, Int.mul_comm, ← K_same, e]
    unfold preS
    grind
  · have := trm_short (l := trim (lst l.length (preS b (toS l) t))) (tr_trim _) (n := b.length - 1 + t) (by rw [e1]; exact d1)
    omega
def S_f_law_rest : DSp := fun ds G Q _ => ∃ (p1 p2 : Addr) (a b : List Int) (L M : Nat), ds = [.ref p1, .ref p2] ∧ G p1 = some (.lst (iL a)) ∧ G p2 = some (.lst (iL b)) ∧ Trm a ∧ Trm b ∧ a.length ≤ 900 ∧ b.length ≤ 900 ∧ b ≠ [] ∧ Bd L a ∧ Bd M b ∧ L + (a.length + 1) * (M + 1) ≤ 100000000 ∧
  ∀ r, RestOf a b r → Bd (L + a.length * (M + 1)) r → r.length ≤ a.length → NewL r G Q
theorem run_f_law_rest {Γ : GE} (h1 : Fn Γ "_law_trim" ["items"] S_f_law_trim) {ds : List D} {G : DH} {Q : QD} {E : ED} (hl : ds.length = 2) (h : S_f_law_rest ds G Q E) : Runs Γ m_f_law_rest 7 ds G Q E := by
  obtain ⟨k1, d1, h1⟩ := h1
  obtain ⟨p1, p2, a, b, L, M, rfl, g1, g2, ta, tb, la, lb, hb, ba, bb, hs, q⟩ := h
  have hsz := sizeLine_eq
  have lbp : 0 < b.length := List.length_pos_iff.mpr hb
  have hlast := lastI_get hb
  have bl := bs_lead hb bb
  have f1 := sqAt_some.mpr g1
  unfold Runs m_f_law_rest
  simp [startD, dEnds, List.replicate, h1, f1]
  intro pL hpL
  refine while_rule (fun n σ G' => ∃ (s3 s4 s5 s6 : Option D) (p : Addr) (l : List Int), σ = [some (.ref p1), some (.ref p2), some (.ref p), s3, s4, s5, s6] ∧ G' p = some (.lst (iL l)) ∧ G p = none ∧ Sub G G' ∧ n = l.length ∧ l.length ≤ a.length ∧ Trm l ∧ Bd (L + (a.length - l.length) * (M + 1)) l ∧
    ∃ (c : Int) (q : SI) (N : Nat), c ≠ 0 ∧ dg q N ∧ PS.K c * toS a = q * toS b + toS l) a.length ⟨_, _, _, _, pL, a, rfl, put_same, hpL, .put hpL, rfl, Nat.le_refl _, ta, ba.mono (by omega), 1, 0, 0, by decide, dg_zero 0, by rw [K_one]; grind⟩ ?_
  rintro n σ G' Kn ⟨s3, s4, s5, s6, p, l, rfl, gp, fp, sG, rfl, ll, tl, bdl, hr⟩ hK
  have fL := sqAt_some.mpr gp
  have f2 := sqAt_some.mpr (sG _ _ g2)
  simp [fL, f2]
  by_cases hc : b.length ≤ l.length
  rotate_left
  · rw [if_neg hc]
    refine ⟨put G p (.lst (iL l)), ?_, q l ⟨tl, by omega, hr⟩ (bdl.mono ?_) ll p fp⟩
    · intro b' u e
      by_cases hb' : b' = p
      · rw [hb', put_same] at e
        rw [hb', gp]; exact e
      · rw [put_ne hb'] at e
        exact sG _ _ e
    · have := Nat.mul_le_mul_right (M + 1) (show a.length - l.length ≤ a.length by omega)
      omega
  rw [if_pos hc]
  obtain ⟨t, ht⟩ : ∃ t, l.length = t + b.length := ⟨l.length - b.length, by omega⟩
  have hne : l ≠ [] := fun z => by
    rw [z] at hc
    have : b.length ≤ 0 := hc
    omega
  have et : ((l.length : Int) - (b.length : Int)) = (t : Int) := by omega
  rw [et]
  refine optK_of (a := .int (lastI l)) (by rw [lastI_get' hne]; rfl) ?_
  generalize hLL : L + (a.length - l.length) * (M + 1) = LL at *
  have hLLs : LL + M + 1 ≤ 100000000 := by
    have := Nat.mul_le_mul_right (M + 1) (show a.length - l.length + 1 ≤ a.length + 1 by omega)
    rw [Nat.succ_mul] at this
    omega
  have hcS := bs_lead hne bdl
  refine ⟨by omega, lc_all (scR (lastI b)) (srcOk_one fL) (fun d hd K1 K0 z => ?_) ?_⟩
  · obtain ⟨c, hc, rfl⟩ := List.mem_map.mp hd
    simp [f2, hlast]
    exact ⟨mulOk (bdl c hc) bl (by omega), z⟩
  intro pN hpN
  have el : l = lst l.length (toS l) := (lst_toS rfl).symm
  have em : (l.map D.int).map (scR (lastI b)) = iL (lst l.length (PS.K (lastI b) * toS l)) := by
    rw [← iL_scR, ← el]
  rw [em]
  have fN : G pN = none := Sub.free sG hpN
  have gN : put G' pN (.lst (iL (lst l.length (PS.K (lastI b) * toS l)))) pN = some (.lst (iL (lst l.length (PS.K (lastI b) * toS l - part (lastI l) t b 0)))) := by rw [part_zero]; exact put_same
  have sN : Sub G (put G' pN (.lst (iL (lst l.length (PS.K (lastI b) * toS l))))) := sG.trans (.put hpN)
  generalize put G' pN (.lst (iL (lst l.length (PS.K (lastI b) * toS l)))) = G2 at *
  have f2 := sqAt_some.mpr (sN _ _ g2)
  simp [f2]
  obtain ⟨r1, r2⟩ := rest_step (a := a) hb ht hr tb
  have Z2 := bs_preS (p := t) (bs_of bdl) bb
  unfold preS at Z2 r1 r2
  rw [show t + (b.length - 1) = l.length - 1 by omega, ← lastI_c] at Z2 r1 r2
  refine ⟨by omega, for_rule (fun j σ G' => ∃ (s3 s6 : Option D), σ = [some (.ref p1), some (.ref p2), some (.ref pN), s3, some (.int (lastI l)), some (.int t), s6] ∧
    G' pN = some (.lst (iL (lst l.length (PS.K (lastI b) * toS l - part (lastI l) t b j)))) ∧ Sub G G') ⟨_, _, rfl, gN, sN⟩ (fun _ _ _ _ _ => srcOk_nil) ?_ ?_⟩
  · rintro j d σ G3 Kn2 hd2 ⟨s3, s6, rfl, gL3, sG3⟩ hK2
    obtain ⟨hj, rfl⟩ := range_get hd2
    have fL3 := sqAt_some.mpr gL3
    have f2 := sqAt_some.mpr (sG3 _ _ g2)
    have ec : ((t : Int) + (j : Int)) = ((t + j : Nat) : Int) := by omega
    have hbj : b[j] = b.getD j 0 := by rw [List.getD_eq_getElem?_getD, List.getElem?_eq_getElem hj]; rfl
    simp [fL3, f2]
    rw [ec]
    refine ⟨.int ((PS.K (lastI b) * toS l - part (lastI l) t b j).c (t + j)), by rw [atI_nat]; exact lstI_at (by omega), .int b[j], by simp [hj], ?_⟩
    simp
    refine ⟨mulOk hcS (bb _ (List.getElem_mem hj)) (by omega), _, gL3, t + j, ixN_nat (by simp [lst_length]; omega), ?_⟩
    rw [iL_set, part_at, hbj, part_step]
    exact hK2 _ _ ⟨_, _, rfl, put_same, subI_wr sG3 fN⟩
  · rintro σ G3 ⟨s3, s6, rfl, gL3, sG3⟩
    rw [rangeL_length, part_end] at gL3
    simp [h1]
    refine ⟨.ref pN, _, rfl, by simp [sqOf]; exact sqAt_some.mpr gL3, fun r hr => ?_⟩
    simp
    refine hK _ _ _ r2 ⟨_, _, _, _, r, _, rfl, put_same, Sub.free sG3 hr, sG3.trans (.put hr), rfl, by omega, tr_trim _, ?_, r1⟩
    refine (Bd.trim (bd_lst Z2)).mono ?_
    rw [← hLL]
    have := Nat.mul_le_mul_right (M + 1) (show a.length - l.length + 1 ≤ a.length - (trim (lst l.length (PS.K (lastI b) * toS l - PS.mono (lastI l) t * toS b))).length by omega)
    rw [Nat.succ_mul] at this
    omega
end DL.LW

set_option Elab.async false
set_option linter.all false
set_option maxRecDepth 100000
set_option maxHeartbeats 4000000
set_option exponentiation.threshold 10000
namespace DL.LW
open PySem PySem.Spec PyProof.Rows L2 DL TL PM
/-! V5: k04: common divisors. -/
structure C04 (a b : List Int) : Prop where
  la : a.length ≤ 16
  lb : b.length ≤ 16
  n : ∃ n, Bd n a ∧ Bd n b ∧ n + 18 * (n + 1) ≤ 100000000
  m : ∃ m, okC m (primL a) (primL b) ∧ m + 17 * (m + 1) ≤ 100000000
theorem up17 {m k : Nat} (h : m + 17 * (m + 1) ≤ 100000000) (hk : k ≤ 17) : m + k * (m + 1) ≤ 100000000 := by
  have := Nat.mul_le_mul_right (m + 1) hk
  omega
theorem NewL.sub {r : List Int} {G G' : DH} {Q : QD} (h : NewL r G Q) (s : Sub G G') {p : Addr} (fp : G p = none) (gp : G' p = some (.lst (iL r))) : ∃ G2, Sub G2 G' ∧ Q (.ref p) G2 :=
  ⟨put G p (.lst (iL r)), fun b u e => by
    by_cases hb : b = p
    · rw [hb, put_same] at e
      rw [hb, gp]; exact e
    · rw [put_ne hb] at e
      exact s _ _ e, h p fp⟩
def S_f_law_common : DSp := fun ds G Q _ => ∃ (p1 p2 : Addr) (a b : List Int), ds = [.ref p1, .ref p2] ∧ G p1 = some (.lst (iL a)) ∧ G p2 = some (.lst (iL b)) ∧ Trm a ∧ Trm b ∧ C04 a b ∧ NewL (comC (primL a) (primL b)) G Q
theorem run_f_law_common {Γ : GE} (h1 : Fn Γ "_law_primitive" ["one"] S_f_law_primitive) (h2 : Fn Γ "_law_rest" ["one", "other"] S_f_law_rest) {ds : List D} {G : DH} {Q : QD} {E : ED} (hl : ds.length = 2) (h : S_f_law_common ds G Q E) : Runs Γ m_f_law_common 2 ds G Q E := by
  obtain ⟨k1, d1, h1⟩ := h1
  obtain ⟨k2, d2, h2⟩ := h2
  obtain ⟨p1, p2, a, b, rfl, g1, g2, ta, tb, C, q⟩ := h
  obtain ⟨n, bna, bnb, hn⟩ := C.n
  obtain ⟨m, om, hm⟩ := C.m
  have la := C.la
  have lb := C.lb
  unfold Runs m_f_law_common
  simp [startD, dEnds, List.replicate, h1, h2]
  refine ⟨p1, a, n, rfl, g1, ta, by omega, bna, by omega, fun r1 hr1 => ?_⟩
  have s1 := Sub.put (o := .lst (iL (primL a))) hr1
  refine ⟨p2, b, n, rfl, s1 _ _ g2, tb, by omega, bnb, by omega, fun r2 hr2 => ?_⟩
  have s2 := s1.trans (Sub.put (o := .lst (iL (primL b))) hr2)
  have y1 : put (put G r1 (.lst (iL (primL a)))) r2 (.lst (iL (primL b))) r1 = some (.lst (iL (primL a))) := (Sub.put hr2) _ _ put_same
  have y2 : put (put G r1 (.lst (iL (primL a)))) r2 (.lst (iL (primL b))) r2 = some (.lst (iL (primL b))) := put_same
  generalize put (put G r1 (.lst (iL (primL a)))) r2 (.lst (iL (primL b))) = G2 at *
  refine while_rule (fun n σ G' => ∃ (r1 r2 : Addr) (f s : List Int), σ = [some (.ref r1), some (.ref r2)] ∧ G' r1 = some (.lst (iL f)) ∧ G' r2 = some (.lst (iL s)) ∧ G r1 = none ∧ G r2 = none ∧ Sub G G' ∧ n = s.length ∧ f.length ≤ 16 ∧ s.length ≤ 16 ∧ IsN f ∧ IsN s ∧ okC m f s ∧ comC f s = comC (primL a) (primL b))
    (primL b).length ⟨r1, r2, _, _, rfl, y1, y2, hr1, s1.free hr2, s2, rfl, by rw [primL_len]; omega, by rw [primL_len]; omega, primN ta, primN tb, om, rfl⟩ ?_
  rintro n σ G' Kn ⟨r1, r2, f, s, rfl, y1, y2, z1, z2, sG, rfl, lf, ls, nf, ns, ok, ec⟩ hK
  simp
  intro pe hpe
  refine eqL_i0 (by rw [put_ne (ne_free y2 hpe)]; exact y2) put_same ?_
  have s4 := Sub.put (o := .lst []) hpe
  by_cases hs : s = []
  · subst hs
    simp
    rw [comC_nil] at ec
    rw [← ec] at q
    exact q.sub (sG.trans s4) z1 (s4 _ _ y1)
  · have he : s.isEmpty = false := by simpa using hs
    rw [he]
    simp [h1, h2]
    refine ⟨r1, r2, f, s, m, m, rfl, s4 _ _ y1, s4 _ _ y2, nf.t, ns.t, by omega, by omega, hs, ok.f, ok.s, up17 hm (by omega), fun r hr br lr => fun p hp => ?_⟩
    have ts := sG.trans s4
    have s5 := Sub.put (o := .lst (iL r)) hp
    refine ⟨p, r, _, rfl, put_same, hr.t, by omega, br, up17 hm (by omega), fun p' hp' => ?_⟩
    have s6 := s5.trans (Sub.put (o := .lst (iL (primL r))) hp')
    have er := hr.prim ns.t hs (psrL_rest (a := f) hs ns.t)
    have nl := next_len (f := f) hs ns.t
    rw [er] at s6 ⊢
    refine hK (primL (psrL f s)).length _ _ nl ⟨r2, p', s, primL (psrL f s), rfl, s6 _ _ (s4 _ _ y2), put_same, z2, (ts.trans s5).free hp', ts.trans s6, rfl, ls, by omega, ns, primN (psrL_rest hs ns.t).t, ok.step hs, ?_⟩
    rw [← ec, comC_step ns hs]
def S_common_primitive : DSp := fun ds G Q _ => ∃ (a b : List Int), ds = [tI a, tI b] ∧ Trm a ∧ Trm b ∧ C04 a b ∧ Q (tI (comC (primL a) (primL b))) G
theorem run_common_primitive {Γ : GE} (h1 : Fn Γ "primitive_of" ["one"] S_primitive_of) (h2 : Fn Γ "pseudo_rest_of" ["one", "other"] S_pseudo_rest_of) {ds : List D} {G : DH} {Q : QD} {E : ED} (hl : ds.length = 2) (h : S_common_primitive ds G Q E) : Runs Γ m_common_primitive 4 ds G Q E := by
  obtain ⟨k1, d1, h1⟩ := h1
  obtain ⟨k2, d2, h2⟩ := h2
  obtain ⟨a, b, rfl, ta, tb, C, q⟩ := h
  obtain ⟨n, bna, bnb, hn⟩ := C.n
  obtain ⟨m, om, hm⟩ := C.m
  have la := C.la
  have lb := C.lb
  unfold Runs m_common_primitive
  simp [startD, dEnds, List.replicate, h1, h2]
  refine ⟨a, n, rfl, ta, by omega, bna, by omega, b, n, rfl, tb, by omega, bnb, by omega, ?_⟩
  refine while_rule (fun n σ G' => ∃ (f s : List Int), σ = [some (tI a), some (tI b), some (tI f), some (tI s)] ∧ G' = G ∧ n = s.length ∧ f.length ≤ 16 ∧ s.length ≤ 16 ∧ IsN f ∧ IsN s ∧ okC m f s ∧ comC f s = comC (primL a) (primL b))
    (primL b).length ⟨_, _, rfl, rfl, rfl, by rw [primL_len]; omega, by rw [primL_len]; omega, primN ta, primN tb, om, rfl⟩ ?_
  rintro n σ G' Kn ⟨f, s, rfl, rfl, rfl, lf, ls, nf, ns, ok, ec⟩ hK
  simp
  refine eqT_i0 ?_
  by_cases hs : s = []
  · subst hs
    simp
    rw [comC_nil] at ec
    rw [← ec] at q
    exact ⟨_, .refl, q⟩
  · have he : s.isEmpty = false := by simpa using hs
    rw [he]
    simp [h1, h2]
    have br := bd_psrL ok.f ok.s
    have nl := next_len (f := f) hs ns.t
    rw [primL_len] at nl
    refine ⟨f, s, m, m, rfl, by omega, by omega, hs, ok.f, ok.s, up17 hm (by have := List.length_pos_iff.mpr hs; omega), ?_⟩
    refine ⟨psrL f s, _, rfl, (psrL_rest hs ns.t).t, by omega, br, up17 hm (by omega), ?_⟩
    refine hK (primL (psrL f s)).length _ _ (by rw [primL_len]; exact nl) ⟨s, primL (psrL f s), rfl, rfl, rfl, ls, by rw [primL_len]; omega, ns, primN (psrL_rest hs ns.t).t, ok.step hs, ?_⟩
    rw [← ec, comC_step ns hs]
theorem gcd_sz {a b : List Int} {B : Nat} (ta : Trm a) (tb : Trm b) (hab : a ≠ [] ∨ b ≠ []) (ba : Bd B a) (bb : Bd B b) : Sz B (Int.gcd (contL a) (contL b) : Int) ∧ 0 < Int.gcd (contL a) (contL b) := by
  have hle : ∀ {x : List Int}, Trm x → x ≠ [] → Bd B x → Int.gcd (contL a) (contL b) ≤ (contL x).natAbs → Sz B (Int.gcd (contL a) (contL b) : Int) := fun t h bx hl => by
    have := (contL_last t h).2 B bx
    unfold Sz at *
    rw [Int.natAbs_natCast]; omega
  rcases hab with h | h
  · exact ⟨hle ta h ba (Nat.le_of_dvd (by have := (contL_last ta h).1; omega) (Nat.gcd_dvd_left _ _)), Int.gcd_pos_of_ne_zero_left _ (by have := (contL_last ta h).1; omega)⟩
  · exact ⟨hle tb h bb (Nat.le_of_dvd (by have := (contL_last tb h).1; omega) (Nat.gcd_dvd_right _ _)), Int.gcd_pos_of_ne_zero_right _ (by have := (contL_last tb h).1; omega)⟩
theorem comL_nil : comL [] [] = [] := rfl
theorem comC_is {a b : List Int} (ta : Trm a) (tb : Trm b) (hab : a ≠ [] ∨ b ≠ []) : IsP (comC (primL a) (primL b)) := by
  refine (comP_dvd ((primL b).length + 1) (primL a) (primL b) (by omega) (primN ta) (primN tb) ?_).1
  rcases hab with h | h
  · exact .inl (primL_ne h)
  · exact .inr (primL_ne h)
theorem trm_comL {a b : List Int} (ta : Trm a) (tb : Trm b) : Trm (comL a b) := by
  by_cases h : a ≠ [] ∨ b ≠ []
  · exact trm_mapK (comC_is ta tb h).t (by
      have := (gcd_sz (B := 0) ta tb h · ·)
      rcases h with h | h
      · have := Int.gcd_pos_of_ne_zero_left (b := contL b) (a := contL a) (by have := (contL_last ta h).1; omega)
        omega
      · have := Int.gcd_pos_of_ne_zero_right (a := contL a) (b := contL b) (by have := (contL_last tb h).1; omega)
        omega)
  · have ha : a = [] := Classical.byContradiction fun z => h (.inl z)
    have hb : b = [] := Classical.byContradiction fun z => h (.inr z)
    rw [ha, hb]; exact tr_nil
theorem comC_len {f s : List Int} : ∀ (n : Nat) (f s : List Int), f.length ≤ 16 → s.length ≤ 16 → IsN s → (comP n f s).length ≤ 16
  | 0, f, s, h, _, _ => h
  | n + 1, f, s, h, h2, hs => by
    unfold comP
    split
    · exact h
    · rename_i hne
      have := next_len (f := f) hne hs.t
      exact comC_len (f := f) (s := s) n s _ h2 (by omega) (primN (psrL_rest hne hs.t).t)
theorem comC_mulok {a b : List Int} (ta : Trm a) (tb : Trm b) (C : C04 a b) : (∀ c ∈ comC (primL a) (primL b), IntMulOk ((Int.gcd (contL a) (contL b) : Nat) : Int) c) ∧ (comC (primL a) (primL b)).length ≤ 16 := by
  obtain ⟨n, bna, bnb, hn⟩ := C.n
  obtain ⟨m, om, hm⟩ := C.m
  have la := C.la
  have lb := C.lb
  refine ⟨fun c hc => ?_, comC_len (f := []) (s := []) _ _ _ (by rw [primL_len]; omega) (by rw [primL_len]; omega) (primN tb)⟩
  by_cases h : a ≠ [] ∨ b ≠ []
  · exact mulOk (gcd_sz ta tb h bna bnb).1 (om.bd (primN tb) c hc) (by omega)
  · have ha : a = [] := Classical.byContradiction fun z => h (.inl z)
    have hb : b = [] := Classical.byContradiction fun z => h (.inr z)
    rw [ha, hb] at hc
    cases hc
def S_common_of : DSp := fun ds G Q _ => ∃ (a b : List Int), ds = [tI a, tI b] ∧ Trm a ∧ Trm b ∧ C04 a b ∧ Q (tI (comL a b)) G
theorem run_common_of_v2 {Γ : GE} (h1 : Fn Γ "multiple_of" ["one", "number"] S_multiple_of) (h2 : Fn Γ "common_primitive" ["one", "other"] S_common_primitive) (h3 : Fn Γ "content_of" ["one"] S_content_of) {ds : List D} {G : DH} {Q : QD} {E : ED} (hl : ds.length = 2) (h : S_common_of ds G Q E) : Runs Γ m_common_of_v2 2 ds G Q E := by
  obtain ⟨k1, d1, h1⟩ := h1
  obtain ⟨k2, d2, h2⟩ := h2
  obtain ⟨k3, d3, h3⟩ := h3
  obtain ⟨a, b, rfl, ta, tb, C, q⟩ := h
  obtain ⟨i1, i2⟩ := comC_mulok ta tb C
  unfold Runs m_common_of_v2
  simp [startD, dEnds, List.replicate, h1, h2, h3]
  refine ⟨a, b, rfl, ta, tb, C, a, rfl, b, rfl, ?_⟩
  simp
  refine ⟨_, _, rfl, by omega, i1, G, .refl, ?_⟩
  rw [← show trim (List.map (fun x => ((Int.gcd (contL a) (contL b) : Nat) : Int) * x) (comC (primL a) (primL b))) = comL a b from trim_tr (trm_comL ta tb)] at q
  exact q
end DL.LW

set_option Elab.async false
set_option linter.all false
set_option maxRecDepth 100000
set_option maxHeartbeats 4000000
set_option exponentiation.threshold 10000
namespace DL.LW
open PySem PySem.Spec PyProof.Rows L2 DL TL PM
/-! V6: k04: the functions that check. -/
def xZ : XD := ⟨"DividedByZero", []⟩
def fCom (a b : List Int) : XR := .ok (tI (comL a b))
noncomputable def fDvd (a b : List Int) : XR := .ok (.bl (if a = [] then decide (b = []) else (quoO b a).isSome))
noncomputable def fQuo (a b : List Int) : XR := if a = [] then .error xZ else .ok (qoD (quoO b a))
def fPse (a b : List Int) : XR := if b = [] then .error xZ else .ok (tI (psrL a b))
def A4 (f : List Int → List Int → XR) : DSp := fun ds G Q E => ∃ x y, ds = [x, y] ∧ TZ G x ∧ TZ G y ∧ (∀ a b, x = tI a → y = tI b → Trm a → Trm b → C04 a b) ∧ post (P2 f x y) Q E G
def S_common : DSp := A4 fCom
theorem run_common {Γ : GE} (h1 : Fn Γ "check_polynomial" ["value"] S_check_polynomial) (h2 : Fn Γ "common_of" ["one", "other"] S_common_of) {ds : List D} {G : DH} {Q : QD} {E : ED} (hl : ds.length = 2) (h : S_common ds G Q E) : Runs Γ m_common 2 ds G Q E := by
  obtain ⟨k1, d1, h1⟩ := h1
  obtain ⟨k2, d2, h2⟩ := h2
  obtain ⟨x, y, rfl, hx, hy, hc, q⟩ := h
  unfold Runs m_common
  unfold P2 at q
  rcases ip_cases x with hip | ⟨a, rfl, ta⟩
  · rw [P1_bad hip] at q
    simp [startD, dEnds, h1, hx, chkP_bad hip]
    exact ⟨G, .refl, q⟩
  rw [P1_trm ta] at q
  rcases ip_cases y with hip | ⟨b, rfl, tb⟩
  · rw [P1_bad hip] at q
    simp [startD, dEnds, h1, hx, hy, chkP_trm ta, chkP_bad hip]
    exact ⟨G, .refl, q⟩
  rw [P1_trm tb] at q
  simp [startD, dEnds, h1, h2, hx, hy, chkP_trm ta, chkP_trm tb]
  exact ⟨a, b, rfl, ta, tb, hc _ _ rfl rfl ta tb, G, .refl, q⟩
theorem C04.quo {a b : List Int} (C : C04 a b) : ∃ n, Bd n a ∧ Bd n b ∧ n + (b.length + 1 - a.length + 1) * (n + 1) ≤ 100000000 ∧ n + (a.length + 1 - b.length + 1) * (n + 1) ≤ 100000000 := by
  obtain ⟨n, bna, bnb, hn⟩ := C.n
  have la := C.la
  have lb := C.lb
  refine ⟨n, bna, bnb, ?_, ?_⟩
  · have := Nat.mul_le_mul_right (n + 1) (show b.length + 1 - a.length + 1 ≤ 18 by omega)
    omega
  · have := Nat.mul_le_mul_right (n + 1) (show a.length + 1 - b.length + 1 ≤ 18 by omega)
    omega
def S_divides : DSp := A4 fDvd
theorem run_divides {Γ : GE} (h1 : Fn Γ "check_polynomial" ["value"] S_check_polynomial) (h2 : Fn Γ "quotient_of" ["one", "other"] S_quotient_of) {ds : List D} {G : DH} {Q : QD} {E : ED} (hl : ds.length = 2) (h : S_divides ds G Q E) : Runs Γ m_divides 2 ds G Q E := by
  obtain ⟨k1, d1, h1⟩ := h1
  obtain ⟨k2, d2, h2⟩ := h2
  obtain ⟨x, y, rfl, hx, hy, hc, q⟩ := h
  unfold Runs m_divides
  unfold P2 at q
  rcases ip_cases x with hip | ⟨a, rfl, ta⟩
  · rw [P1_bad hip] at q
    simp [startD, dEnds, h1, hx, chkP_bad hip]
    exact ⟨G, .refl, q⟩
  rw [P1_trm ta] at q
  rcases ip_cases y with hip | ⟨b, rfl, tb⟩
  · rw [P1_bad hip] at q
    simp [startD, dEnds, h1, hx, hy, chkP_trm ta, chkP_bad hip]
    exact ⟨G, .refl, q⟩
  rw [P1_trm tb] at q
  have C := hc _ _ rfl rfl ta tb
  obtain ⟨n, n1, n2, n3, n4⟩ := C.quo
  have la := C.la
  have lb := C.lb
  simp [startD, dEnds, h1, h2, hx, hy, chkP_trm ta, chkP_trm tb]
  refine eqT_i0 ?_
  unfold fDvd at q
  by_cases ha : a = []
  · subst ha
    simp
    refine eqT_i0 ?_
    rw [if_pos rfl] at q
    refine ⟨G, .refl, ?_⟩
    have e : b.isEmpty = decide (b = []) := by cases b <;> rfl
    rw [e]; exact q
  · have he : a.isEmpty = false := by simpa using ha
    rw [he]
    rw [if_neg ha] at q
    simp
    refine ⟨b, a, n, n, rfl, by omega, by omega, ta, ha, n2, n1, n3, ?_⟩
    generalize quoO b a = r at *
    cases r with
    | none => simp [qoD]; exact ⟨G, .refl, q⟩
    | some r => simp [qoD]; exact ⟨G, .refl, q⟩
def S_quotient : DSp := A4 fQuo
theorem run_quotient {Γ : GE} (h1 : Fn Γ "check_polynomial" ["value"] S_check_polynomial) (h2 : Fn Γ "quotient_of" ["one", "other"] S_quotient_of) (h3 : Γ.exc "DividedByZero" = some []) {ds : List D} {G : DH} {Q : QD} {E : ED} (hl : ds.length = 2) (h : S_quotient ds G Q E) : Runs Γ m_quotient 2 ds G Q E := by
  obtain ⟨k1, d1, h1⟩ := h1
  obtain ⟨k2, d2, h2⟩ := h2
  obtain ⟨x, y, rfl, hx, hy, hc, q⟩ := h
  unfold Runs m_quotient
  unfold P2 at q
  rcases ip_cases x with hip | ⟨a, rfl, ta⟩
  · rw [P1_bad hip] at q
    simp [startD, dEnds, h1, hx, chkP_bad hip]
    exact ⟨G, .refl, q⟩
  rw [P1_trm ta] at q
  rcases ip_cases y with hip | ⟨b, rfl, tb⟩
  · rw [P1_bad hip] at q
    simp [startD, dEnds, h1, hx, hy, chkP_trm ta, chkP_bad hip]
    exact ⟨G, .refl, q⟩
  rw [P1_trm tb] at q
  have C := hc _ _ rfl rfl ta tb
  obtain ⟨n, n1, n2, n3, n4⟩ := C.quo
  have la := C.la
  have lb := C.lb
  simp [startD, dEnds, h1, h2, h3, hx, hy, chkP_trm ta, chkP_trm tb]
  refine eqT_i0 ?_
  unfold fQuo at q
  by_cases ha : a = []
  · subst ha
    rw [if_pos rfl] at q
    simp
    exact ⟨G, .refl, q⟩
  · have he : a.isEmpty = false := by simpa using ha
    rw [he]
    rw [if_neg ha] at q
    simp
    exact ⟨b, a, n, n, rfl, by omega, by omega, ta, ha, n2, n1, n3, G, .refl, q⟩
def S_pseudo_rest : DSp := A4 fPse
theorem run_pseudo_rest {Γ : GE} (h1 : Fn Γ "check_polynomial" ["value"] S_check_polynomial) (h2 : Fn Γ "degree_of" ["one"] S_degree_of) (h3 : Fn Γ "pseudo_rest_of" ["one", "other"] S_pseudo_rest_of) (h4 : Γ.exc "DividedByZero" = some []) {ds : List D} {G : DH} {Q : QD} {E : ED} (hl : ds.length = 2) (h : S_pseudo_rest ds G Q E) : Runs Γ m_pseudo_rest 2 ds G Q E := by
  obtain ⟨k1, d1, h1⟩ := h1
  obtain ⟨k2, d2, h2⟩ := h2
  obtain ⟨k3, d3, h3⟩ := h3
  obtain ⟨x, y, rfl, hx, hy, hc, q⟩ := h
  unfold Runs m_pseudo_rest
  unfold P2 at q
  rcases ip_cases x with hip | ⟨a, rfl, ta⟩
  · rw [P1_bad hip] at q
    simp [startD, dEnds, h1, hx, chkP_bad hip]
    exact ⟨G, .refl, q⟩
  rw [P1_trm ta] at q
  rcases ip_cases y with hip | ⟨b, rfl, tb⟩
  · rw [P1_bad hip] at q
    simp [startD, dEnds, h1, hx, hy, chkP_trm ta, chkP_bad hip]
    exact ⟨G, .refl, q⟩
  rw [P1_trm tb] at q
  have C := hc _ _ rfl rfl ta tb
  obtain ⟨n, n1, n2, n3, n4⟩ := C.quo
  have la := C.la
  have lb := C.lb
  simp [startD, dEnds, h1, h2, h3, h4, hx, hy, chkP_trm ta, chkP_trm tb]
  refine eqT_i0 ?_
  unfold fPse at q
  by_cases hb : b = []
  · subst hb
    rw [if_pos rfl] at q
    simp
    exact ⟨G, .refl, q⟩
  · have he : b.isEmpty = false := by simpa using hb
    rw [he]
    rw [if_neg hb] at q
    simp
    by_cases hl : b.length ≤ a.length
    · rw [if_pos hl]
      exact ⟨a, b, n, n, rfl, by omega, by omega, hb, n1, n2, n4, G, .refl, q⟩
    · rw [if_neg hl]
      rw [psrL_low ta (by omega)] at q
      exact ⟨G, .refl, q⟩
end DL.LW

set_option Elab.async false
set_option linter.all false
set_option maxRecDepth 100000
set_option maxHeartbeats 4000000
namespace DL.LW
open PySem PySem.Spec PyProof.Rows L2 DL TL PM
/-! LS: values that are the same. -/
/-! ### the same -/
theorem same_mono : ∀ {n : Nat} {G : DH} {x y : D}, same n G x y → same (n + 1) G x y
  | 0, _, _, _, h => h.elim
  | n + 1, G, x, y, h => by
    cases x with
    | non => exact h
    | bl b => exact h
    | int i => exact h
    | str s => exact h
    | tup xs =>
      obtain ⟨ys, e, h1, h2, h3⟩ := h
      exact ⟨ys, e, h1, h2, fun i a b ha hb => same_mono (h3 i a b ha hb)⟩
    | ref a =>
      rcases h with ⟨b, xs, ys, e, g1, g2, h1, h2, h3⟩ | h
      · exact .inl ⟨b, xs, ys, e, g1, g2, h1, h2, fun i a b ha hb => same_mono (h3 i a b ha hb)⟩
      · exact .inr h
    | lsv _ => exact h.elim
theorem same_le {m n : Nat} {G : DH} {x y : D} (h : same m G x y) (hm : m ≤ n) : same n G x y := by
  obtain ⟨k, rfl⟩ : ∃ k, n = m + k := ⟨n - m, by omega⟩
  clear hm
  induction k with
  | zero => exact h
  | succ k ih => exact same_mono ih
theorem same_int {n : Nat} {G : DH} {i : Int} : same (n + 1) G (.int i) (.int i) := rfl
theorem same_non {n : Nat} {G : DH} : same (n + 1) G .non .non := rfl
theorem same_bl {n : Nat} {G : DH} {b : Bool} : same (n + 1) G (.bl b) (.bl b) := rfl
theorem same_str {n : Nat} {G : DH} {s : Str} (h : s.length ≤ 600) : same (n + 1) G (.str s) (.str s) := ⟨rfl, h⟩
theorem same_tup {n : Nat} {G : DH} {xs : List D} (hl : xs.length ≤ 1000) (h : ∀ x ∈ xs, same n G x x) : same (n + 1) G (.tup xs) (.tup xs) :=
  ⟨xs, rfl, rfl, hl, fun i x y hx hy => by
    rw [hx] at hy
    cases hy
    exact h x (List.mem_of_getElem? hx)⟩
theorem same_tI {n : Nat} {G : DH} {l : List Int} (hl : l.length ≤ 1000) : same (n + 2) G (tI l) (tI l) := same_tup (by simpa using hl) fun x hx => by
  obtain ⟨i, _, rfl⟩ := List.mem_map.mp hx
  exact rfl
theorem same_pair {n : Nat} {G : DH} {s : Str} {x y : D} (hs : s.length ≤ 600) (h : same (n + 1) G x y) : same (n + 2) G (.tup [.str s, x]) (.tup [.str s, y]) :=
  ⟨[.str s, y], rfl, rfl, by show 2 ≤ 1000; decide, fun i u v hu hv => by
    rcases i with _ | _ | i
    · cases hu; cases hv; exact ⟨rfl, hs⟩
    · cases hu; cases hv; exact h
    · cases hu⟩
theorem same_lst {n : Nat} {G : DH} {a b : Addr} {xs ys : List D} (g1 : G a = some (.lst xs)) (g2 : G b = some (.lst ys)) (hl : xs.length = ys.length) (h2 : ys.length ≤ 1000) (h : ∀ (i : Nat) x y, xs[i]? = some x → ys[i]? = some y → same n G x y) : same (n + 1) G (.ref a) (.ref b) :=
  .inl ⟨b, xs, ys, rfl, g1, g2, hl, h2, h⟩
theorem same_dct {n : Nat} {G : DH} {a b : Addr} (g1 : G a = some (.dct [])) (g2 : G b = some (.dct [])) : same (n + 1) G (.ref a) (.ref b) := .inr ⟨b, rfl, g1, g2⟩
end DL.LW

set_option Elab.async false
set_option linter.all false
set_option maxRecDepth 100000
set_option maxHeartbeats 4000000
namespace DL.LW
open PySem PySem.Spec PyProof.Rows L2 DL TL PM
/-! L4: the law's calls of the integer polynomials' functions. -/
def S_f_law_very : DSp := fun ds G Q _ => ∃ (w v : Str) (x y : D) (t : Ty), ds = [.tup [.str w, x], .str v, y] ∧ w = v ∧ tyD G y = some t ∧ (t = .dict → tyD G x = some .dict) ∧ (t ≠ .dict → same 4 G x y) ∧ Q (.bl true) G
theorem run_f_law_very {Γ : GE} (h1 : Fn Γ "_law_same" ["told", "due"] (S_same 4)) {ds : List D} {G : DH} {Q : QD} {E : ED} (hl : ds.length = 3) (h : S_f_law_very ds G Q E) : Runs Γ m_f_law_very 3 ds G Q E := by
  obtain ⟨k1, d1, h1⟩ := h1
  obtain ⟨w, v, x, y, t, rfl, rfl, ht, q1, q2, q⟩ := h
  unfold Runs m_f_law_very
  simp [startD, dEnds, h1, ht]
  by_cases hd : t = .dict
  · rw [if_pos hd]
    exact ⟨.dict, q1 hd, G, .refl, q⟩
  · rw [if_neg hd]
    exact ⟨x, y, rfl, q2 hd, G, .refl, q⟩
/-! ### the words -/
def isIn (w : Str) (l : List String) : Prop := ∃ s ∈ l, w = Str.ofString s
def sWords : List String := ["degree", "derived", "mirrored", "turned", "content", "primitive"]
def dWords : List String := ["plus", "minus", "times", "composed", "scaled", "power", "value", "shifted"]
def fDegree (a : List Int) : XR := .ok (.int ((a.length : Int) - 1))
def fDerived (a : List Int) : XR := .ok (tI (trim (derL a)))
def fMirrored (a : List Int) : XR := .ok (tI (mirL a))
def fTurned (a : List Int) : XR := .ok (tI (trim a.reverse))
def fContent (a : List Int) : XR := .ok (.int (contL a))
def fPrimitive (a : List Int) : XR := .ok (tI (primL a))
def sgl (w : Str) (x : D) : XR := P1 (if w = "degree" then fDegree else if w = "derived" then fDerived else if w = "mirrored" then fMirrored else if w = "turned" then fTurned else if w = "content" then fContent else fPrimitive) x
def fPlus (a b : List Int) : XR := .ok (tI (psum a b 1))
def fMinus (a b : List Int) : XR := .ok (tI (psum a b (-1)))
def fTimes (a b : List Int) : XR := if 60 < degSum a b then .error (xMany (degSum a b)) else .ok (tI (pmul a b))
def fComposed (a b : List Int) : XR := if 0 < (a.length : Int) - 1 ∧ 0 < (b.length : Int) - 1 ∧ 60 < degMul a b then .error (xMany (degMul a b)) else .ok (tI (pcomp a b))
def fScaled (a : List Int) (n : Int) : XR := .ok (tI (trim (a.map (n * ·))))
def fPower (a : List Int) (n : Int) : XR := if 60 < degPow a n then .error (xMany (degPow a n)) else .ok (tI (ppow a n.toNat))
def fValue (a : List Int) (n : Int) : XR := .ok (.int (horner a n))
def fShifted (a : List Int) (n : Int) : XR := .ok (tI (pcomp a [n, 1]))
def dbl (w : Str) (x y : D) : XR :=
  if w = "plus" then P2 fPlus x y else if w = "minus" then P2 fMinus x y else if w = "times" then P2 fTimes x y else if w = "composed" then P2 fComposed x y
  else if w = "scaled" then P1 (fun a => PN none none (fScaled a) y) x else if w = "power" then P1 (fun a => PN (some 0) (some 12) (fPower a) y) x
  else if w = "value" then P1 (fun a => PN none none (fValue a) y) x else P1 (fun a => PN none none (fShifted a) y) x
structure LibS (Γ : GE) : Prop where
  degree : Γ.fn "degree" = some ⟨["one"], S_degree, [(0, ["one"], [0])], []⟩
  derived : Γ.fn "derived" = some ⟨["one"], S_derived, [(0, ["one"], [0])], []⟩
  mirrored : Γ.fn "mirrored" = some ⟨["one"], S_mirrored, [(0, ["one"], [0])], []⟩
  turned : Γ.fn "turned" = some ⟨["one"], S_turned, [(0, ["one"], [0])], []⟩
  content : Γ.fn "content" = some ⟨["one"], S_content, [(0, ["one"], [0])], []⟩
  primitive : Γ.fn "primitive" = some ⟨["one"], S_primitive, [(0, ["one"], [0])], []⟩
def S_f_law_single : DSp := fun ds G Q E => ∃ (w : Str) (x : D) (b : Bool), ds = [.str w, x, .bl b] ∧ isIn w sWords ∧ TZ G x ∧ SzP x ∧ post (sgl w x) Q E G
theorem post_sub {r : XR} {Q : QD} {E : ED} {G : DH} (h : post r Q E G) : post r (fun d G1 => ∃ G2, Sub G2 G1 ∧ Q d G2) (fun xd G1 => ∃ G2, Sub G2 G1 ∧ E xd G2) G := by
  cases r with
  | ok d => exact ⟨G, .refl, h⟩
  | error x => exact ⟨G, .refl, h⟩
theorem run_f_law_single {Γ : GE} (h1 : Γ.fn "degree" = some ⟨["one"], S_degree, [(0, ["one"], [0])], []⟩) (h2 : Γ.fn "derived" = some ⟨["one"], S_derived, [(0, ["one"], [0])], []⟩) (h3 : Γ.fn "mirrored" = some ⟨["one"], S_mirrored, [(0, ["one"], [0])], []⟩)
    (h4 : Γ.fn "turned" = some ⟨["one"], S_turned, [(0, ["one"], [0])], []⟩) (h5 : Γ.fn "content" = some ⟨["one"], S_content, [(0, ["one"], [0])], []⟩) (h6 : Γ.fn "primitive" = some ⟨["one"], S_primitive, [(0, ["one"], [0])], []⟩) {ds : List D} {G : DH} {Q : QD} {E : ED} (hl : ds.length = 3) (h : S_f_law_single ds G Q E) : Runs Γ m_f_law_single 3 ds G Q E := by
  obtain ⟨w, x, b, rfl, ⟨s, hs, rfl⟩, hx, hz, q⟩ := h
  have q := post_sub q
  unfold Runs m_f_law_single
  unfold sgl at q
  simp only [sWords, List.mem_cons, List.not_mem_nil, or_false] at hs
  rcases hs with rfl | rfl | rfl | rfl | rfl | rfl
  · simp at q
    cases b <;> (simp [startD, dEnds, h1, permL, and_assoc]; exact ⟨x, rfl, hx, hz, q⟩)
  · simp at q
    cases b <;> (simp [startD, dEnds, h2, permL, and_assoc]; exact ⟨x, rfl, hx, hz, q⟩)
  · simp at q
    cases b <;> (simp [startD, dEnds, h3, permL, and_assoc]; exact ⟨x, rfl, hx, hz, q⟩)
  · simp at q
    cases b <;> (simp [startD, dEnds, h4, permL, and_assoc]; exact ⟨x, rfl, hx, hz, q⟩)
  · simp at q
    cases b <;> (simp [startD, dEnds, h5, permL, and_assoc]; exact ⟨x, rfl, hx, hz, q⟩)
  · simp at q
    cases b <;> (simp [startD, dEnds, h6, permL, and_assoc]; exact ⟨x, rfl, hx, hz, q⟩)
def S_f_law_double : DSp := fun ds G Q E => ∃ (w : Str) (x y : D) (b : Bool), ds = [.str w, x, y, .bl b] ∧ isIn w dWords ∧ TZ G x ∧ TZ G y ∧ SzP x ∧ SzP y ∧ SzN y ∧ (w = "composed" → ∀ a b, x = tI a → y = tI b → a.length ≤ 25 ∧ b.length ≤ 25) ∧ post (dbl w x y) Q E G
theorem run_f_law_double {Γ : GE} (h1 : Γ.fn "plus" = some ⟨["one", "other"], S_plus, [(0, ["other", "one"], [1, 0])], []⟩) (h2 : Γ.fn "minus" = some ⟨["one", "other"], S_minus, [(0, ["other", "one"], [1, 0])], []⟩) (h3 : Γ.fn "times" = some ⟨["one", "other"], S_times, [(0, ["other", "one"], [1, 0])], []⟩)
    (h4 : Γ.fn "composed" = some ⟨["one", "other"], S_composed, [(0, ["other", "one"], [1, 0])], []⟩) (h5 : Γ.fn "scaled" = some ⟨["one", "number"], S_scaled, [(0, ["number", "one"], [1, 0])], []⟩) (h6 : Γ.fn "to_power" = some ⟨["one", "number"], S_to_power, [(0, ["number", "one"], [1, 0])], []⟩)
    (h7 : Γ.fn "value_at" = some ⟨["one", "number"], S_value_at, [(0, ["number", "one"], [1, 0])], []⟩) (h8 : Γ.fn "shifted" = some ⟨["one", "number"], S_shifted, [(0, ["number", "one"], [1, 0])], []⟩) {ds : List D} {G : DH} {Q : QD} {E : ED} (hl : ds.length = 4) (h : S_f_law_double ds G Q E) : Runs Γ m_f_law_double 4 ds G Q E := by
  obtain ⟨w, x, y, b, rfl, ⟨s, hs, rfl⟩, hx, hy, hz, hzy, hn, hc, q⟩ := h
  have q := post_sub q
  have hyt := hy.1.1
  unfold Runs m_f_law_double
  unfold dbl at q
  simp only [dWords, List.mem_cons, List.not_mem_nil, or_false] at hs
  rcases hs with rfl | rfl | rfl | rfl | rfl | rfl | rfl | rfl
  · simp at q
    cases b <;> (simp [startD, dEnds, h1, permL, and_assoc]; exact ⟨x, y, rfl, hx, hy, hz, hzy, fun _ _ _ _ => trivial, q⟩)
  · simp at q
    cases b <;> (simp [startD, dEnds, h2, permL, and_assoc]; exact ⟨x, y, rfl, hx, hy, hz, hzy, fun _ _ _ _ => trivial, q⟩)
  · simp at q
    cases b <;> (simp [startD, dEnds, h3, permL, and_assoc]; exact ⟨x, y, rfl, hx, hy, hz, hzy, fun _ _ _ _ => trivial, q⟩)
  · simp at q
    cases b <;> (simp [startD, dEnds, h4, permL, and_assoc]; exact ⟨x, y, rfl, hx, hy, hz, hzy, hc rfl, q⟩)
  · simp at q
    cases b <;> (simp [startD, dEnds, h5, permL, and_assoc]; exact ⟨x, y, rfl, hx, hyt, hz, hn, fun _ _ _ _ => trivial, q⟩)
  · simp at q
    cases b <;> (simp [startD, dEnds, h6, permL, and_assoc]; exact ⟨x, y, rfl, hx, hyt, hz, hn, fun _ _ _ _ => trivial, q⟩)
  · simp at q
    cases b <;> (simp [startD, dEnds, h7, permL, and_assoc]; exact ⟨x, y, rfl, hx, hyt, hz, hn, fun _ _ _ _ => trivial, q⟩)
  · simp at q
    cases b <;> (simp [startD, dEnds, h8, permL, and_assoc]; exact ⟨x, y, rfl, hx, hyt, hz, hn, fun _ _ _ _ => trivial, q⟩)
theorem single_congr {ds ds' : List D} {G G' : DH} {Q : QD} {E : ED} (h : ds = ds') (hg : G = G') : S_f_law_single ds G Q E = S_f_law_single ds' G' Q E := by rw [h, hg]
theorem double_congr {ds ds' : List D} {G G' : DH} {Q : QD} {E : ED} (h : ds = ds') (hg : G = G') : S_f_law_double ds G Q E = S_f_law_double ds' G' Q E := by rw [h, hg]
theorem post_mono {r : XR} {Q Q' : QD} {E E' : ED} {G : DH} (h : post r Q E G) (hq : ∀ d G, Q d G → Q' d G) (he : ∀ x G, E x G → E' x G) : post r Q' E' G := by
  cases r with
  | ok d => exact hq d G h
  | error x => exact he x G h
/-! ### caught -/
def capD (r : XR) : D := match r with
  | .ok d => .tup [.str "told", d]
  | .error e => .tup [.str (if e.cls = "InvalidPolynomial" then "polynomial" else if e.cls = "InvalidNumber" then "number" else "many"), ((e.fs.head?).map (·.2)).getD .non]
/-- one of the three -/
def okX (r : XR) : Prop := (∃ d, r = .ok d) ∨ (∃ x, r = .error (xPoly x)) ∨ (∃ x, r = .error (xNum x)) ∨ ∃ n, r = .error (xMany n)
theorem okX_P1 {f : List Int → XR} {x : D} (h : ∀ a, okX (f a)) : okX (P1 f x) := by
  rcases ip_cases x with e | ⟨a, rfl, t⟩
  · rw [P1_bad e]; exact .inr (.inl ⟨_, rfl⟩)
  · rw [P1_trm t]; exact h a
theorem okX_PN {lo hi : Option Int} {f : Int → XR} {y : D} (h : ∀ a, okX (f a)) : okX (PN lo hi f y) := by
  rcases num_cases lo hi y with ⟨_, e⟩ | ⟨n, _, _, _, e⟩
  · rw [e]; exact .inr (.inr (.inl ⟨_, rfl⟩))
  · rw [e]; exact h n
theorem okX_sgl {w : Str} {x : D} : okX (sgl w x) := by
  unfold sgl
  refine okX_P1 fun a => .inl ?_
  repeat' split
  all_goals exact ⟨_, rfl⟩
theorem okX_dbl {w : Str} {x y : D} : okX (dbl w x y) := by
  have t : ∀ a b, okX (fTimes a b) := fun a b => by unfold fTimes; split; exact .inr (.inr (.inr ⟨_, rfl⟩)); exact .inl ⟨_, rfl⟩
  have c : ∀ a b, okX (fComposed a b) := fun a b => by unfold fComposed; split; exact .inr (.inr (.inr ⟨_, rfl⟩)); exact .inl ⟨_, rfl⟩
  have p : ∀ a b, okX (fPower a b) := fun a b => by unfold fPower; split; exact .inr (.inr (.inr ⟨_, rfl⟩)); exact .inl ⟨_, rfl⟩
  unfold dbl P2
  repeat' split
  all_goals refine okX_P1 fun a => ?_
  · exact okX_P1 fun _ => .inl ⟨_, rfl⟩
  · exact okX_P1 fun _ => .inl ⟨_, rfl⟩
  · exact okX_P1 (t a)
  · exact okX_P1 (c a)
  · exact okX_PN fun _ => .inl ⟨_, rfl⟩
  · exact okX_PN (p a)
  · exact okX_PN fun _ => .inl ⟨_, rfl⟩
  · exact okX_PN fun _ => .inl ⟨_, rfl⟩
def res (w : Str) (x y : D) : XR := if w = "degree" ∨ w = "derived" ∨ w = "mirrored" ∨ w = "turned" ∨ w = "content" ∨ w = "primitive" then sgl w x else dbl w x y
def S_f_law_caught : DSp := fun ds G Q _ => ∃ (a : Addr) (B : Int) (w : Str) (x y : D), ds = [.ref a, .str w, x, y] ∧ Bx B a G G ∧ B < 900000000 ∧ (isIn w sWords ∨ isIn w dWords) ∧ (∀ G', Kp a G G' → Bx (B + 1) a G G' → TZ G' x ∧ TZ G' y) ∧ SzP x ∧ SzP y ∧ SzN y ∧ (w = "composed" → ∀ a b, x = tI a → y = tI b → a.length ≤ 25 ∧ b.length ≤ 25) ∧
  ∀ G', Bx (B + 1) a G G' → Q (capD (res w x y)) G'
theorem run_f_law_caught {Γ : GE} (h1 : Fn Γ "_law_take" ["box", "many"] S_f_law_take) (h2 : Fn Γ "_law_single" ["word", "one", "by_name"] S_f_law_single) (h3 : Fn Γ "_law_double" ["word", "one", "other", "by_name"] S_f_law_double)
    (b1 : Γ.exb "InvalidPolynomial" = true) (b2 : Γ.exb "InvalidNumber" = true) (b3 : Γ.exb "TooMany" = true)
    (e11 : Γ.exm "InvalidPolynomial" "InvalidPolynomial" = some true) (e21 : Γ.exm "InvalidNumber" "InvalidPolynomial" = some false) (e22 : Γ.exm "InvalidNumber" "InvalidNumber" = some true)
    (e31 : Γ.exm "TooMany" "InvalidPolynomial" = some false) (e32 : Γ.exm "TooMany" "InvalidNumber" = some false) (e33 : Γ.exm "TooMany" "TooMany" = some true) {ds : List D} {G : DH} {Q : QD} {E : ED} (hl : ds.length = 4) (h : S_f_law_caught ds G Q E) : Runs Γ m_f_law_caught_v2 6 ds G Q E := by
  obtain ⟨k1, d1, h1⟩ := h1
  obtain ⟨k2, d2, h2⟩ := h2
  obtain ⟨k3, d3, h3⟩ := h3
  obtain ⟨a, B, w, x, y, rfl, hb, hB, hw, ht, hx, hy, hn, hc, q⟩ := h
  unfold Runs m_f_law_caught_v2
  simp [startD, dEnds, List.replicate, h1, h2, h3, b1, b2, b3]
  refine take_b hb (by omega) (by decide) (by decide) fun c1 G1 y0 y1 bb1 e1 => ?_
  have q := q G1 bb1
  obtain ⟨tx, ty⟩ := ht G1 e1 bb1
  simp
  intro p hp
  have sp : Sub G1 (put G1 p (.lst [.str "degree", .str "derived", .str "mirrored", .str "turned", .str "content", .str "primitive"])) := .put hp
  have bb2 := bb1.put (o := .lst [.str "degree", .str "derived", .str "mirrored", .str "turned", .str "content", .str "primitive"]) hp
  obtain ⟨tx, ty⟩ := ht _ (e1.trans (.sub sp)) bb2
  have key : ∀ (r : XR) (De : DEnds) (σ : Sg) (G2 : DH), De.rt = (fun d G1 => ∃ G2, Sub G2 G1 ∧ Q d G2) → gt σ 5 = none → σ.length = 6 → okX r → capD r = capD (res w x y) → Sub G1 G2 →
      post r (fun x G1 => ∃ G2, Sub G2 G1 ∧ Q (.tup [.str "told", x]) G2) (fun xd G2 => wpH Γ (fun xd x G1 => ∃ G2, Sub G2 G1 ∧ E xd G2) De [⟨"InvalidPolynomial", some 5, (.tup (.cons (.str "polynomial") (.cons (.exf 5 "given") .nil)))⟩, ⟨"InvalidNumber", some 5, (.tup (.cons (.str "number") (.cons (.exf 5 "given") .nil)))⟩, ⟨"TooMany", some 5, (.tup (.cons (.str "many") (.cons (.exf 5 "count") .nil)))⟩] xd σ G2) G2 := by
    intro r De σ G2 hD hσ hl ok er s2
    have fin : ∀ d, capD r = d → ∃ G3, Sub G3 G2 ∧ Q d G3 := fun d e => ⟨G1, s2, by rw [← e, er]; exact q⟩
    have hst : ∀ v, gt (st σ 5 v) 5 = v := by
      intro v
      rcases σ with _ | ⟨a, _ | ⟨b, _ | ⟨c, _ | ⟨d, _ | ⟨e, _ | ⟨f, _ | ⟨g, σ⟩⟩⟩⟩⟩⟩⟩ <;> first | (simp at hl; done) | rfl
    rcases ok with ⟨d, rfl⟩ | ⟨v, rfl⟩ | ⟨v, rfl⟩ | ⟨n, rfl⟩
    · exact fin _ rfl
    · simp [xPoly, raisedBy, e11, hD, hst]
      exact fun a ha => fin _ rfl
    · simp [xNum, raisedBy, e21, e22, hD, hst]
      exact fun a ha => fin _ (by simp [capD, xNum, raisedBy])
    · simp [xMany, raisedBy, e31, e32, e33, hD, hst]
      exact fun a ha => fin _ (by simp [capD, xMany, raisedBy])
  have hres : (isIn w sWords → res w x y = sgl w x) ∧ (isIn w dWords → res w x y = dbl w x y) := by
    constructor
    · rintro ⟨s, hs, rfl⟩
      simp only [sWords, List.mem_cons, List.not_mem_nil, or_false] at hs
      rcases hs with rfl | rfl | rfl | rfl | rfl | rfl <;> simp [res]
    · rintro ⟨s, hs, rfl⟩
      simp only [dWords, List.mem_cons, List.not_mem_nil, or_false] at hs
      rcases hs with rfl | rfl | rfl | rfl | rfl | rfl | rfl | rfl <;> simp [res]
  rcases hw with hw | hw
  · have hr := hres.1 hw
    rw [if_pos (by
      obtain ⟨s, hs, rfl⟩ := hw
      simp only [sWords, List.mem_cons, List.not_mem_nil, or_false] at hs
      rcases hs with rfl | rfl | rfl | rfl | rfl | rfl <;> simp)]
    refine ⟨w, x, decide (c1 = 1), rfl, hw, tx, hx, ?_⟩
    exact post_mono (key (sgl w x) (dEnds fun d G1 => ∃ G2, Sub G2 G1 ∧ Q d G2) [none, none, none, none, none, none] _ rfl rfl rfl okX_sgl (by rw [hr]) sp) (fun _ _ h => h) (fun xd G h => by simpa [dEnds] using h)
  · have hr := hres.2 hw
    rw [if_neg (by
      obtain ⟨s, hs, rfl⟩ := hw
      simp only [dWords, List.mem_cons, List.not_mem_nil, or_false] at hs
      rcases hs with rfl | rfl | rfl | rfl | rfl | rfl | rfl | rfl <;> simp)]
    refine ⟨w, x, y, decide (c1 = 1), rfl, hw, tx, ty, hx, hy, hn, hc, ?_⟩
    exact post_mono (key (dbl w x y) (dEnds fun d G1 => ∃ G2, Sub G2 G1 ∧ Q d G2) [none, none, none, none, none, none] _ rfl rfl rfl okX_dbl (by rw [hr]) sp) (fun _ _ h => h) (fun xd G h => by simpa [dEnds] using h)
end DL.LW

set_option Elab.async false
set_option linter.all false
set_option maxRecDepth 100000
set_option maxHeartbeats 4000000
set_option exponentiation.threshold 10000
namespace DL.LW
open PySem PySem.Spec PyProof.Rows L2 DL TL PM
/-! V7: k04: the law's calls (printed by gen_v7.py). -/
def words4 : List String := ["common", "divides", "quotient", "pseudo"]
noncomputable def f04 (w : Str) (a b : List Int) : XR := if w = "common" then fCom a b else if w = "divides" then fDvd a b else if w = "quotient" then fQuo a b else fPse a b
noncomputable def res04 (w : Str) (x y : D) : XR := P2 (f04 w) x y
def cap4 (r : XR) : D := match r with
  | .ok d => .tup [.str "told", d]
  | .error e => if e.cls = "InvalidPolynomial" then .tup [.str "polynomial", (e.fs.lookup (Str.ofString "given")).getD .non] else .tup [.str "zero", .non]
def ok4 (r : XR) : Prop := (∃ d, r = .ok d) ∨ (∃ v, r = .error (xPoly v)) ∨ r = .error xZ
theorem ok4_P1 {f : List Int → XR} {x : D} (h : ∀ a, ok4 (f a)) : ok4 (P1 f x) := by
  rcases ip_cases x with e | ⟨a, rfl, t⟩
  · rw [P1_bad e]; exact .inr (.inl ⟨_, rfl⟩)
  · rw [P1_trm t]; exact h a
theorem ok4_res {w : Str} {x y : D} : ok4 (res04 w x y) := by
  unfold res04 P2
  refine ok4_P1 fun a => ok4_P1 fun b => ?_
  unfold f04 fCom fDvd fQuo fPse
  repeat' split
  all_goals first | exact .inl ⟨_, rfl⟩ | exact .inr (.inr rfl)
def cnd4 (x y : D) : Prop := ∀ a b, x = tI a → y = tI b → Trm a → Trm b → C04 a b
def S_f_law_caught_v4 : DSp := fun ds G Q _ => ∃ (a : Addr) (B : Int) (w : Str) (x y : D), ds = [.ref a, .str w, x, y] ∧ Bx B a G G ∧ B < 900000000 ∧ isIn w words4 ∧ (∀ G', Kp a G G' → TZ G' x ∧ TZ G' y) ∧ cnd4 x y ∧ ∀ G', Bx (B + 1) a G G' → Q (cap4 (res04 w x y)) G'
theorem run_f_law_caught_v4 {Γ : GE} (h1 : Fn Γ "_law_take" ["box", "many"] S_f_law_take) (h2 : Fk Γ "common" ["one", "other"] S_common 0 ["other", "one"] [1, 0] []) (h3 : Fk Γ "divides" ["one", "other"] S_divides 0 ["other", "one"] [1, 0] []) (h4 : Fk Γ "quotient" ["one", "other"] S_quotient 0 ["other", "one"] [1, 0] []) (h5 : Fk Γ "pseudo_rest" ["one", "other"] S_pseudo_rest 0 ["other", "one"] [1, 0] [])
    (b1 : Γ.exb "InvalidPolynomial" = true) (b3 : Γ.exb "DividedByZero" = true)
    (e11 : Γ.exm "InvalidPolynomial" "InvalidPolynomial" = some true) (e31 : Γ.exm "DividedByZero" "InvalidPolynomial" = some false) (e33 : Γ.exm "DividedByZero" "DividedByZero" = some true) {ds : List D} {G : DH} {Q : QD} {E : ED} (hl : ds.length = 4) (h : S_f_law_caught_v4 ds G Q E) : Runs Γ m_f_law_caught_v4 6 ds G Q E := by
  obtain ⟨k1, d1, h1⟩ := h1
  obtain ⟨k2, h2, m2⟩ := h2
  obtain ⟨k3, h3, m3⟩ := h3
  obtain ⟨k4, h4, m4⟩ := h4
  obtain ⟨k5, h5, m5⟩ := h5
  obtain ⟨a, B, w, x, y, rfl, hb, hB, ⟨s, hs, rfl⟩, ht, hc, q⟩ := h
  unfold Runs m_f_law_caught_v4
  simp [startD, dEnds, List.replicate, h1, b1, b3]
  refine take_b hb (by omega) (by decide) (by decide) fun c1 G1 y0 y1 bb1 e1 => ?_
  have q := q G1 bb1
  obtain ⟨t1, t2⟩ := ht G1 e1
  have okr : ok4 (res04 (Str.ofString s) x y) := ok4_res
  have key : ∀ (r : XR) (De : DEnds) (σ : Sg), De.rt = (fun d G1 => ∃ G2, Sub G2 G1 ∧ Q d G2) → gt σ 5 = none → σ.length = 6 → ok4 r → cap4 r = cap4 (res04 (Str.ofString s) x y) →
      post r (fun x G1 => ∃ G2, Sub G2 G1 ∧ Q (.tup [.str "told", x]) G2) (fun xd G2 => wpH Γ (fun xd x G1 => ∃ G2, Sub G2 G1 ∧ E xd G2) De [⟨"InvalidPolynomial", some 5, (.tup (.cons (.str "polynomial") (.cons (.exf 5 "given") .nil)))⟩, ⟨"DividedByZero", none, (.tup (.cons (.str "zero") (.cons .non .nil)))⟩] xd σ G2) G1 := by
    intro r De σ hD hσ hl ok er
    have fin : ∀ d, cap4 r = d → ∃ G3, Sub G3 G1 ∧ Q d G3 := fun d e => ⟨G1, .refl, by rw [← e, er]; exact q⟩
    have hst : ∀ v, gt (st σ 5 v) 5 = v := by
      intro v
      rcases σ with _ | ⟨a, _ | ⟨b, _ | ⟨c, _ | ⟨d, _ | ⟨e, _ | ⟨f, _ | ⟨g, σ⟩⟩⟩⟩⟩⟩⟩ <;> first | (simp at hl; done) | rfl
    rcases ok with ⟨d, rfl⟩ | ⟨v, rfl⟩ | rfl
    · exact fin _ rfl
    · simp [xPoly, raisedBy, e11, hD, hst]
      exact fun a ha => fin _ (by simp [cap4, xPoly, raisedBy])
    · simp [xZ, e31, e33, hD]
      exact fun a ha => fin _ (by simp [cap4, xZ])
  simp only [words4, List.mem_cons, List.not_mem_nil, or_false] at hs
  rcases hs with rfl | rfl | rfl | rfl
  · have hr : res04 (Str.ofString "common") x y = P2 fCom x y := by
      have : f04 (Str.ofString "common") = fCom := by funext a b; simp [f04]
      unfold res04; rw [this]
    by_cases hc1 : c1 = 1
    · simp [hc1, h2, m2, permL, and_assoc]
      exact ⟨x, y, rfl, t1, t2, hc, post_mono (key (P2 fCom x y) (dEnds fun d G1 => ∃ G2, Sub G2 G1 ∧ Q d G2) [none, none, none, none, none, none] rfl rfl rfl (hr ▸ okr) (by rw [hr])) (fun _ _ h => h) (fun xd G h => by simpa [dEnds] using h)⟩
    · simp [hc1, h2]
      exact ⟨x, y, rfl, t1, t2, hc, post_mono (key (P2 fCom x y) (dEnds fun d G1 => ∃ G2, Sub G2 G1 ∧ Q d G2) [none, none, none, none, none, none] rfl rfl rfl (hr ▸ okr) (by rw [hr])) (fun _ _ h => h) (fun xd G h => by simpa [dEnds] using h)⟩
  · have hr : res04 (Str.ofString "divides") x y = P2 fDvd x y := by
      have : f04 (Str.ofString "divides") = fDvd := by funext a b; simp [f04]
      unfold res04; rw [this]
    by_cases hc1 : c1 = 1
    · simp [hc1, h3, m3, permL, and_assoc]
      exact ⟨x, y, rfl, t1, t2, hc, post_mono (key (P2 fDvd x y) (dEnds fun d G1 => ∃ G2, Sub G2 G1 ∧ Q d G2) [none, none, none, none, none, none] rfl rfl rfl (hr ▸ okr) (by rw [hr])) (fun _ _ h => h) (fun xd G h => by simpa [dEnds] using h)⟩
    · simp [hc1, h3]
      exact ⟨x, y, rfl, t1, t2, hc, post_mono (key (P2 fDvd x y) (dEnds fun d G1 => ∃ G2, Sub G2 G1 ∧ Q d G2) [none, none, none, none, none, none] rfl rfl rfl (hr ▸ okr) (by rw [hr])) (fun _ _ h => h) (fun xd G h => by simpa [dEnds] using h)⟩
  · have hr : res04 (Str.ofString "quotient") x y = P2 fQuo x y := by
      have : f04 (Str.ofString "quotient") = fQuo := by funext a b; simp [f04]
      unfold res04; rw [this]
    by_cases hc1 : c1 = 1
    · simp [hc1, h4, m4, permL, and_assoc]
      exact ⟨x, y, rfl, t1, t2, hc, post_mono (key (P2 fQuo x y) (dEnds fun d G1 => ∃ G2, Sub G2 G1 ∧ Q d G2) [none, none, none, none, none, none] rfl rfl rfl (hr ▸ okr) (by rw [hr])) (fun _ _ h => h) (fun xd G h => by simpa [dEnds] using h)⟩
    · simp [hc1, h4]
      exact ⟨x, y, rfl, t1, t2, hc, post_mono (key (P2 fQuo x y) (dEnds fun d G1 => ∃ G2, Sub G2 G1 ∧ Q d G2) [none, none, none, none, none, none] rfl rfl rfl (hr ▸ okr) (by rw [hr])) (fun _ _ h => h) (fun xd G h => by simpa [dEnds] using h)⟩
  · have hr : res04 (Str.ofString "pseudo") x y = P2 fPse x y := by
      have : f04 (Str.ofString "pseudo") = fPse := by funext a b; simp [f04]
      unfold res04; rw [this]
    by_cases hc1 : c1 = 1
    · simp [hc1, h5, m5, permL, and_assoc]
      exact ⟨x, y, rfl, t1, t2, hc, post_mono (key (P2 fPse x y) (dEnds fun d G1 => ∃ G2, Sub G2 G1 ∧ Q d G2) [none, none, none, none, none, none] rfl rfl rfl (hr ▸ okr) (by rw [hr])) (fun _ _ h => h) (fun xd G h => by simpa [dEnds] using h)⟩
    · simp [hc1, h5]
      exact ⟨x, y, rfl, t1, t2, hc, post_mono (key (P2 fPse x y) (dEnds fun d G1 => ∃ G2, Sub G2 G1 ∧ Q d G2) [none, none, none, none, none, none] rfl rfl rfl (hr ▸ okr) (by rw [hr])) (fun _ _ h => h) (fun xd G h => by simpa [dEnds] using h)⟩
end DL.LW

set_option Elab.async false
set_option linter.all false
set_option maxRecDepth 100000
set_option maxHeartbeats 4000000
namespace DL.LW
open PySem PySem.Spec PyProof.Rows L2 DL TL PM
/-! LV: values that are asked, and what is handed in their place. -/
/-- a value without lists and dicts -/
def Pb (b : D) : Prop := ∀ G, TZ G b ∧ same 4 G b b ∧ ∃ t, tyD G b = some t ∧ t ≠ .list ∧ t ≠ .dict
/-- a value that is asked, and what is handed in its place -/
def Cpy (a : Addr) (G : DH) (x b : D) : Prop := (x = b ∧ Pb b) ∨ (∃ (e e' : Addr) (l : List Int), b = .ref e ∧ x = .ref e' ∧ e ≠ a ∧ e' ≠ a ∧ G e = some (.lst (iL l)) ∧ G e' = some (.lst (iL l)) ∧ l.length ≤ 100) ∨ ∃ e : Addr, b = .ref e ∧ x = .ref e ∧ e ≠ a ∧ G e = some (.dct [])
theorem Cpy.kp {a : Addr} {G G' : DH} {x b : D} (h : Cpy a G x b) (k : Kp a G G') : Cpy a G' x b := by
  rcases h with ⟨rfl, h⟩ | ⟨e, e', l, h1, h2, h3, h4, h5, h6, h7⟩ | ⟨e, h1, h2, h3, h4⟩
  · exact .inl ⟨rfl, h⟩
  · exact .inr (.inl ⟨e, e', l, h1, h2, h3, h4, k _ _ h3 h5, k _ _ h4 h6, h7⟩)
  · exact .inr (.inr ⟨e, h1, h2, h3, k _ _ h3 h4⟩)
theorem TZ.ref {G : DH} {e : Addr} {t : Ty} (h : tyD G (.ref e) = some t) : TZ G (.ref e) := ⟨⟨⟨t, h⟩, fun ds e => by cases e⟩, fun ds e => by cases e⟩
theorem Cpy.tz {a : Addr} {G : DH} {x b : D} (h : Cpy a G x b) : TZ G x ∧ TZ G b := by
  rcases h with ⟨rfl, h⟩ | ⟨e, e', l, rfl, rfl, h3, h4, h5, h6, h7⟩ | ⟨e, rfl, rfl, h3, h4⟩
  · exact ⟨(h G).1, (h G).1⟩
  · exact ⟨.ref (ty_lst h6), .ref (ty_lst h5)⟩
  · exact ⟨.ref (ty_dct h4), .ref (ty_dct h4)⟩
theorem pb_str {s : Str} (h : s.length ≤ 600) : Pb (.str s) := fun G => ⟨⟨⟨⟨_, rfl⟩, fun ds e => by cases e⟩, fun ds e => by cases e⟩, same_str h, _, rfl, by decide, by decide⟩
theorem pb_int {i : Int} : Pb (.int i) := fun G => ⟨⟨⟨⟨_, rfl⟩, fun ds e => by cases e⟩, fun ds e => by cases e⟩, same_int, _, rfl, by decide, by decide⟩
theorem pb_non : Pb .non := fun G => ⟨⟨⟨⟨_, rfl⟩, fun ds e => by cases e⟩, fun ds e => by cases e⟩, same_non, _, rfl, by decide, by decide⟩
theorem pb_bl {b : Bool} : Pb (.bl b) := fun G => ⟨⟨⟨⟨_, rfl⟩, fun ds e => by cases e⟩, fun ds e => by cases e⟩, same_bl, _, rfl, by decide, by decide⟩
/-- simple, to a depth of one tuple -/
def Pc (d : D) : Prop := ∀ G, (∃ t, tyD G d = some t) ∧ same 3 G d d
theorem pc_int {i : Int} : Pc (.int i) := fun G => ⟨⟨_, rfl⟩, same_int⟩
theorem pc_bl {i : Bool} : Pc (.bl i) := fun G => ⟨⟨_, rfl⟩, same_bl⟩
theorem pc_non : Pc .non := fun G => ⟨⟨_, rfl⟩, same_non⟩
theorem pc_str {s : Str} (h : s.length ≤ 600) : Pc (.str s) := fun G => ⟨⟨_, rfl⟩, same_str h⟩
theorem pc_ints {l : List Int} (h : l.length ≤ 100) : Pc (tI l) := fun G => ⟨⟨_, rfl⟩, same_tI (by omega)⟩
theorem pb_tup {ds : List D} (hl : ds.length ≤ 100) (h : ∀ d ∈ ds, Pc d) : Pb (.tup ds) := fun G => ⟨⟨⟨⟨_, rfl⟩, fun es e d hd => by cases e; exact (h d hd G).1⟩, fun es e => by cases e; omega⟩, same_tup (by omega) fun d hd => (h d hd G).2, _, rfl, by decide, by decide⟩
end DL.LW

set_option Elab.async false
set_option linter.all false
set_option maxRecDepth 100000
set_option maxHeartbeats 4000000
namespace DL.LW
open PySem PySem.Spec PyProof.Rows L2 DL TL PM
/-! L5: k01: what is refused. -/
def badL (e1 e2 e3 : Addr) : List D := [.non, .str "1", .int 0, .ref e1, .ref e2, .tup [.int 0], .tup [.int 1, .int 0], .tup [.bl true], .tup [.str "1"], .tup [.non], .ref e3, .tup [.tup [.int 1, .int 1]], .tup [.int 1, .tup [.int 2, .int 1]], .tup [.int 0, .int 1, .int 0], .tup [.int 1, .bl true], .tup [.int 1, .non], .str "x"]
theorem sub_none {G G' : DH} (h : Sub G G') {a : Addr} (ha : G' a = none) : G a = none := by
  cases e : G a with
  | none => rfl
  | some o => rw [h _ _ e] at ha; cases ha
def S_f_law_bad_ones : DSp := fun ds G Q _ => ds = [] ∧ ∀ (p e1 e2 e3 : Addr) (G' : DH), Sub G G' → G e1 = none → G e2 = none → G e3 = none → G p = none → G' e1 = some (.lst []) → G' e2 = some (.lst [.int 1]) → G' e3 = some (.dct []) → G' p = some (.lst (badL e1 e2 e3)) → Q (.ref p) G'
theorem run_f_law_bad_ones {Γ : GE} {ds : List D} {G : DH} {Q : QD} {E : ED} (hl : ds.length = 0) (h : S_f_law_bad_ones ds G Q E) : Runs Γ m_f_law_bad_ones 0 ds G Q E := by
  obtain ⟨rfl, q⟩ := h
  unfold Runs m_f_law_bad_ones
  simp [startD, dEnds]
  intro e1 he1 e2 he2 e3 he3 p hp
  have f2 := sub_none (Sub.put (o := .lst []) he1) he2
  have f3 := sub_none (Sub.put (o := .lst []) he1) (sub_none (Sub.put (o := .lst [.int 1]) he2) he3)
  have f4 := sub_none (Sub.put (o := .lst []) he1) (sub_none (Sub.put (o := .lst [.int 1]) he2) (sub_none (Sub.put (o := .dct []) he3) hp))
  refine ⟨_, .refl, q p e1 e2 e3 _ ((Sub.put he1).trans ((Sub.put he2).trans ((Sub.put he3).trans (.put hp)))) he1 f2 f3 f4 ?_ ?_ ?_ put_same⟩
  · have h1 := (Sub.put he2 (o := .lst [.int 1])) e1 _ put_same
    have h2 := (Sub.put he3 (o := .dct [])) _ _ h1
    exact (Sub.put hp) _ _ h2
  · have h2 := (Sub.put he3 (o := .dct [])) e2 _ put_same
    exact (Sub.put hp) _ _ h2
  · exact (Sub.put hp) _ _ put_same
theorem Cpy.very {a : Addr} {G : DH} {x b : D} {w : Str} {Q : QD} {E : ED} (h : Cpy a G x b) (q : Q (.bl true) G) : S_f_law_very [.tup [.str w, x], .str w, b] G Q E := by
  rcases h with ⟨rfl, h⟩ | ⟨e, e', l, rfl, rfl, h3, h4, h5, h6, h7⟩ | ⟨e, rfl, rfl, h3, h4⟩
  · obtain ⟨t, ht, n1, n2⟩ := (h G).2.2
    exact ⟨w, w, x, x, t, rfl, rfl, ht, fun z => absurd z n2, fun _ => (h G).2.1, q⟩
  · refine ⟨w, w, _, _, .list, rfl, rfl, ty_lst h5, (fun z => by cases z), fun _ => ?_, q⟩
    refine .inl ⟨e, iL l, iL l, rfl, h6, h5, rfl, by simp; omega, fun i u v hu hv => ?_⟩
    rw [hu] at hv
    cases hv
    obtain ⟨_, rfl⟩ := iL_some hu
    exact rfl
  · exact ⟨w, w, _, _, .dict, rfl, rfl, ty_dct h4, fun _ => ty_dct h4, fun z => absurd rfl z, q⟩
def S_f_law_handed : DSp := fun ds G Q _ => ∃ (a : Addr) (B : Int) (b : D), ds = [b] ∧ Bx B a G G ∧ Cpy a G b b ∧ ∀ x G', Bx B a G G' → Cpy a G' x b → Q x G'
theorem run_f_law_handed {Γ : GE} {ds : List D} {G : DH} {Q : QD} {E : ED} (hl : ds.length = 1) (h : S_f_law_handed ds G Q E) : Runs Γ m_f_law_handed 2 ds G Q E := by
  obtain ⟨a, B, b, rfl, hb, hc, q⟩ := h
  have hsz := sizeLine_eq
  unfold Runs m_f_law_handed
  rcases id hc with ⟨_, h⟩ | ⟨e, e', l, rfl, h2, h3, h4, h5, h6, h7⟩ | ⟨e, rfl, h2, h3, h4⟩
  · obtain ⟨t, ht, n1, n2⟩ := (h G).2.2
    simp [startD, dEnds, ht, n1, List.replicate]
    exact ⟨G, .refl, q b G hb hc⟩
  · have f := sqAt_some.mpr h5
    simp [startD, dEnds, ty_lst h5, f, List.replicate]
    refine ⟨by omega, lc_all id (srcOk_one f) (fun d hd K1 K0 z => ?_) ?_⟩
    · simp
      exact z
    · intro p hp
      rw [List.map_id]
      exact ⟨_, .refl, q (.ref p) _ (hb.put hp) (.inr (.inl ⟨e, p, l, rfl, rfl, h3, hb.ne hp, by rw [put_ne (ne_free h5 hp)]; exact h5, put_same, h7⟩))⟩
  · simp [startD, dEnds, ty_dct h4, List.replicate]
    exact ⟨G, .refl, q _ G hb hc⟩
theorem bad_all {a e1 e2 e3 : Addr} {G : DH} (n1 : e1 ≠ a) (n2 : e2 ≠ a) (n3 : e3 ≠ a) (g1 : G e1 = some (.lst [])) (g2 : G e2 = some (.lst [.int 1])) (g3 : G e3 = some (.dct [])) :
    ∀ b ∈ badL e1 e2 e3, Cpy a G b b ∧ isIP b = false ∧ SzP b ∧ SzN b ∧ ∀ m, b = tI m → m.length ≤ 25 := by
  have szp : ∀ {ds : List D}, (ds.all isI = false) → SzP (.tup ds) := fun h l e => by
    cases e
    rw [all_isI] at h; cases h
  have szi : ∀ l : List Int, l.length ≤ 100 → Bd 5000 l → SzP (tI l) := fun l h1 h2 m e => by
    have : m = l := by
      have e2 : (l.map D.int) = m.map D.int := by injection e
      exact ((List.map_inj_right (f := D.int) fun x y h => by injection h).mp e2).symm
    rw [this]; exact ⟨h1, h2⟩
  have szo : ∀ {d : D}, (∀ ds, d ≠ .tup ds) → SzP d := fun h l e => absurd e (h _)
  have szn : ∀ {d : D}, (∀ i, d ≠ .int i) → SzN d := fun h n e => absurd e (h _)
  have b1 : ∀ c : Int, c.natAbs ≤ 2 → Sz 5000 c := fun c h => (show Sz 2 c by unfold Sz; omega).mono (by decide)
  suffices key : ∀ b ∈ badL e1 e2 e3, Cpy a G b b ∧ isIP b = false ∧ SzP b ∧ SzN b by
    intro b hb
    obtain ⟨h1, h2, h3, h4⟩ := key b hb
    refine ⟨h1, h2, h3, h4, fun m e => ?_⟩
    have : ∀ d ∈ badL e1 e2 e3, ∀ ds, d = .tup ds → ds.length ≤ 25 := by
      intro d hd ds e
      simp only [badL, List.mem_cons, List.not_mem_nil, or_false] at hd
      rcases hd with rfl | rfl | rfl | rfl | rfl | rfl | rfl | rfl | rfl | rfl | rfl | rfl | rfl | rfl | rfl | rfl | rfl <;> cases e <;> simp
    simpa using this b hb _ e
  intro b hb
  simp only [badL, List.mem_cons, List.not_mem_nil, or_false] at hb
  have dS : ∀ s : String, s = "1" ∨ s = "x" → (Str.ofString s).length ≤ 600 := by
    rintro s (rfl | rfl) <;> decide +kernel
  rcases hb with rfl | rfl | rfl | rfl | rfl | rfl | rfl | rfl | rfl | rfl | rfl | rfl | rfl | rfl | rfl | rfl | rfl
  · exact ⟨.inl ⟨rfl, pb_non⟩, rfl, szo (by simp), szn (by simp)⟩
  · exact ⟨.inl ⟨rfl, pb_str (dS _ (.inl rfl))⟩, rfl, szo (by simp), szn (by simp)⟩
  · exact ⟨.inl ⟨rfl, pb_int⟩, rfl, szo (by simp), fun n e => by cases e; exact sz0⟩
  · exact ⟨.inr (.inl ⟨e1, e1, [], rfl, rfl, n1, n1, g1, g1, by simp⟩), rfl, szo (by simp), szn (by simp)⟩
  · exact ⟨.inr (.inl ⟨e2, e2, [1], rfl, rfl, n2, n2, g2, g2, by simp⟩), rfl, szo (by simp), szn (by simp)⟩
  · exact ⟨.inl ⟨rfl, pb_tup (by simp) (by simp [pc_int])⟩, rfl, szi [0] (by simp) (Bd.cons sz0 Bd.nil), szn (by simp)⟩
  · exact ⟨.inl ⟨rfl, pb_tup (by simp) (by simp [pc_int])⟩, rfl, szi [1, 0] (by simp) (Bd.cons (b1 _ (by decide)) (Bd.cons sz0 Bd.nil)), szn (by simp)⟩
  · exact ⟨.inl ⟨rfl, pb_tup (by simp) (by simp [pc_bl])⟩, rfl, szp rfl, szn (by simp)⟩
  · exact ⟨.inl ⟨rfl, pb_tup (by simp) (by simp; exact pc_str (dS _ (.inl rfl)))⟩, rfl, szp rfl, szn (by simp)⟩
  · exact ⟨.inl ⟨rfl, pb_tup (by simp) (by simp [pc_non])⟩, rfl, szp rfl, szn (by simp)⟩
  · exact ⟨.inr (.inr ⟨e3, rfl, rfl, n3, g3⟩), rfl, szo (by simp), szn (by simp)⟩
  · exact ⟨.inl ⟨rfl, pb_tup (by simp) (by simp; exact pc_ints (l := [1, 1]) (by simp))⟩, rfl, szp rfl, szn (by simp)⟩
  · exact ⟨.inl ⟨rfl, pb_tup (by simp) (by simp [pc_int]; exact pc_ints (l := [2, 1]) (by simp))⟩, rfl, szp rfl, szn (by simp)⟩
  · exact ⟨.inl ⟨rfl, pb_tup (by simp) (by simp [pc_int])⟩, rfl, szi [0, 1, 0] (by simp) (Bd.cons sz0 (Bd.cons (b1 _ (by decide)) (Bd.cons sz0 Bd.nil))), szn (by simp)⟩
  · exact ⟨.inl ⟨rfl, pb_tup (by simp) (by simp [pc_int, pc_bl])⟩, rfl, szp rfl, szn (by simp)⟩
  · exact ⟨.inl ⟨rfl, pb_tup (by simp) (by simp [pc_int, pc_non])⟩, rfl, szp rfl, szn (by simp)⟩
  · exact ⟨.inl ⟨rfl, pb_str (dS _ (.inr rfl))⟩, rfl, szo (by simp), szn (by simp)⟩
theorem bad_nums {a e1 e2 : Addr} {G : DH} (n1 : e1 ≠ a) (n2 : e2 ≠ a) (g1 : G e1 = some (.lst [.int 1])) (g2 : G e2 = some (.dct [])) :
    ∀ b ∈ [D.non, .bl true, .str "1", .tup [.int 1], .ref e1, .ref e2, .tup [.int 1, .int 1]], Cpy a G b b ∧ isI b = false ∧ SzP b := by
  have szi : ∀ l : List Int, l.length ≤ 100 → Bd 5000 l → SzP (tI l) := fun l h1 h2 m e => by
    have : m = l := by
      have e2 : (l.map D.int) = m.map D.int := by injection e
      exact ((List.map_inj_right (f := D.int) fun x y h => by injection h).mp e2).symm
    rw [this]; exact ⟨h1, h2⟩
  have szo : ∀ {d : D}, (∀ ds, d ≠ .tup ds) → SzP d := fun h l e => absurd e (h _)
  have b1 : ∀ c : Int, c.natAbs ≤ 2 → Sz 5000 c := fun c h => (show Sz 2 c by unfold Sz; omega).mono (by decide)
  intro b hb
  simp only [List.mem_cons, List.not_mem_nil, or_false] at hb
  have dS : (Str.ofString "1").length ≤ 600 := by decide +kernel
  rcases hb with rfl | rfl | rfl | rfl | rfl | rfl | rfl
  · exact ⟨.inl ⟨rfl, pb_non⟩, rfl, szo (by simp)⟩
  · exact ⟨.inl ⟨rfl, pb_bl⟩, rfl, szo (by simp)⟩
  · exact ⟨.inl ⟨rfl, pb_str dS⟩, rfl, szo (by simp)⟩
  · exact ⟨.inl ⟨rfl, pb_tup (by simp) (by simp [pc_int])⟩, rfl, szi [1] (by simp) (Bd.cons (b1 _ (by decide)) Bd.nil)⟩
  · exact ⟨.inr (.inl ⟨e1, e1, [1], rfl, rfl, n1, n1, g1, g1, by simp⟩), rfl, szo (by simp)⟩
  · exact ⟨.inr (.inr ⟨e2, rfl, rfl, n2, g2⟩), rfl, szo (by simp)⟩
  · exact ⟨.inl ⟨rfl, pb_tup (by simp) (by simp [pc_int])⟩, rfl, szi [1, 1] (by simp) (Bd.cons (b1 _ (by decide)) (Bd.cons (b1 _ (by decide)) Bd.nil))⟩
end DL.LW

set_option Elab.async false
set_option linter.all false
set_option maxRecDepth 100000
set_option maxHeartbeats 4000000
set_option exponentiation.threshold 10000
namespace DL.LW
open PySem PySem.Spec PyProof.Rows L2 DL TL PM
/-! V8: k04: pairs. -/
def msE : Nat → MSs → MSs
  | 0, s => s
  | n + 1, .cons _ s => msE n s
  | _ + 1, s => s
def S_f_law_pair_v2 : DSp := fun ds G Q _ => ∃ (a : Addr) (B : Int), ds = [.ref a] ∧ Bx B a G G ∧ B < 600000000 ∧ ∀ (p : Addr) (r s : List Int) (G' : DH), Bx (B + 2000) a G G' → p ≠ a → G' p = some (.lst [tI r, tI s]) → Trm r → Trm s → r.length ≤ 16 → s.length ≤ 16 → Bd 2010 r → Bd 2010 s → Q (.ref p) G'
theorem run_f_law_pair_v2 {Γ : GE} (h1 : Fn Γ "_law_one" ["box"] S_f_law_one) (h2 : Fn Γ "_law_take" ["box", "many"] S_f_law_take) (h3 : Fn Γ "_law_trim" ["items"] S_f_law_trim) (h4 : Fn Γ "_law_times" ["one", "other"] S_f_law_times) {ds : List D} {G : DH} {Q : QD} {E : ED} (hl : ds.length = 1) (h : S_f_law_pair_v2 ds G Q E) : Runs Γ m_f_law_pair_v2 7 ds G Q E := by
  obtain ⟨k1, d1, h1⟩ := h1
  obtain ⟨k2, d2, h2⟩ := h2
  obtain ⟨k3, d3, h3⟩ := h3
  obtain ⟨k4, d4, h4⟩ := h4
  obtain ⟨a, B, rfl, hb, hB, q⟩ := h
  have hsz := sizeLine_eq
  unfold Runs
  show wpSs Γ (.cons _ (msE 1 m_f_law_pair_v2)) _ _ _ _
  simp [startD, dEnds, List.replicate, h1, h2]
  refine ⟨a, B, rfl, hb, by omega, fun r0 G1 b1 t0 l0 d0 => ?_⟩
  refine ⟨a, _, rfl, b1.self, by omega, fun r1 G2 b2' t1 l1 d1 => ?_⟩
  have b2 := b1.trans b2'
  refine take_b b2 (by omega) (by decide) (by decide) fun way G3 w0 w1 b3 e3 => ?_
  simp [m_f_law_pair_v2, msE, h3]
  have fin : ∀ (x y : List Int) (G' : DH) (E1 E2 : ED), Bx (B + 1900) a G G' → x.length ≤ 16 → y.length ≤ 16 → Bd 2010 x → Bd 2010 y → S_f_law_trim [tI x] G' (fun x1 G1 => bi1 .tuple x1 G1 fun x2 G1 => S_f_law_trim [tI y] G1 (fun x G1 => bi1 .tuple x G1 fun x G1 => ∀ p, G1 p = none → ∃ G2, Sub G2 (put G1 p (.lst [x2, x])) ∧ Q (.ref p) G2) E2) E1 := by
    intro x y G' E1 E2 b lx ly bx by'
    refine ⟨_, x, rfl, by simp [sqOf], fun p hp => ?_⟩
    simp
    refine ⟨_, y, rfl, by simp [sqOf], fun p' hp' => ?_⟩
    simp
    intro p2 hp2
    have bb := (b.put (o := .lst (iL (trim x))) hp).put (o := .lst (iL (trim y))) hp'
    refine ⟨_, .refl, q p2 (trim x) (trim y) _ ((bb.put hp2).mono (by omega)) (bb.ne hp2) put_same (tr_trim _) (tr_trim _) (Nat.le_trans (trimP_le _) lx) (Nat.le_trans (trimP_le _) ly) (Bd.trim bx) (Bd.trim by')⟩
  by_cases c3 : way < 3
  · refine ite_l (.inr ⟨c3, ?_⟩)
    simp [h1, h3, h4]
    refine ⟨a, _, rfl, b3.self, by omega, fun r2 G4 b4' t2 l2 d2 => ?_⟩
    have b4 := b3.trans b4'
    simp
    rw [show (4 : Int) = ((4 : Nat) : Int) from rfl, cut_to', ← List.map_take]
    refine ⟨_, r2.take 4, rfl, by simp [sqOf], fun p hp => ?_⟩
    simp
    have b5 := b4.put (o := .lst (iL (trim (r2.take 4)))) hp
    have t4 : Trm (trim (r2.take 4)) := tr_trim _
    have l4 : (trim (r2.take 4)).length ≤ 4 := Nat.le_trans (trimP_le _) (by rw [List.length_take]; omega)
    have d4 : Bd 1000 (trim (r2.take 4)) := Bd.trim fun c hc => d2 c (List.mem_of_mem_take hc)
    generalize trim (r2.take 4) = m at *
    generalize put G4 p (.lst (iL m)) = G5 at *
    have prod : ∀ (x : List Int) (n k : Nat) (G : DH) (Q : QD) (E : ED) (p1 p2 : Addr), Bd 1000 x → n ≤ 10 → G p1 = none → put G p1 (.lst (cutL (x.map .int) none (some (n : Int)))) p2 = none → (∀ p3, put (put G p1 (.lst (iL (x.take n)))) p2 (.lst (iL m)) p3 = none → (pmul (x.take n) m).length ≤ n + 3 → Bd 2010 (pmul (x.take n) m) → Q (.ref p3) (put (put (put G p1 (.lst (iL (x.take n)))) p2 (.lst (iL m))) p3 (.lst (iL (pmul (x.take n) m))))) → S_f_law_times [.ref p1, .ref p2] (put (put G p1 (.lst (cutL (x.map .int) none (some (n : Int))))) p2 (.lst (m.map .int))) Q E := by
      intro x n k G Q E p1 p2 dx hn hp1 hp2 hq
      rw [cut_to', ← List.map_take] at hp2 ⊢
      have lx : (x.take n).length ≤ n := by rw [List.length_take]; omega
      have dx : Bd 1000 (x.take n) := fun c hc => dx c (List.mem_of_mem_take hc)
      have g1 : put G p1 (.lst (iL (x.take n))) p1 = some (.lst (iL (x.take n))) := put_same
      have := pmul_len (x.take n) m
      exact ⟨p1, p2, x.take n, m, 1000, 1000, rfl, by rw [put_ne (ne_free g1 hp2)]; exact g1, put_same, by omega, by omega, dx, d4, by omega, fun p3 hp3 => hq p3 hp3 (by omega) ((Bd.pmul dx d4 (by omega)).mono (by decide))⟩
    intro p1 hp1 p2 hp2
    refine prod r0 6 0 G5 _ _ p1 p2 d0 (by decide) hp1 hp2 fun p3 hp3 lp dp => ?_
    have b6 := (b5.put (o := .lst (iL (r0.take 6))) hp1).put (o := .lst (iL m)) (by
      have := hp2
      rw [show (6 : Int) = ((6 : Nat) : Int) from rfl, cut_to', ← List.map_take] at this
      exact this)
    have b7 := b6.put (o := .lst (iL (pmul (r0.take 6) m))) hp3
    have g6 : put (put (put G5 p1 (.lst (iL (r0.take 6)))) p2 (.lst (iL m))) p3 (.lst (iL (pmul (r0.take 6) m))) p3 = some (.lst (iL (pmul (r0.take 6) m))) := put_same
    generalize put (put (put G5 p1 (.lst (iL (r0.take 6)))) p2 (.lst (iL m))) p3 (.lst (iL (pmul (r0.take 6) m))) = G6 at *
    simp [sqAt_some.mpr g6]
    intro p4 hp4 p5 hp5
    refine prod r1 5 0 G6 _ _ p4 p5 d1 (by decide) hp4 hp5 fun p6 hp6 lp' dp' => ?_
    have b8 := (b7.put (o := .lst (iL (r1.take 5))) hp4).put (o := .lst (iL m)) (by
      have := hp5
      rw [show (5 : Int) = ((5 : Nat) : Int) from rfl, cut_to', ← List.map_take] at this
      exact this)
    have b9 := b8.put (o := .lst (iL (pmul (r1.take 5) m))) hp6
    have g9 : put (put (put G6 p4 (.lst (iL (r1.take 5)))) p5 (.lst (iL m))) p6 (.lst (iL (pmul (r1.take 5) m))) p6 = some (.lst (iL (pmul (r1.take 5) m))) := put_same
    generalize put (put (put G6 p4 (.lst (iL (r1.take 5)))) p5 (.lst (iL m))) p6 (.lst (iL (pmul (r1.take 5) m))) = G7 at *
    simp [sqAt_some.mpr g9]
    exact fin _ _ _ _ _ (b9.mono (by omega)) (by omega) (by omega) dp dp'
  refine ite_l (.inl ⟨c3, ?_⟩)
  have d0' := d0.mono (show 1000 ≤ 2010 by decide)
  have d1' := d1.mono (show 1000 ≤ 2010 by decide)
  by_cases c4 : way = 3
  · refine ite_l (.inr ⟨c4, ?_⟩)
    simp [h4]
    intro p1 hp1 p2 hp2
    rw [show (4 : Int) = ((4 : Nat) : Int) from rfl, cut_to', ← List.map_take]
    have lx : (r1.take 4).length ≤ 4 := by rw [List.length_take]; omega
    have dx : Bd 1000 (r1.take 4) := fun c hc => d1 c (List.mem_of_mem_take hc)
    have g1 : put G3 p1 (.lst (iL r0)) p1 = some (.lst (iL r0)) := put_same
    have lp := pmul_len r0 (r1.take 4)
    have b4 := (b3.put (o := .lst (iL r0)) hp1).put (o := .lst (iL (r1.take 4))) hp2
    refine ⟨p1, p2, r0, r1.take 4, 1000, 1000, rfl, by rw [put_ne (ne_free g1 hp2)]; exact g1, put_same, by omega, by omega, d0, dx, by omega, fun p3 hp3 => ?_⟩
    have b5 := b4.put (o := .lst (iL (pmul r0 (r1.take 4)))) hp3
    have dp := (Bd.pmul d0 dx (by omega)).mono (show 1000 + 1000 + 10 ≤ 2010 by decide)
    generalize pmul r0 (r1.take 4) = m at *
    have g6 : put (put (put G3 p1 (.lst (iL r0))) p2 (.lst (iL (r1.take 4)))) p3 (.lst (iL m)) p3 = some (.lst (iL m)) := put_same
    generalize put (put (put G3 p1 (.lst (iL r0))) p2 (.lst (iL (r1.take 4)))) p3 (.lst (iL m)) = G5 at *
    simp [sqAt_some.mpr g6]
    exact fin _ _ _ _ _ (b5.mono (by omega)) (by omega) (by omega) d0' dp
  refine ite_l (.inl ⟨c4, ?_⟩)
  by_cases c5 : way = 4
  · refine ite_l (.inr ⟨c5, ?_⟩)
    simp [h2]
    refine take_b b3 (by omega) (by decide) (by decide) fun by' G4 w2 w3 b4 e4 => ?_
    have hby : 0 ≤ 2 + by' ∧ 2 + by' ≤ 6 := by omega
    simp
    generalize 2 + by' = k at *
    have sk : Sz 3 k := by unfold Sz; omega
    have mp : ∀ (l : List Int), (l.map D.int).map (fun d => match d with | .int i => .int (k * i) | d => d) = iL (l.map (k * ·)) := fun l => by
      unfold iL
      rw [List.map_map, List.map_map]; rfl
    have dk : ∀ {l : List Int}, Bd 1000 l → Bd 2010 (l.map (k * ·)) := fun dl c hc => by
      obtain ⟨x, hx, rfl⟩ := List.mem_map.mp hc
      exact (sk.mul (dl x hx)).mono (by decide)
    refine ⟨by omega, lc_all (fun d => match d with | .int i => .int (k * i) | d => d) srcOk_nil (fun d hd K1 K0 z => ?_) ?_⟩
    · obtain ⟨c, hc, rfl⟩ := List.mem_map.mp hd
      simp
      exact ⟨.of_left (intBits_le_64 (by omega) (by omega)), z⟩
    intro p1 hp1
    rw [mp]
    have b5 := b4.put (o := .lst (iL (r0.map (k * ·)))) hp1
    generalize put G4 p1 (.lst (iL (r0.map (k * ·)))) = G5 at *
    refine ⟨by omega, lc_all (fun d => match d with | .int i => .int (k * i) | d => d) srcOk_nil (fun d hd K1 K0 z => ?_) ?_⟩
    · obtain ⟨c, hc, rfl⟩ := List.mem_map.mp hd
      simp
      exact ⟨.of_left (intBits_le_64 (by omega) (by omega)), z⟩
    intro p2 hp2
    rw [mp]
    have b6 := b5.put (o := .lst (iL (r1.map (k * ·)))) hp2
    exact fin (r0.map (k * ·)) (r1.map (k * ·)) _ _ _ (b6.mono (by omega)) (by simp; omega) (by simp; omega) (dk d0) (dk d1)
  · exact ite_l (.inl ⟨c5, fin _ _ _ _ _ (b3.mono (by omega)) (by omega) (by omega) d0' d1'⟩)
end DL.LW

set_option Elab.async false
set_option linter.all false
set_option maxRecDepth 100000
set_option maxHeartbeats 4000000
set_option exponentiation.threshold 10000
namespace DL.LW
open PySem PySem.Spec PyProof.Rows L2 DL TL PM
/-! V9: k04: one pair is right. -/
theorem c04_of {l m : List Int} {n : Nat} (tl : Trm l) (tm : Trm m) (h1 : l.length ≤ 16) (h2 : m.length ≤ 16) (d1 : Bd n l) (d2 : Bd n m) (hn : n ≤ 2010) : C04 l m :=
  ⟨h1, h2, ⟨n, d1, d2, by omega⟩, ⟨_, okC_any (primN tl) (primN tm) (by rw [primL_len]; exact h1) (by rw [primL_len]; exact h2) (bd_primL tl d1) (bd_primL tm d2), by omega⟩⟩
theorem tzI {G : DH} {l : List Int} (h : l.length ≤ 2000) : TZ G (tI l) := .ints h
theorem tI_inj {l m : List Int} (h : tI l = tI m) : l = m := by
  have e : (l.map D.int) = m.map D.int := by injection h
  exact (List.map_inj_right (f := D.int) fun x y h => by injection h).mp e
theorem cnd4_of {l m : List Int} (C : C04 l m) : cnd4 (tI l) (tI m) := fun a b e1 e2 _ _ => by rw [← tI_inj e1, ← tI_inj e2]; exact C
theorem res4_tt {w : Str} {l m : List Int} (tl : Trm l) (tm : Trm m) : res04 w (tI l) (tI m) = f04 w l m := by
  unfold res04 P2
  rw [P1_trm tl, P1_trm tm]
theorem f4c {a b : List Int} : f04 (Str.ofString "common") a b = fCom a b := by simp [f04]
theorem f4d {a b : List Int} : f04 (Str.ofString "divides") a b = fDvd a b := by simp [f04]
theorem f4q {a b : List Int} : f04 (Str.ofString "quotient") a b = fQuo a b := by simp [f04]
theorem f4p {a b : List Int} : f04 (Str.ofString "pseudo") a b = fPse a b := by simp [f04]
theorem same_told {n : Nat} {G : DH} {x y : D} (h : same (n + 1) G x y) : same (n + 2) G (.tup [.str "told", x]) (.tup [.str "told", y]) := same_pair (by decide +kernel) h
theorem same_zero {n : Nat} {G : DH} : same (n + 2) G (.tup [.str "zero", .non]) (.tup [.str "zero", .non]) := same_pair (by decide +kernel) same_non
theorem comL_len {a b : List Int} (ta : Trm a) (tb : Trm b) (C : C04 a b) : (comL a b).length ≤ 16 := by
  have := (comC_mulok ta tb C).2
  unfold comL
  simpa using this
theorem isWin {s : String} (h : s ∈ words4) : isIn (Str.ofString s) words4 := ⟨s, h, rfl⟩
/-- from the rest on -/
theorem pair_T {Γ : GE} (h4 : Fn Γ "_law_same" ["told", "due"] (S_same 4)) (h5 : Fn Γ "_law_caught" ["box", "word", "one", "other"] S_f_law_caught_v4) (h6 : Fn Γ "_law_quotient" ["one", "other"] S_f_law_quotient) (h7 : Fn Γ "_law_pseudo" ["one", "other"] S_f_law_pseudo)
    {a pa pb : Addr} {B : Int} {l m : List Int} {G0 G : DH} {Q : QD} {E : ED} {s3 s5 s6 s7 s10 s11 s12 : Option D} (hb : Bx B a G0 G) (hB : B < 800000000) (ga : G pa = some (.lst (iL l))) (gb : G pb = some (.lst (iL m))) (na : pa ≠ a) (nb : pb ≠ a) (tl : Trm l) (tm : Trm m) (ll : l.length ≤ 16) (lm : m.length ≤ 16) (dl : Bd 2010 l) (dm : Bd 2010 m) (q : ∀ G', Bx (B + 10) a G0 G' → Q (.bl true) G') :
    wpSs Γ (msE 5 m_f_law_pair_right_v2) (fun xd _ G1 => ∃ G2, Sub G2 G1 ∧ E xd G2) (dEnds fun d G1 => ∃ G2, Sub G2 G1 ∧ Q d G2) [some (.ref a), some (tI l), some (tI m), s3, some (tI (comL l m)), s5, s6, s7, some (.ref pa), some (.ref pb), s10, s11, s12] G := by
  obtain ⟨k4, d4, h4⟩ := h4
  obtain ⟨k5, d5, h5⟩ := h5
  obtain ⟨k6, d6, h6⟩ := h6
  obtain ⟨k7, d7, h7⟩ := h7
  have hsz := sizeLine_eq
  have C := c04_of tl tm ll lm dl dm (Nat.le_refl _)
  have rest : ∀ s6, cap4 (fPse l m) = s6 → (∀ G' : DH, same 4 G' s6 s6) → wpSs Γ (msE 6 m_f_law_pair_right_v2) (fun xd _ G1 => ∃ G2, Sub G2 G1 ∧ E xd G2) (dEnds fun d G1 => ∃ G2, Sub G2 G1 ∧ Q d G2) [some (.ref a), some (tI l), some (tI m), s3, some (tI (comL l m)), s5, some s6, s7, some (.ref pa), some (.ref pb), s10, s11, s12] G := by
    intro s6 e6 same6
    simp [m_f_law_pair_right_v2, msE, h4, h5, h6]
    refine ⟨a, _, _, _, _, rfl, hb.self, by omega, isWin (by simp [words4]), fun G' _ => ⟨tzI (by omega), tzI (by omega)⟩, cnd4_of C, fun G2 b2 => ?_⟩
    rw [res4_tt tl tm, f4p, e6]
    refine ⟨_, _, rfl, same6 G2, ?_⟩
    simp
    have ga := b2.2 _ _ na ga
    have gb := b2.2 _ _ nb gb
    have b2 := hb.trans b2
    refine eqT_i0 ?_
    by_cases hlm : l ≠ [] ∨ m ≠ []
    rotate_left
    · have hl : l = [] := Classical.byContradiction fun z => hlm (.inl z)
      have hm : m = [] := Classical.byContradiction fun z => hlm (.inr z)
      subst hl hm
      rw [comL_nil]
      simp [dEnds]
      exact ⟨G2, .refl, q G2 (b2.mono (by omega))⟩
    obtain ⟨tD, nD, bD, A, A', e1, e2, tA, tA', lA, lA', bA, bA', one, ok⟩ := comL_parts tl tm hlm ll lm dl dm
    have lD := comL_len tl tm C
    have he : (comL l m).isEmpty = false := by simpa using nD
    rw [he]
    simp
    generalize comL l m = d at *
    have ld := List.length_pos_iff.mpr nD
    intro p1 hp1
    have t1 := Sub.put (o := .lst (iL d)) hp1
    have up : ∀ x : List Int, x.length ≤ 16 → 2010 + (x.length + 1 - d.length + 1) * (2010 + (32 * 2010 + 166) + 1) ≤ 100000000 := fun x hx => by
      have := Nat.mul_le_mul_right (2010 + (32 * 2010 + 166) + 1) (show x.length + 1 - d.length + 1 ≤ 18 by omega)
      omega
    refine ⟨pa, p1, l, d, _, _, rfl, t1 _ _ ga, put_same, by omega, by omega, tD, nD, dl, bD, up l ll, ?_⟩
    rw [e1]
    intro p2 hp2
    have t2 := Sub.put (o := .lst (iL d)) hp2
    refine ⟨pb, p2, m, d, _, _, rfl, t2 _ _ (t1 _ _ gb), put_same, by omega, by omega, tD, nD, dm, bD, up m lm, ?_⟩
    rw [e2]
    have b4 := (b2.put (o := .lst (iL d)) hp1).put (o := .lst (iL d)) hp2
    generalize put (put G2 p1 (.lst (iL d))) p2 (.lst (iL d)) = G4 at *
    intro p3 hp3
    have g3 : put G4 p3 (.lst [qoD (some A), qoD (some A')]) p3 = some (.lst [tI A, tI A']) := put_same
    have b5 := b4.put (o := .lst [qoD (some A), qoD (some A')]) hp3
    generalize put G4 p3 (.lst [qoD (some A), qoD (some A')]) = G5 at *
    have CA : C04 A A' := ⟨lA, lA', ⟨_, bA, bA', by omega⟩, ⟨_, ok, by omega⟩⟩
    refine ⟨⟨rfl, rfl⟩, ?_⟩
    rw [if_neg (by simp [qoD, feqD])]
    refine ⟨a, _, _, _, _, rfl, b5.self, by omega, isWin (by simp [words4]), fun G' _ => ⟨tzI (by omega), tzI (by omega)⟩, cnd4_of CA, fun G6 b6 => ?_⟩
    show S_same 4 [cap4 (res04 (Str.ofString "common") (tI A) (tI A')), _] _ _ _
    rw [res4_tt tA tA', f4c]
    refine ⟨_, _, rfl, same_told (x := tI (comL A A')) (by rw [one]; exact same_tI (l := [1]) (by simp)), ?_⟩
    simp [dEnds]
    exact ⟨G6, .refl, q G6 ((b5.trans b6).mono (by omega))⟩
  show wpSs Γ (.cons _ (msE 6 m_f_law_pair_right_v2)) _ _ _ _
  simp [h7]
  refine eqT_i0 ?_
  by_cases hm : m = []
  · subst hm
    simp
    exact rest _ (by simp [fPse, cap4, xZ]) fun G' => same_zero
  · have he : m.isEmpty = false := by simpa using hm
    rw [he]
    simp
    have up : 2010 + (l.length + 1 - m.length + 1) * (2010 + 1) ≤ 100000000 := by
      have := Nat.mul_le_mul_right (2010 + 1) (show l.length + 1 - m.length + 1 ≤ 18 by omega)
      omega
    refine ⟨pa, pb, l, m, _, _, rfl, ga, gb, tl, by omega, by omega, hm, dl, dm, up, ?_⟩
    have hr := (psrL_rest (a := l) hm tm).l
    exact rest _ (by simp [fPse, hm, cap4]) fun G' => same_told (same_tI (by omega))
def S_f_law_pair_right_v2 : DSp := fun ds G Q _ => ∃ (a : Addr) (B : Int) (l m : List Int), ds = [.ref a, tI l, tI m] ∧ Bx B a G G ∧ B < 700000000 ∧ Trm l ∧ Trm m ∧ l.length ≤ 16 ∧ m.length ≤ 16 ∧ Bd 2010 l ∧ Bd 2010 m ∧ ∀ G', Bx (B + 100) a G G' → Q (.bl true) G'
theorem run_f_law_pair_right_v2 {Γ : GE} (h1 : Fn Γ "_law_gcd" ["a", "b"] S_f_law_gcd) (h2 : Fn Γ "_law_content" ["one"] S_f_law_content) (h3 : Fn Γ "_law_common" ["one", "other"] S_f_law_common) (h4 : Fn Γ "_law_same" ["told", "due"] (S_same 4)) (h5 : Fn Γ "_law_caught" ["box", "word", "one", "other"] S_f_law_caught_v4) (h6 : Fn Γ "_law_quotient" ["one", "other"] S_f_law_quotient) (h7 : Fn Γ "_law_pseudo" ["one", "other"] S_f_law_pseudo) {ds : List D} {G : DH} {Q : QD} {E : ED} (hl : ds.length = 3) (h : S_f_law_pair_right_v2 ds G Q E) : Runs Γ m_f_law_pair_right_v2 13 ds G Q E := by
  obtain ⟨k1, d1, h1⟩ := h1
  obtain ⟨k2, d2, h2⟩ := h2
  obtain ⟨k3, d3, h3⟩ := h3
  obtain ⟨k4, d4, h4⟩ := h4
  obtain ⟨k5, d5, h5⟩ := h5
  obtain ⟨k6, d6, h6⟩ := h6
  obtain ⟨k7, d7, h7⟩ := h7
  obtain ⟨a, B, l, m, rfl, hb, hB, tl, tm, ll, lm, dl, dm, q⟩ := h
  have hsz := sizeLine_eq
  have C := c04_of tl tm ll lm dl dm (Nat.le_refl _)
  unfold Runs
  show wpSs Γ (.cons _ (.cons _ (.cons _ (msE 3 m_f_law_pair_right_v2)))) _ _ _ _
  simp [startD, dEnds, List.replicate, h1, h2, h3]
  intro pa hpa pb hpb
  have ga : put (put G pa (.lst (iL l))) pb (.lst (iL m)) pa = some (.lst (iL l)) := (Sub.put hpb) _ _ put_same
  have gb : put (put G pa (.lst (iL l))) pb (.lst (iL m)) pb = some (.lst (iL m)) := put_same
  have b1 := (hb.put (o := .lst (iL l)) hpa).put (o := .lst (iL m)) hpb
  generalize put (put G pa (.lst (iL l))) pb (.lst (iL m)) = G1 at *
  refine ⟨pa, l, rfl, ga, pb, m, rfl, gb, ?_⟩
  simp
  refine ⟨pa, pb, l, m, rfl, ga, gb, tl, tm, C, fun pc hpc => ?_⟩
  have s1 := Sub.put (o := .lst (iL (comC (primL l) (primL m)))) hpc
  have b2 := b1.put (o := .lst (iL (comC (primL l) (primL m)))) hpc
  have ga := s1 _ _ ga
  have gb := s1 _ _ gb
  have gc : put G1 pc (.lst (iL (comC (primL l) (primL m)))) pc = some (.lst (iL (comC (primL l) (primL m)))) := put_same
  generalize put G1 pc (.lst (iL (comC (primL l) (primL m)))) = G2 at *
  obtain ⟨i1, i2⟩ := comC_mulok tl tm C
  have eg : ((contL l).gcd (contL m) : Int) = ((Int.gcd (contL l) (contL m) : Nat) : Int) := rfl
  simp [sqAt_some.mpr gc]
  refine ⟨by omega, lc_all (fun d => match d with | .int i => .int (((Int.gcd (contL l) (contL m) : Nat) : Int) * i) | d => d) (srcOk_one (sqAt_some.mpr gc)) (fun d hd K1 K0 z => ?_) ?_⟩
  · obtain ⟨c, hc, rfl⟩ := List.mem_map.mp hd
    simp
    exact ⟨i1 c hc, z⟩
  intro pd hpd
  have em : ((comC (primL l) (primL m)).map D.int).map (fun d => match d with | .int i => D.int (((Int.gcd (contL l) (contL m) : Nat) : Int) * i) | d => d) = iL (comL l m) := by
    unfold iL comL
    rw [List.map_map, List.map_map]; rfl
  rw [em]
  have b3 := b2.put (o := .lst (iL (comL l m))) hpd
  have s3 := Sub.put (o := .lst (iL (comL l m))) hpd
  have ga := s3 _ _ ga
  have gb := s3 _ _ gb
  have na := hb.ne hpa
  have nb : pb ≠ a := (hb.put (o := .lst (iL l)) hpa).ne hpb
  generalize put G2 pd (.lst (iL (comL l m))) = G3 at *
  have lD := comL_len tl tm C
  show wpSs Γ (.cons _ (.cons _ (msE 5 m_f_law_pair_right_v2))) _ _ _ _
  simp
  refine for_rule (fun i σ G' => ∃ s5 : Option D, σ = [some (.ref a), some (tI l), some (tI m), some (.int ((contL l).gcd (contL m) : Int)), some (tI (comL l m)), s5, none, none, some (.ref pa), some (.ref pb), none, none, none] ∧ Bx (B + i) a G G' ∧ Kp a G3 G') ⟨_, rfl, by simpa using b3, .refl⟩ (fun _ _ _ _ _ => srcOk_nil) ?_ ?_
  · rintro i d σ G4 Kn hd ⟨s5, rfl, b4, k4'⟩ hK
    obtain ⟨hi, rfl⟩ := range_get hd
    simp [h4, h5]
    refine ⟨a, _, _, _, _, rfl, b4.self, by omega, isWin (by simp [words4]), fun G' _ => ⟨tzI (by omega), tzI (by omega)⟩, cnd4_of C, fun G5 b5 => ?_⟩
    rw [res4_tt tl tm, f4c]
    refine ⟨_, _, rfl, same_told (x := tI (comL l m)) (same_tI (by omega)), ?_⟩
    simp
    exact hK _ _ ⟨_, rfl, (b4.trans b5).mono (by omega), k4'.trans b5.2⟩
  · rintro σ G4 ⟨s5, rfl, b4, k4'⟩
    rw [rangeL_length] at b4
    have ga := k4' _ _ na ga
    have gb := k4' _ _ nb gb
    simp
    refine eqT_i0 ?_
    have end' : ∀ (s10 s11 : Option D) G5, Bx (B + 50) a G G5 → Kp a G4 G5 → wpSs Γ (msE 5 m_f_law_pair_right_v2) (fun xd _ G1 => ∃ G2, Sub G2 G1 ∧ E xd G2) (dEnds fun d G1 => ∃ G2, Sub G2 G1 ∧ Q d G2) [some (.ref a), some (tI l), some (tI m), some (.int ((contL l).gcd (contL m) : Int)), some (tI (comL l m)), s5, none, none, some (.ref pa), some (.ref pb), s10, s11, none] G5 := fun s10 s11 G5 b5 k5' =>
      pair_T ⟨k4, d4, h4⟩ ⟨k5, d5, h5⟩ ⟨k6, d6, h6⟩ ⟨k7, d7, h7⟩ b5 (by omega) (k5' _ _ na ga) (k5' _ _ nb gb) na nb tl tm ll lm dl dm fun G' b' => q G' (b'.mono (by omega))
    by_cases hl : l = []
    · subst hl
      simp [h4, h5]
      refine ⟨a, _, _, _, _, rfl, b4.self, by omega, isWin (by simp [words4]), fun G' _ => ⟨tzI (l := []) (by simp), tzI (by omega)⟩, cnd4_of (l := []) C, fun G5 b5 => ?_⟩
      show eqD (tI m) (.tup []) _ _
      refine eqT_i0 ?_
      refine ⟨_, _, rfl, ?_, ?_⟩
      · show same 4 G5 (cap4 (res04 (Str.ofString "divides") (tI []) (tI m))) _
        rw [res4_tt tl tm, f4d]
        have : fDvd [] m = .ok (.bl m.isEmpty) := by unfold fDvd; rw [if_pos rfl]; cases m <;> rfl
        rw [this]
        exact same_told same_bl
      simp [h4, h5]
      have b5' := b4.trans b5
      refine ⟨a, _, _, _, _, rfl, b5'.self, by omega, isWin (by simp [words4]), fun G' _ => ⟨tzI (l := []) (by simp), tzI (by omega)⟩, cnd4_of (l := []) C, fun G6 b6 => ?_⟩
      refine ⟨_, _, rfl, ?_, ?_⟩
      · show same 4 G6 (cap4 (res04 (Str.ofString "quotient") (tI []) (tI m))) _
        rw [res4_tt tl tm, f4q]
        have : fQuo [] m = .error xZ := if_pos rfl
        rw [this]
        exact same_zero
      simp
      exact end' none none G6 ((b5'.trans b6).mono (by omega)) (b5.2.trans b6.2)
    · have he : l.isEmpty = false := by simpa using hl
      rw [he]
      simp [h4, h5, h6]
      have up : 2010 + (m.length + 1 - l.length + 1) * (2010 + 1) ≤ 100000000 := by
        have := Nat.mul_le_mul_right (2010 + 1) (show m.length + 1 - l.length + 1 ≤ 18 by omega)
        omega
      refine ⟨pb, pa, m, l, _, _, rfl, gb, ga, by omega, by omega, tl, hl, dm, dl, up, ?_⟩
      have e1 : fDvd l m = .ok (.bl (!isNon (qoD (quoO m l)))) := by
        unfold fDvd
        rw [if_neg hl]
        cases quoO m l <;> rfl
      have e2 : fQuo l m = .ok (qoD (quoO m l)) := if_neg hl
      have sm : ∀ G' : DH, same 2 G' (qoD (quoO m l)) (qoD (quoO m l)) := fun G' => by
        cases h : quoO m l with
        | none => exact same_non
        | some r =>
          obtain ⟨tr, er⟩ := quoO_some h
          have := (quo_bd tl hl tr er dm dl).2
          exact same_tI (by omega)
      refine ⟨a, _, _, _, _, rfl, b4.self, by omega, isWin (by simp [words4]), fun G' _ => ⟨tzI (by omega), tzI (by omega)⟩, cnd4_of C, fun G5 b5 => ?_⟩
      have b5' := b4.trans b5
      refine ⟨a, _, _, _, _, rfl, b5'.self, by omega, isWin (by simp [words4]), fun G' _ => ⟨tzI (by omega), tzI (by omega)⟩, cnd4_of C, fun G6 b6 => ?_⟩
      rw [res4_tt tl tm, res4_tt tl tm, f4d, f4q, e1, e2]
      generalize qoD (quoO m l) = d at *
      generalize (!isNon d) = bb at *
      have b6' := b5'.trans b6
      have k6' := b5.2.trans b6.2
      intro p1 hp1 p2 hp2
      have g1 : put G6 p1 (.lst [cap4 (.ok (.bl bb)), cap4 (.ok d)]) p1 = some (.lst [cap4 (.ok (.bl bb)), cap4 (.ok d)]) := put_same
      have b7 := (b6'.put (o := .lst [cap4 (.ok (.bl bb)), cap4 (.ok d)]) hp1).put (o := .lst [.tup [.str "told", .bl bb], .tup [.str "told", d]]) hp2
      have s7 := (Sub.put (o := .lst [cap4 (.ok (.bl bb)), cap4 (.ok d)]) hp1).trans (Sub.put (o := .lst [.tup [.str "told", .bl bb], .tup [.str "told", d]]) hp2)
      have g1 := (Sub.put (o := .lst [.tup [.str "told", .bl bb], .tup [.str "told", d]]) hp2) _ _ g1
      have g2 : put (put G6 p1 (.lst [cap4 (.ok (.bl bb)), cap4 (.ok d)])) p2 (.lst [.tup [.str "told", .bl bb], .tup [.str "told", d]]) p2 = some (.lst [.tup [.str "told", .bl bb], .tup [.str "told", d]]) := put_same
      generalize put (put G6 p1 (.lst [cap4 (.ok (.bl bb)), cap4 (.ok d)])) p2 (.lst [.tup [.str "told", .bl bb], .tup [.str "told", d]]) = G7 at *
      refine ⟨_, _, rfl, same_lst g1 g2 rfl (by simp) fun i x y hx hy => ?_, ?_⟩
      · rcases i with _ | _ | i
        · cases hx; cases hy; exact same_told same_bl
        · cases hx; cases hy; exact same_told (sm _)
        · cases hx
      simp
      exact end' _ _ G7 (b7.mono (by omega)) (k6'.trans (.sub s7))
end DL.LW

set_option Elab.async false
set_option linter.all false
set_option maxRecDepth 100000
set_option maxHeartbeats 4000000
set_option exponentiation.threshold 10000
namespace DL.LW
open PySem PySem.Spec PyProof.Rows L2 DL TL PM
/-! V10: the law k04. -/
theorem cpy_ints {a : Addr} {G : DH} {l : List Int} (h : l.length ≤ 100) : Cpy a G (tI l) (tI l) := .inl ⟨rfl, pb_tup (by simpa using h) fun d hd => by
  obtain ⟨i, _, rfl⟩ := List.mem_map.mp hd
  exact pc_int⟩
theorem cpy_bad {a : Addr} {G : DH} {x b : D} (h : Cpy a G x b) (hb : isIP b = false) : isIP x = false := by
  rcases h with ⟨rfl, _⟩ | ⟨e, e', l, rfl, rfl, _⟩ | ⟨e, rfl, rfl, _⟩
  · exact hb
  · rfl
  · rfl
theorem no_trm {x : D} (h : isIP x = false) {l : List Int} (e : x = tI l) (t : Trm l) : False := by
  rw [e, isIP_trm t] at h; cases h
theorem cnd4_bad1 {x y : D} (h : isIP x = false) : cnd4 x y := fun a b e _ t _ => (no_trm h e t).elim
theorem cnd4_bad2 {x y : D} (h : isIP y = false) : cnd4 x y := fun a b _ e _ t => (no_trm h e t).elim
theorem cap4_bad1 {w : Str} {x y : D} (h : isIP x = false) : cap4 (res04 w x y) = .tup [.str "polynomial", x] := by
  unfold res04 P2
  rw [P1_bad h]; simp [cap4, xPoly, raisedBy]
theorem cap4_bad2 {w : Str} {l : List Int} {y : D} (t : Trm l) (h : isIP y = false) : cap4 (res04 w (tI l) y) = .tup [.str "polynomial", y] := by
  unfold res04 P2
  rw [P1_trm t, P1_bad h]; simp [cap4, xPoly, raisedBy]
/-- the three pairs: one of the two is the bad value -/
theorem bad_pair {Γ : GE} (h1 : Fn Γ "_law_very" ["told", "word", "value"] S_f_law_very) (h2 : Fn Γ "_law_caught" ["box", "word", "one", "other"] S_f_law_caught_v4) (h3 : Fn Γ "_law_handed" ["value"] S_f_law_handed)
    {a : Addr} {B : Int} {G0 G : DH} {w : Str} {b x y : D} {Q : QD} {E : ED} (hb : Bx B a G0 G) (hB : B < 900000000) (hw : isIn w words4) (cx : Cpy a G x x) (cy : Cpy a G y y) (cb : Cpy a G b b) (nb : isIP b = false) (hxy : x = b ∨ (y = b ∧ ∃ l, x = tI l ∧ Trm l ∧ l.length ≤ 100)) (q : ∀ G', Bx (B + 1) a G0 G' → Kp a G G' → Q (.bl true) G') :
    S_f_law_handed [x] G (fun x1 G1 => S_f_law_handed [y] G1 (fun y1 G2 => S_f_law_caught_v4 [.ref a, .str w, x1, y1] G2 (fun r G3 => S_f_law_very [r, .str "polynomial", b] G3 Q E) E) E) E := by
  refine ⟨a, B, x, rfl, hb.self, cx, fun x1 G1 b1 c1 => ?_⟩
  refine ⟨a, B, y, rfl, b1.self, cy.kp b1.2, fun y1 G2 b2 c2 => ?_⟩
  have c1 := c1.kp b2.2
  rcases hxy with rfl | ⟨rfl, l, rfl, tl, ll⟩
  · have n1 := cpy_bad c1 nb
    refine ⟨a, B, w, x1, y1, rfl, b2.self, hB, hw, fun G' k => ⟨(c1.kp k).tz.1, (c2.kp k).tz.1⟩, cnd4_bad1 n1, fun G3 b3 => ?_⟩
    rw [cap4_bad1 n1]
    exact (c1.kp b3.2).very (q G3 ((hb.trans (b1.trans b2)).trans b3) (b1.2.trans (b2.2.trans b3.2)))
  · have n2 := cpy_bad c2 nb
    have ex : x1 = tI l := by
      rcases c1 with ⟨e, _⟩ | ⟨e, e', m, z, _⟩ | ⟨e, z, _⟩
      · exact e
      · cases z
      · cases z
    subst ex
    refine ⟨a, B, w, tI l, y1, rfl, b2.self, hB, hw, fun G' k => ⟨(c1.kp k).tz.1, (c2.kp k).tz.1⟩, cnd4_bad2 n2, fun G3 b3 => ?_⟩
    rw [cap4_bad2 tl n2]
    exact (c2.kp b3.2).very (q G3 ((hb.trans (b1.trans b2)).trans b3) (b1.2.trans (b2.2.trans b3.2)))
theorem wIn4 : ∀ (i : Nat) (d : D), [D.str "common", D.str "divides", D.str "quotient", D.str "pseudo"][i]? = some d → ∃ w, isIn w words4 ∧ d = .str w ∧ i < 4 := by
  intro i d h
  have h1 := List.mem_of_getElem? h
  obtain ⟨h2, _⟩ := List.getElem?_eq_some_iff.mp h
  simp only [List.mem_cons, List.not_mem_nil, or_false] at h1
  rcases h1 with rfl | rfl | rfl | rfl <;> exact ⟨_, ⟨_, by simp [words4], rfl⟩, rfl, h2⟩
theorem run_law_k04 {Γ : GE} (h1 : Fn Γ "_law_box" ["great"] S_f_law_box) (h2 : Fn Γ "_law_cell" ["script", "k"] S_f_law_cell) (h3 : Fn Γ "_law_pair" ["box"] S_f_law_pair_v2) (h4 : Fn Γ "_law_pair_right" ["box", "one", "other"] S_f_law_pair_right_v2) (h5 : Fn Γ "_law_bad_ones" [] S_f_law_bad_ones) (h6 : Fn Γ "_law_very" ["told", "word", "value"] S_f_law_very)
    (h7 : Fn Γ "_law_caught" ["box", "word", "one", "other"] S_f_law_caught_v4) (h8 : Fn Γ "_law_handed" ["value"] S_f_law_handed) {ds : List D} {G : DH} {Q : QD} {E : ED} (hl : ds.length = 1) (h : SLaw ds G Q E) : Runs Γ m_law_v7 9 ds G Q E := by
  obtain ⟨k1, d1, h1⟩ := h1
  obtain ⟨k2, d2, h2⟩ := h2
  obtain ⟨k3, d3, h3⟩ := h3
  obtain ⟨k4, d4, h4⟩ := h4
  obtain ⟨k5, d5, h5⟩ := h5
  obtain ⟨k6, d6, h6⟩ := h6
  obtain ⟨k7, d7, h7⟩ := h7
  obtain ⟨k8, d8, h8⟩ := h8
  obtain ⟨ns, rfl, _, q⟩ := h
  have hsz := sizeLine_eq
  unfold Runs m_law_v7
  simp [startD, dEnds, List.replicate, h1, h2, h3]
  refine ⟨by omega, by omega, for_rule (fun i σ G' => ∃ s1 s2 s3 s4 s5 s6 s7 s8 : Option D, σ = [some (.lsv (ns.map .int)), s1, s2, s3, s4, s5, s6, s7, s8]) ⟨_, _, _, _, _, _, _, _, rfl⟩ (fun _ _ _ _ _ => srcOk_nil) ?_ ?_⟩
  rotate_left
  · rintro σ G' ⟨s1, s2, s3, s4, s5, s6, s7, s8, rfl⟩
    simp
    exact ⟨G', .refl, q G'⟩
  rintro i d σ G0 Kn hd ⟨s1, s2, s3, s4, s5, s6, s7, s8, rfl⟩ hK
  obtain ⟨hi, rfl⟩ := range_get hd
  simp [h1, h2, h3]
  refine ⟨ns, i, rfl, fun c => ?_⟩
  simp
  refine ⟨c, rfl, fun a l ha hbl => ?_⟩
  have b0 : Bx 0 a (put G0 a (.lst l)) (put G0 a (.lst l)) := ⟨⟨l, put_same, hbl⟩, .refl⟩
  generalize put G0 a (.lst l) = G1 at *
  simp
  refine ⟨a, 0, rfl, b0, by decide, fun p r s G2 b2 np gp tr ts lr ls br bs => ?_⟩
  simp [sqAt_some.mpr gp]
  refine ⟨a, _, rfl, b2.self, by decide, fun pp r' s' G3 b3 npp gpp tr' ts' lr' ls' br' bs' => ?_⟩
  have b3 := b2.trans b3
  intro pl hpl
  have b4 := b3.put (o := .lst [D.tup [tI r, tI s], D.tup [tI s, tI r], D.tup [tI r, D.tup []], D.tup [D.tup [], tI s], D.tup [D.tup [], D.tup []], .ref pp]) hpl
  have npl := b3.ne hpl
  have gpl : put G3 pl (.lst [D.tup [tI r, tI s], D.tup [tI s, tI r], D.tup [tI r, D.tup []], D.tup [D.tup [], tI s], D.tup [D.tup [], D.tup []], .ref pp]) pl = some (.lst [D.tup [tI r, tI s], D.tup [tI s, tI r], D.tup [tI r, D.tup []], D.tup [D.tup [], tI s], D.tup [D.tup [], D.tup []], .ref pp]) := put_same
  have gpp := (Sub.put (o := .lst [D.tup [tI r, tI s], D.tup [tI s, tI r], D.tup [tI r, D.tup []], D.tup [D.tup [], tI s], D.tup [D.tup [], D.tup []], .ref pp]) hpl) _ _ gpp
  generalize put G3 pl (.lst [D.tup [tI r, tI s], D.tup [tI s, tI r], D.tup [tI r, D.tup []], D.tup [D.tup [], tI s], D.tup [D.tup [], D.tup []], .ref pp]) = G4 at *
  have t0 : Trm ([] : List Int) := tr_nil
  refine for_rule (fun j σ G' => ∃ s6 s7 : Option D, σ = [some (.lsv (ns.map .int)), some (.int i), some (.ref a), s3, some (tI r), some (tI s), s6, s7, s8] ∧ Bx (5000 + 100 * j) a G1 G' ∧ Kp a G4 G') ⟨_, _, rfl, by simpa using b4.mono (by omega), .refl⟩ (fun j σ G' _ ⟨_, _, _, _, k⟩ => srcOk_one (sqAt_some.mpr (k _ _ npl gpl))) ?_ ?_
  · rintro j d σ G5 Kn2 hd2 ⟨s6, s7, rfl, b5, k5'⟩ hK2
    have hj : j < 6 := (List.getElem?_eq_some_iff.mp hd2).1
    have hx : ∃ x y : List Int, (d = .tup [tI x, tI y] ∨ (d = .ref pp ∧ x = r' ∧ y = s')) ∧ Trm x ∧ Trm y ∧ x.length ≤ 16 ∧ y.length ≤ 16 ∧ Bd 2010 x ∧ Bd 2010 y := by
      have hm := List.mem_of_getElem? hd2
      simp only [List.mem_cons, List.not_mem_nil, or_false] at hm
      rcases hm with rfl | rfl | rfl | rfl | rfl | rfl
      · exact ⟨r, s, .inl rfl, tr, ts, lr, ls, br, bs⟩
      · exact ⟨s, r, .inl rfl, ts, tr, ls, lr, bs, br⟩
      · exact ⟨r, [], .inl rfl, tr, t0, lr, by simp, br, Bd.nil⟩
      · exact ⟨[], s, .inl rfl, t0, ts, by simp, ls, Bd.nil, bs⟩
      · exact ⟨[], [], .inl rfl, t0, t0, by simp, by simp, Bd.nil, Bd.nil⟩
      · exact ⟨r', s', .inr ⟨rfl, rfl, rfl⟩, tr', ts', lr', ls', br', bs'⟩
    obtain ⟨x, y, hdx, tx, ty, lx, ly, bx, bY⟩ := hx
    have go : ∀ (s6 s7 : Option D), S_f_law_pair_right_v2 [.ref a, tI x, tI y] G5 (fun z G2 => truD z G2 fun b G1 => if b = true then Kn2 [some (.lsv (ns.map .int)), some (.int i), some (.ref a), s3, some (tI r), some (tI s), some (tI x), some (tI y), s8] G1 else ∃ G2, Sub G2 G1 ∧ Q (.bl false) G2) E := fun s6 s7 => by
      refine ⟨a, _, x, y, rfl, b5.self, by omega, tx, ty, lx, ly, bx, bY, fun G6 b6 => ?_⟩
      simp
      exact hK2 _ _ ⟨_, _, rfl, (b5.trans b6).mono (by simp; omega), k5'.trans b6.2⟩
    rcases hdx with rfl | ⟨rfl, rfl, rfl⟩
    · simp [h4]
      exact go none none
    · simp [h4, sqAt_some.mpr (k5' _ _ npp gpp)]
      exact go none none
  · rintro σ G5 ⟨s6, s7, rfl, b5, k5'⟩
    have b5 : Bx (5600 : Int) a G1 G5 := b5
    simp [h5]
    refine ⟨rfl, fun p e1 e2 e3 H0 t1 f1 f2 f3 fp g1 g2 g3 gp => ?_⟩
    have n1 := b5.ne f1
    have n2 := b5.ne f2
    have n3 := b5.ne f3
    have np := b5.ne fp
    have hb := b5.sub t1
    simp [sqAt_some.mpr gp]
    refine for_rule (fun i' σ G' => ∃ (s3 s6 s7 s8 : Option D), σ = [some (.lsv (ns.map .int)), some (.int i), some (.ref a), s3, some (tI r), some (tI s), s6, s7, s8] ∧ Bx (5600 + 20 * i') a G1 G' ∧ Kp a H0 G') ⟨_, _, _, _, rfl, by simpa using hb, .refl⟩ (fun i σ G' _ ⟨_, _, _, _, _, _, k⟩ => srcOk_one (sqAt_some.mpr (k _ _ np gp))) ?_ ?_
    · rintro i' bad σ G2 Kn hd ⟨s3, s6, s7, s8, rfl, hb2, kp2⟩ hK1
      obtain ⟨c2, isb, _⟩ := bad_all n1 n2 n3 g1 g2 g3 bad (List.mem_of_getElem? hd)
      have h17 : i' < 17 := (List.getElem?_eq_some_iff.mp hd).1
      have c2 := c2.kp kp2
      simp
      intro pw hpw
      have b6 := hb2.put (o := .lst [D.str "common", D.str "divides", D.str "quotient", D.str "pseudo"]) hpw
      have npw := hb2.ne hpw
      have gpw : put G2 pw (.lst [D.str "common", D.str "divides", D.str "quotient", D.str "pseudo"]) pw = some (.lst [D.str "common", D.str "divides", D.str "quotient", D.str "pseudo"]) := put_same
      have c2 := c2.kp (Kp.put (o := .lst [D.str "common", D.str "divides", D.str "quotient", D.str "pseudo"]) hpw)
      have kp2 := kp2.trans (Kp.put (o := .lst [D.str "common", D.str "divides", D.str "quotient", D.str "pseudo"]) hpw)
      generalize put G2 pw (.lst [D.str "common", D.str "divides", D.str "quotient", D.str "pseudo"]) = G3 at *
      refine for_rule (fun j σ G' => ∃ (s6 s7 s8 : Option D), σ = [some (.lsv (ns.map .int)), some (.int i), some (.ref a), some bad, some (tI r), some (tI s), s6, s7, s8] ∧ Bx (5600 + 20 * i' + 4 * j) a G1 G' ∧ Kp a G3 G') ⟨_, _, _, rfl, by simpa using b6, .refl⟩ (fun i σ G' _ ⟨_, _, _, _, _, k⟩ => srcOk_one (sqAt_some.mpr (k _ _ npw gpw))) ?_ ?_
      · rintro j d σ G4 Kn hd ⟨s6, s7, s8, rfl, b7, k7'⟩ hK2
        obtain ⟨w, hw, rfl, hj⟩ := wIn4 j d hd
        have c3 := c2.kp k7'
        simp
        intro pt hpt
        have b8 := b7.put (o := .lst [D.tup [bad, .non], D.tup [bad, tI s], D.tup [tI r, bad]]) hpt
        have npt := b7.ne hpt
        have gpt : put G4 pt (.lst [D.tup [bad, .non], D.tup [bad, tI s], D.tup [tI r, bad]]) pt = some (.lst [D.tup [bad, .non], D.tup [bad, tI s], D.tup [tI r, bad]]) := put_same
        have c3 := c3.kp (Kp.put (o := .lst [D.tup [bad, .non], D.tup [bad, tI s], D.tup [tI r, bad]]) hpt)
        have k7' := k7'.trans (Kp.put (o := .lst [D.tup [bad, .non], D.tup [bad, tI s], D.tup [tI r, bad]]) hpt)
        generalize put G4 pt (.lst [D.tup [bad, .non], D.tup [bad, tI s], D.tup [tI r, bad]]) = G5 at *
        refine for_rule (fun m σ G' => ∃ (s6 s7 : Option D), σ = [some (.lsv (ns.map .int)), some (.int i), some (.ref a), some bad, some (tI r), some (tI s), s6, s7, some (.str w)] ∧ Bx (5600 + 20 * i' + 4 * j + m) a G1 G' ∧ Kp a G5 G') ⟨_, _, rfl, by simpa using b8, .refl⟩ (fun i σ G' _ ⟨_, _, _, _, k⟩ => srcOk_one (sqAt_some.mpr (k _ _ npt gpt))) ?_ ?_
        · rintro m d σ G6 Kn hd ⟨s6, s7, rfl, b9, k9⟩ hK3
          have hm : m < 3 := (List.getElem?_eq_some_iff.mp hd).1
          have c4 := c3.kp k9
          have hx : ∃ x y, d = .tup [x, y] ∧ Cpy a G6 x x ∧ Cpy a G6 y y ∧ (x = bad ∨ (y = bad ∧ ∃ l, x = tI l ∧ Trm l ∧ l.length ≤ 100)) := by
            have hm := List.mem_of_getElem? hd
            simp only [List.mem_cons, List.not_mem_nil, or_false] at hm
            rcases hm with rfl | rfl | rfl
            · exact ⟨_, _, rfl, c4, .inl ⟨rfl, pb_non⟩, .inl rfl⟩
            · exact ⟨_, _, rfl, c4, cpy_ints (by omega), .inl rfl⟩
            · exact ⟨_, _, rfl, cpy_ints (by omega), c4, .inr ⟨rfl, r, rfl, tr, by omega⟩⟩
          obtain ⟨x, y, rfl, cx, cy, hxy⟩ := hx
          simp [h6, h7, h8]
          refine bad_pair ⟨k6, d6, h6⟩ ⟨k7, d7, h7⟩ ⟨k8, d8, h8⟩ b9 (by omega) hw cx cy c4 isb hxy fun G7 b10 k10 => ?_
          simp
          exact hK3 _ _ ⟨_, _, rfl, b10.mono (by simp; omega), k9.trans k10⟩
        · rintro σ G6 ⟨s6, s7, rfl, b9, k9⟩
          have b9 : Bx (5600 + 20 * (i' : Int) + 4 * (j : Int) + (3 : Nat)) a G1 G6 := b9
          exact hK2 _ _ ⟨_, _, _, rfl, b9.mono (by simp; omega), k7'.trans k9⟩
      · rintro σ G4 ⟨s6, s7, s8, rfl, b7, k7'⟩
        have b7 : Bx (5600 + 20 * (i' : Int) + 4 * (4 : Nat)) a G1 G4 := b7
        exact hK1 _ _ ⟨_, _, _, _, rfl, b7.mono (by simp; omega), kp2.trans k7'⟩
    · rintro σ G2 ⟨s3, s6, s7, s8, rfl, _, _⟩
      exact hK _ _ ⟨_, _, _, _, _, _, _, _, rfl⟩
end DL.LW

set_option Elab.async false
set_option linter.all false
set_option maxRecDepth 100000
set_option maxHeartbeats 4000000
namespace DL.LW
open PySem PySem.Spec PyProof.Rows L2 DL
/-- what the text has made of the names -/
structure Facts (K : PySem.W.Frag) : Prop where
  bt : ∀ x ∈ bNames, PySem.W.nsIn K mainGlobals x = some none
  gc : PySem.W.nsIn K mainGlobals "gcd" = some (some (.builtin "math.gcd"))
  x_DividedByZero : ∃ C, PySem.W.nsIn K mainGlobals "DividedByZero" = some (some (.ref C)) ∧ PySem.W.excIn K C veB "ValueError.__new__" = true ∧ PySem.W.keepIn K (.ref C) = true ∧ PySem.W.subIn K (.ref C) (.type "BaseException") = some true ∧ PySem.W.typeIn K (.ref C) = some (.type "type")
  x_InvalidPolynomial : ∃ C, PySem.W.nsIn K mainGlobals "InvalidPolynomial" = some (some (.ref C)) ∧ ExcAt K C "given" (inClass (topS 4) 0)
  m0 : ∃ Cx Cy, PySem.W.nsIn K mainGlobals "DividedByZero" = some (some (.ref Cx)) ∧ PySem.W.nsIn K mainGlobals "InvalidPolynomial" = some (some (.ref Cy)) ∧ PySem.W.exmOne K (.ref Cx) (.ref Cy) = some false
  m1 : ∃ Cx Cy, PySem.W.nsIn K mainGlobals "DividedByZero" = some (some (.ref Cx)) ∧ PySem.W.nsIn K mainGlobals "DividedByZero" = some (some (.ref Cy)) ∧ PySem.W.exmOne K (.ref Cx) (.ref Cy) = some true
  m2 : ∃ Cx Cy, PySem.W.nsIn K mainGlobals "InvalidPolynomial" = some (some (.ref Cx)) ∧ PySem.W.nsIn K mainGlobals "InvalidPolynomial" = some (some (.ref Cy)) ∧ PySem.W.exmOne K (.ref Cx) (.ref Cy) = some true
  d_is_integer : DefAt K "is_integer" (topS 6)
  d_is_integer_polynomial : DefAt K "is_integer_polynomial" (topS 8)
  d_check_polynomial : DefAt K "check_polynomial" (topS 9)
  d_trimmed : DefAt K "trimmed" (topS 10)
  d_multiple_of : DefAt K "multiple_of" (topS 11)
  d_degree_of : DefAt K "degree_of" (topS 12)
  d_content_of : DefAt K "content_of" (topS 13)
  d_primitive_of : DefAt K "primitive_of" (topS 14)
  d_quotient_of : DefAt K "quotient_of" (topS 16)
  d_pseudo_rest_of : DefAt K "pseudo_rest_of" (topS 17)
  d_common_primitive : DefAt K "common_primitive" (topS 18)
  d_common_of : DefAt K "common_of" (topS 19)
  d_common : DefAt K "common" (topS 20)
  d_divides : DefAt K "divides" (topS 21)
  d_quotient : DefAt K "quotient" (topS 22)
  d_pseudo_rest : DefAt K "pseudo_rest" (topS 23)
  d_f_law_cell : DefAt K "_law_cell" (topS 25)
  d_f_law_box : DefAt K "_law_box" (topS 26)
  d_f_law_take : DefAt K "_law_take" (topS 27)
  d_f_law_same : DefAt K "_law_same" (topS 28)
  d_f_law_gcd : DefAt K "_law_gcd" (topS 29)
  d_f_law_trim : DefAt K "_law_trim" (topS 30)
  d_f_law_times : DefAt K "_law_times" (topS 31)
  d_f_law_plus : DefAt K "_law_plus" (topS 32)
  d_f_law_content : DefAt K "_law_content" (topS 33)
  d_f_law_primitive : DefAt K "_law_primitive" (topS 34)
  d_f_law_rest : DefAt K "_law_rest" (topS 35)
  d_f_law_common : DefAt K "_law_common" (topS 36)
  d_f_law_roots_made : DefAt K "_law_roots_made" (topS 37)
  d_f_law_drawn : DefAt K "_law_drawn" (topS 38)
  d_f_law_very : DefAt K "_law_very" (topS 39)
  d_f_law_one : DefAt K "_law_one" (topS 40)
  d_f_law_bad_ones : DefAt K "_law_bad_ones" (topS 41)
  d_f_law_handed : DefAt K "_law_handed" (topS 42)
  d_f_law_caught : DefAt K "_law_caught" (topS 43)
  d_f_law_quotient : DefAt K "_law_quotient" (topS 44)
  d_f_law_pseudo : DefAt K "_law_pseudo" (topS 45)
  d_f_law_pair_right : DefAt K "_law_pair_right" (topS 46)
  d_f_law_pair : DefAt K "_law_pair" (topS 47)
  d_law : DefAt K "law" (topS 48)
section
variable {P : Program} {w : World} {K : PySem.W.Frag} {mg : Str → Option Value} {base h : Heap}
abbrev T0 : GE := GE0
theorem t0 (X : K.In h) (hG : h.Ns mainGlobals mg) (A : Facts K) (ns : base.NoSeer) (tr : P.given.tree = none) : GOk T0 34 1 P w K mg base := .zero (bt_of X hG A.bt) (fun _ => PySem.W.mg_of X hG A.gc) (fun h => absurd h (by decide)) ns tr
def T1 : GE := T0.addX "DividedByZero" []
theorem t1 (X : K.In h) (hG : h.Ns mainGlobals mg) (A : Facts K) (ok : GOk T0 34 1 P w K mg base) : GOk T1 34 1 P w K mg base :=
  by obtain ⟨C, a, b1, b2, b3, b4⟩ := A.x_DividedByZero; exact ok.addX (ex_plain X hG a b1 b2 b3 b4) (by decide)
def T2 : GE := T1.addX "InvalidPolynomial" ["given"]
theorem t2 (X : K.In h) (hG : h.Ns mainGlobals mg) (A : Facts K) (ok : GOk T1 34 1 P w K mg base) : GOk T2 34 1 P w K mg base :=
  by obtain ⟨C, a, b⟩ := A.x_InvalidPolynomial; exact ok.addX (ex_field (p4 := ⟨0, 0, 0, 0⟩) X hG a b ⟨rfl, rfl, rfl, by decide +kernel, rfl, by decide +kernel, by decide +kernel⟩ rfl rfl rfl (by decide) (fun _ _ _ _ _ _ _ us hl => match us, hl with | [_, _], _ => rfl)) (by decide)
def T3 : GE := T2.addM "DividedByZero" "InvalidPolynomial" false
theorem t3 (X : K.In h) (hG : h.Ns mainGlobals mg) (A : Facts K) (ok : GOk T2 34 1 P w K mg base) : GOk T3 34 1 P w K mg base :=
  by obtain ⟨Cx, Cy, a, b, c⟩ := A.m0; exact ok.addM ⟨Cx, Cy, PySem.W.mg_of X hG a, PySem.W.mg_of X hG b, c⟩
def T4 : GE := T3.addM "DividedByZero" "DividedByZero" true
theorem t4 (X : K.In h) (hG : h.Ns mainGlobals mg) (A : Facts K) (ok : GOk T3 34 1 P w K mg base) : GOk T4 34 1 P w K mg base :=
  by obtain ⟨Cx, Cy, a, b, c⟩ := A.m1; exact ok.addM ⟨Cx, Cy, PySem.W.mg_of X hG a, PySem.W.mg_of X hG b, c⟩
def T5 : GE := T4.addM "InvalidPolynomial" "InvalidPolynomial" true
theorem t5 (X : K.In h) (hG : h.Ns mainGlobals mg) (A : Facts K) (ok : GOk T4 34 1 P w K mg base) : GOk T5 34 1 P w K mg base :=
  by obtain ⟨Cx, Cy, a, b, c⟩ := A.m2; exact ok.addM ⟨Cx, Cy, PySem.W.mg_of X hG a, PySem.W.mg_of X hG b, c⟩
def T6 : GE := T5.add "is_integer" ⟨["value"], S_is_integer, [], []⟩
theorem t6 (X : K.In h) (hG : h.Ns mainGlobals mg) (A : Facts K) (ok : GOk T5 34 1 P w K mg base) : GOk T6 35 1 P w K mg base :=
  step X hG ok (by decide) "is_integer" ⟨["value"], S_is_integer, [], []⟩ A.d_is_integer rfl sc_is_integer ck_is_integer (fun ds G Q E hl h => run_is_integer  hl h) (fun _ _ _ _ _ _ us hl => match us, hl with | [_], _ => rfl) (fun q hq => nomatch hq)
def T7 : GE := T6.add "is_integer_polynomial" ⟨["value"], S_is_integer_polynomial, [], []⟩
theorem t7 (X : K.In h) (hG : h.Ns mainGlobals mg) (A : Facts K) (ok : GOk T6 35 1 P w K mg base) : GOk T7 36 1 P w K mg base :=
  step X hG ok (by decide) "is_integer_polynomial" ⟨["value"], S_is_integer_polynomial, [], []⟩ A.d_is_integer_polynomial rfl sc_is_integer_polynomial ck_is_integer_polynomial (fun ds G Q E hl h => run_is_integer_polynomial (by first | rfl | exact ⟨_, _, rfl⟩ | exact ⟨_, rfl, rfl⟩) hl h) (fun _ _ _ _ _ _ us hl => match us, hl with | [_], _ => rfl) (fun q hq => nomatch hq)
def T8 : GE := T7.add "check_polynomial" ⟨["value"], S_check_polynomial, [], []⟩
theorem t8 (X : K.In h) (hG : h.Ns mainGlobals mg) (A : Facts K) (ok : GOk T7 36 1 P w K mg base) : GOk T8 37 1 P w K mg base :=
  step X hG ok (by decide) "check_polynomial" ⟨["value"], S_check_polynomial, [], []⟩ A.d_check_polynomial rfl sc_check_polynomial ck_check_polynomial (fun ds G Q E hl h => run_check_polynomial (by first | rfl | exact ⟨_, _, rfl⟩ | exact ⟨_, rfl, rfl⟩) (by first | rfl | exact ⟨_, _, rfl⟩ | exact ⟨_, rfl, rfl⟩) hl h) (fun _ _ _ _ _ _ us hl => match us, hl with | [_], _ => rfl) (fun q hq => nomatch hq)
def T9 : GE := T8.add "trimmed" ⟨["items"], S_trimmed, [], []⟩
theorem t9 (X : K.In h) (hG : h.Ns mainGlobals mg) (A : Facts K) (ok : GOk T8 37 1 P w K mg base) : GOk T9 38 1 P w K mg base :=
  step X hG ok (by decide) "trimmed" ⟨["items"], S_trimmed, [], []⟩ A.d_trimmed rfl sc_trimmed ck_trimmed (fun ds G Q E hl h => run_trimmed  hl h) (fun _ _ _ _ _ _ us hl => match us, hl with | [_], _ => rfl) (fun q hq => nomatch hq)
def T10 : GE := T9.add "multiple_of" ⟨["one", "number"], S_multiple_of, [], []⟩
theorem t10 (X : K.In h) (hG : h.Ns mainGlobals mg) (A : Facts K) (ok : GOk T9 38 1 P w K mg base) : GOk T10 39 1 P w K mg base :=
  step X hG ok (by decide) "multiple_of" ⟨["one", "number"], S_multiple_of, [], []⟩ A.d_multiple_of rfl sc_multiple_of ck_multiple_of (fun ds G Q E hl h => run_multiple_of (by first | rfl | exact ⟨_, _, rfl⟩ | exact ⟨_, rfl, rfl⟩) hl h) (fun _ _ _ _ _ _ us hl => match us, hl with | [_, _], _ => rfl) (fun q hq => nomatch hq)
def T11 : GE := T10.add "degree_of" ⟨["one"], S_degree_of, [], []⟩
theorem t11 (X : K.In h) (hG : h.Ns mainGlobals mg) (A : Facts K) (ok : GOk T10 39 1 P w K mg base) : GOk T11 40 1 P w K mg base :=
  step X hG ok (by decide) "degree_of" ⟨["one"], S_degree_of, [], []⟩ A.d_degree_of rfl sc_degree_of ck_degree_of (fun ds G Q E hl h => run_degree_of  hl h) (fun _ _ _ _ _ _ us hl => match us, hl with | [_], _ => rfl) (fun q hq => nomatch hq)
def T12 : GE := T11.add "content_of" ⟨["one"], S_content_of, [], []⟩
theorem t12 (X : K.In h) (hG : h.Ns mainGlobals mg) (A : Facts K) (ok : GOk T11 40 1 P w K mg base) : GOk T12 41 1 P w K mg base :=
  step X hG ok (by decide) "content_of" ⟨["one"], S_content_of, [], []⟩ A.d_content_of rfl sc_content_of ck_content_of (fun ds G Q E hl h => run_content_of  hl h) (fun _ _ _ _ _ _ us hl => match us, hl with | [_], _ => rfl) (fun q hq => nomatch hq)
def T13 : GE := T12.add "primitive_of" ⟨["one"], S_primitive_of, [], []⟩
theorem t13 (X : K.In h) (hG : h.Ns mainGlobals mg) (A : Facts K) (ok : GOk T12 41 1 P w K mg base) : GOk T13 42 1 P w K mg base :=
  step X hG ok (by decide) "primitive_of" ⟨["one"], S_primitive_of, [], []⟩ A.d_primitive_of rfl sc_primitive_of ck_primitive_of (fun ds G Q E hl h => run_primitive_of (by first | rfl | exact ⟨_, _, rfl⟩ | exact ⟨_, rfl, rfl⟩) hl h) (fun _ _ _ _ _ _ us hl => match us, hl with | [_], _ => rfl) (fun q hq => nomatch hq)
def T14 : GE := T13.add "quotient_of" ⟨["one", "other"], S_quotient_of, [], []⟩
theorem t14 (X : K.In h) (hG : h.Ns mainGlobals mg) (A : Facts K) (ok : GOk T13 42 1 P w K mg base) : GOk T14 43 1 P w K mg base :=
  step X hG ok (by decide) "quotient_of" ⟨["one", "other"], S_quotient_of, [], []⟩ A.d_quotient_of rfl sc_quotient_of ck_quotient_of (fun ds G Q E hl h => run_quotient_of (by first | rfl | exact ⟨_, _, rfl⟩ | exact ⟨_, rfl, rfl⟩) hl h) (fun _ _ _ _ _ _ us hl => match us, hl with | [_, _], _ => rfl) (fun q hq => nomatch hq)
def T15 : GE := T14.add "pseudo_rest_of" ⟨["one", "other"], S_pseudo_rest_of, [], []⟩
theorem t15 (X : K.In h) (hG : h.Ns mainGlobals mg) (A : Facts K) (ok : GOk T14 43 1 P w K mg base) : GOk T15 44 1 P w K mg base :=
  step X hG ok (by decide) "pseudo_rest_of" ⟨["one", "other"], S_pseudo_rest_of, [], []⟩ A.d_pseudo_rest_of rfl sc_pseudo_rest_of ck_pseudo_rest_of (fun ds G Q E hl h => run_pseudo_rest_of (by first | rfl | exact ⟨_, _, rfl⟩ | exact ⟨_, rfl, rfl⟩) hl h) (fun _ _ _ _ _ _ us hl => match us, hl with | [_, _], _ => rfl) (fun q hq => nomatch hq)
def T16 : GE := T15.add "common_primitive" ⟨["one", "other"], S_common_primitive, [], []⟩
theorem t16 (X : K.In h) (hG : h.Ns mainGlobals mg) (A : Facts K) (ok : GOk T15 44 1 P w K mg base) : GOk T16 45 1 P w K mg base :=
  step X hG ok (by decide) "common_primitive" ⟨["one", "other"], S_common_primitive, [], []⟩ A.d_common_primitive rfl sc_common_primitive ck_common_primitive (fun ds G Q E hl h => run_common_primitive (by first | rfl | exact ⟨_, _, rfl⟩ | exact ⟨_, rfl, rfl⟩) (by first | rfl | exact ⟨_, _, rfl⟩ | exact ⟨_, rfl, rfl⟩) hl h) (fun _ _ _ _ _ _ us hl => match us, hl with | [_, _], _ => rfl) (fun q hq => nomatch hq)
def T17 : GE := T16.add "common_of" ⟨["one", "other"], S_common_of, [], []⟩
theorem t17 (X : K.In h) (hG : h.Ns mainGlobals mg) (A : Facts K) (ok : GOk T16 45 1 P w K mg base) : GOk T17 46 1 P w K mg base :=
  step X hG ok (by decide) "common_of" ⟨["one", "other"], S_common_of, [], []⟩ A.d_common_of rfl sc_common_of ck_common_of (fun ds G Q E hl h => run_common_of_v2 (by first | rfl | exact ⟨_, _, rfl⟩ | exact ⟨_, rfl, rfl⟩) (by first | rfl | exact ⟨_, _, rfl⟩ | exact ⟨_, rfl, rfl⟩) (by first | rfl | exact ⟨_, _, rfl⟩ | exact ⟨_, rfl, rfl⟩) hl h) (fun _ _ _ _ _ _ us hl => match us, hl with | [_, _], _ => rfl) (fun q hq => nomatch hq)
def T18 : GE := T17.add "common" ⟨["one", "other"], S_common, [(0, ["other", "one"], [1, 0])], []⟩
theorem t18 (X : K.In h) (hG : h.Ns mainGlobals mg) (A : Facts K) (ok : GOk T17 46 1 P w K mg base) : GOk T18 47 1 P w K mg base :=
  step X hG ok (by decide) "common" ⟨["one", "other"], S_common, [(0, ["other", "one"], [1, 0])], []⟩ A.d_common rfl sc_common ck_common (fun ds G Q E hl h => run_common (by first | rfl | exact ⟨_, _, rfl⟩ | exact ⟨_, rfl, rfl⟩) (by first | rfl | exact ⟨_, _, rfl⟩ | exact ⟨_, rfl, rfl⟩) hl h) (fun _ _ _ _ _ _ us hl => match us, hl with | [_, _], _ => rfl) (fun q hq => (by
    simp only [List.mem_cons, List.not_mem_nil, or_false] at hq
    rcases hq with rfl
    · exact fun _ _ _ _ _ _ us ws hl hw => match us, ws, hl, hw with | [], [_, _], _, _ => rfl))
def T19 : GE := T18.add "divides" ⟨["one", "other"], S_divides, [(0, ["other", "one"], [1, 0])], []⟩
theorem t19 (X : K.In h) (hG : h.Ns mainGlobals mg) (A : Facts K) (ok : GOk T18 47 1 P w K mg base) : GOk T19 48 1 P w K mg base :=
  step X hG ok (by decide) "divides" ⟨["one", "other"], S_divides, [(0, ["other", "one"], [1, 0])], []⟩ A.d_divides rfl sc_divides ck_divides (fun ds G Q E hl h => run_divides (by first | rfl | exact ⟨_, _, rfl⟩ | exact ⟨_, rfl, rfl⟩) (by first | rfl | exact ⟨_, _, rfl⟩ | exact ⟨_, rfl, rfl⟩) hl h) (fun _ _ _ _ _ _ us hl => match us, hl with | [_, _], _ => rfl) (fun q hq => (by
    simp only [List.mem_cons, List.not_mem_nil, or_false] at hq
    rcases hq with rfl
    · exact fun _ _ _ _ _ _ us ws hl hw => match us, ws, hl, hw with | [], [_, _], _, _ => rfl))
def T20 : GE := T19.add "quotient" ⟨["one", "other"], S_quotient, [(0, ["other", "one"], [1, 0])], []⟩
theorem t20 (X : K.In h) (hG : h.Ns mainGlobals mg) (A : Facts K) (ok : GOk T19 48 1 P w K mg base) : GOk T20 49 1 P w K mg base :=
  step X hG ok (by decide) "quotient" ⟨["one", "other"], S_quotient, [(0, ["other", "one"], [1, 0])], []⟩ A.d_quotient rfl sc_quotient ck_quotient (fun ds G Q E hl h => run_quotient (by first | rfl | exact ⟨_, _, rfl⟩ | exact ⟨_, rfl, rfl⟩) (by first | rfl | exact ⟨_, _, rfl⟩ | exact ⟨_, rfl, rfl⟩) (by first | rfl | exact ⟨_, _, rfl⟩ | exact ⟨_, rfl, rfl⟩) hl h) (fun _ _ _ _ _ _ us hl => match us, hl with | [_, _], _ => rfl) (fun q hq => (by
    simp only [List.mem_cons, List.not_mem_nil, or_false] at hq
    rcases hq with rfl
    · exact fun _ _ _ _ _ _ us ws hl hw => match us, ws, hl, hw with | [], [_, _], _, _ => rfl))
def T21 : GE := T20.add "pseudo_rest" ⟨["one", "other"], S_pseudo_rest, [(0, ["other", "one"], [1, 0])], []⟩
theorem t21 (X : K.In h) (hG : h.Ns mainGlobals mg) (A : Facts K) (ok : GOk T20 49 1 P w K mg base) : GOk T21 50 1 P w K mg base :=
  step X hG ok (by decide) "pseudo_rest" ⟨["one", "other"], S_pseudo_rest, [(0, ["other", "one"], [1, 0])], []⟩ A.d_pseudo_rest rfl sc_pseudo_rest ck_pseudo_rest (fun ds G Q E hl h => run_pseudo_rest (by first | rfl | exact ⟨_, _, rfl⟩ | exact ⟨_, rfl, rfl⟩) (by first | rfl | exact ⟨_, _, rfl⟩ | exact ⟨_, rfl, rfl⟩) (by first | rfl | exact ⟨_, _, rfl⟩ | exact ⟨_, rfl, rfl⟩) (by first | rfl | exact ⟨_, _, rfl⟩ | exact ⟨_, rfl, rfl⟩) hl h) (fun _ _ _ _ _ _ us hl => match us, hl with | [_, _], _ => rfl) (fun q hq => (by
    simp only [List.mem_cons, List.not_mem_nil, or_false] at hq
    rcases hq with rfl
    · exact fun _ _ _ _ _ _ us ws hl hw => match us, ws, hl, hw with | [], [_, _], _, _ => rfl))
def T22 : GE := T21.add "_law_cell" ⟨["script", "k"], S_f_law_cell, [], []⟩
theorem t22 (X : K.In h) (hG : h.Ns mainGlobals mg) (A : Facts K) (ok : GOk T21 50 1 P w K mg base) : GOk T22 51 1 P w K mg base :=
  step X hG ok (by decide) "_law_cell" ⟨["script", "k"], S_f_law_cell, [], []⟩ A.d_f_law_cell rfl sc_f_law_cell ck_f_law_cell (fun ds G Q E hl h => run_f_law_cell  hl h) (fun _ _ _ _ _ _ us hl => match us, hl with | [_, _], _ => rfl) (fun q hq => nomatch hq)
def T23 : GE := T22.add "_law_box" ⟨["great"], S_f_law_box, [], []⟩
theorem t23 (X : K.In h) (hG : h.Ns mainGlobals mg) (A : Facts K) (ok : GOk T22 51 1 P w K mg base) : GOk T23 52 1 P w K mg base :=
  step X hG ok (by decide) "_law_box" ⟨["great"], S_f_law_box, [], []⟩ A.d_f_law_box rfl sc_f_law_box ck_f_law_box (fun ds G Q E hl h => run_f_law_box  hl h) (fun _ _ _ _ _ _ us hl => match us, hl with | [_], _ => rfl) (fun q hq => nomatch hq)
def T24 : GE := T23.add "_law_take" ⟨["box", "many"], S_f_law_take, [], []⟩
theorem t24 (X : K.In h) (hG : h.Ns mainGlobals mg) (A : Facts K) (ok : GOk T23 52 1 P w K mg base) : GOk T24 53 1 P w K mg base :=
  step X hG ok (by decide) "_law_take" ⟨["box", "many"], S_f_law_take, [], []⟩ A.d_f_law_take rfl sc_f_law_take ck_f_law_take (fun ds G Q E hl h => run_f_law_take  hl h) (fun _ _ _ _ _ _ us hl => match us, hl with | [_, _], _ => rfl) (fun q hq => nomatch hq)
def T25 : GE := T24.add "_law_same" ⟨["told", "due"], S_same 0, [], []⟩
theorem t25 (X : K.In h) (hG : h.Ns mainGlobals mg) (A : Facts K) (ok : GOk T24 53 1 P w K mg base) : GOk T25 54 1 P w K mg base :=
  step X hG ok (by decide) "_law_same" ⟨["told", "due"], S_same 0, [], []⟩ A.d_f_law_same rfl sc_f_law_same ck_f_law_same (fun ds G Q E hl h => (by obtain ⟨x, y, _, z, _⟩ := h; exact z.elim)) (fun _ _ _ _ _ _ us hl => match us, hl with | [_, _], _ => rfl) (fun q hq => nomatch hq)
def T26 : GE := T25.add "_law_same" ⟨["told", "due"], S_same 1, [], []⟩
theorem t26 (X : K.In h) (hG : h.Ns mainGlobals mg) (A : Facts K) (ok : GOk T25 54 1 P w K mg base) : GOk T26 55 1 P w K mg base :=
  step X hG ok (by decide) "_law_same" ⟨["told", "due"], S_same 1, [], []⟩ A.d_f_law_same rfl sc_f_law_same ck_f_law_same (fun ds G Q E hl h => run_same (by first | rfl | exact ⟨_, _, rfl⟩ | exact ⟨_, rfl, rfl⟩) hl h) (fun _ _ _ _ _ _ us hl => match us, hl with | [_, _], _ => rfl) (fun q hq => nomatch hq)
def T27 : GE := T26.add "_law_same" ⟨["told", "due"], S_same 2, [], []⟩
theorem t27 (X : K.In h) (hG : h.Ns mainGlobals mg) (A : Facts K) (ok : GOk T26 55 1 P w K mg base) : GOk T27 56 1 P w K mg base :=
  step X hG ok (by decide) "_law_same" ⟨["told", "due"], S_same 2, [], []⟩ A.d_f_law_same rfl sc_f_law_same ck_f_law_same (fun ds G Q E hl h => run_same (by first | rfl | exact ⟨_, _, rfl⟩ | exact ⟨_, rfl, rfl⟩) hl h) (fun _ _ _ _ _ _ us hl => match us, hl with | [_, _], _ => rfl) (fun q hq => nomatch hq)
def T28 : GE := T27.add "_law_same" ⟨["told", "due"], S_same 3, [], []⟩
theorem t28 (X : K.In h) (hG : h.Ns mainGlobals mg) (A : Facts K) (ok : GOk T27 56 1 P w K mg base) : GOk T28 57 1 P w K mg base :=
  step X hG ok (by decide) "_law_same" ⟨["told", "due"], S_same 3, [], []⟩ A.d_f_law_same rfl sc_f_law_same ck_f_law_same (fun ds G Q E hl h => run_same (by first | rfl | exact ⟨_, _, rfl⟩ | exact ⟨_, rfl, rfl⟩) hl h) (fun _ _ _ _ _ _ us hl => match us, hl with | [_, _], _ => rfl) (fun q hq => nomatch hq)
def T29 : GE := T28.add "_law_same" ⟨["told", "due"], S_same 4, [], []⟩
theorem t29 (X : K.In h) (hG : h.Ns mainGlobals mg) (A : Facts K) (ok : GOk T28 57 1 P w K mg base) : GOk T29 58 1 P w K mg base :=
  step X hG ok (by decide) "_law_same" ⟨["told", "due"], S_same 4, [], []⟩ A.d_f_law_same rfl sc_f_law_same ck_f_law_same (fun ds G Q E hl h => run_same (by first | rfl | exact ⟨_, _, rfl⟩ | exact ⟨_, rfl, rfl⟩) hl h) (fun _ _ _ _ _ _ us hl => match us, hl with | [_, _], _ => rfl) (fun q hq => nomatch hq)
def T30 : GE := T29.add "_law_gcd" ⟨["a", "b"], S_f_law_gcd, [], []⟩
theorem t30 (X : K.In h) (hG : h.Ns mainGlobals mg) (A : Facts K) (ok : GOk T29 58 1 P w K mg base) : GOk T30 59 1 P w K mg base :=
  step X hG ok (by decide) "_law_gcd" ⟨["a", "b"], S_f_law_gcd, [], []⟩ A.d_f_law_gcd rfl sc_f_law_gcd ck_f_law_gcd (fun ds G Q E hl h => run_f_law_gcd  hl h) (fun _ _ _ _ _ _ us hl => match us, hl with | [_, _], _ => rfl) (fun q hq => nomatch hq)
def T31 : GE := T30.add "_law_trim" ⟨["items"], S_f_law_trim, [], []⟩
theorem t31 (X : K.In h) (hG : h.Ns mainGlobals mg) (A : Facts K) (ok : GOk T30 59 1 P w K mg base) : GOk T31 60 1 P w K mg base :=
  step X hG ok (by decide) "_law_trim" ⟨["items"], S_f_law_trim, [], []⟩ A.d_f_law_trim rfl sc_f_law_trim ck_f_law_trim (fun ds G Q E hl h => run_f_law_trim  hl h) (fun _ _ _ _ _ _ us hl => match us, hl with | [_], _ => rfl) (fun q hq => nomatch hq)
def T32 : GE := T31.add "_law_times" ⟨["one", "other"], S_f_law_times, [], []⟩
theorem t32 (X : K.In h) (hG : h.Ns mainGlobals mg) (A : Facts K) (ok : GOk T31 60 1 P w K mg base) : GOk T32 61 1 P w K mg base :=
  step X hG ok (by decide) "_law_times" ⟨["one", "other"], S_f_law_times, [], []⟩ A.d_f_law_times rfl sc_f_law_times ck_f_law_times (fun ds G Q E hl h => run_f_law_times (by first | rfl | exact ⟨_, _, rfl⟩ | exact ⟨_, rfl, rfl⟩) hl h) (fun _ _ _ _ _ _ us hl => match us, hl with | [_, _], _ => rfl) (fun q hq => nomatch hq)
def T33 : GE := T32.add "_law_plus" ⟨["one", "other"], S_f_law_plus, [], []⟩
theorem t33 (X : K.In h) (hG : h.Ns mainGlobals mg) (A : Facts K) (ok : GOk T32 61 1 P w K mg base) : GOk T33 62 1 P w K mg base :=
  step X hG ok (by decide) "_law_plus" ⟨["one", "other"], S_f_law_plus, [], []⟩ A.d_f_law_plus rfl sc_f_law_plus ck_f_law_plus (fun ds G Q E hl h => run_f_law_plus (by first | rfl | exact ⟨_, _, rfl⟩ | exact ⟨_, rfl, rfl⟩) hl h) (fun _ _ _ _ _ _ us hl => match us, hl with | [_, _], _ => rfl) (fun q hq => nomatch hq)
def T34 : GE := T33.add "_law_content" ⟨["one"], S_f_law_content, [], []⟩
theorem t34 (X : K.In h) (hG : h.Ns mainGlobals mg) (A : Facts K) (ok : GOk T33 62 1 P w K mg base) : GOk T34 63 1 P w K mg base :=
  step X hG ok (by decide) "_law_content" ⟨["one"], S_f_law_content, [], []⟩ A.d_f_law_content rfl sc_f_law_content ck_f_law_content (fun ds G Q E hl h => run_f_law_content (by first | rfl | exact ⟨_, _, rfl⟩ | exact ⟨_, rfl, rfl⟩) hl h) (fun _ _ _ _ _ _ us hl => match us, hl with | [_], _ => rfl) (fun q hq => nomatch hq)
def T35 : GE := T34.add "_law_primitive" ⟨["one"], S_f_law_primitive, [], []⟩
theorem t35 (X : K.In h) (hG : h.Ns mainGlobals mg) (A : Facts K) (ok : GOk T34 63 1 P w K mg base) : GOk T35 64 1 P w K mg base :=
  step X hG ok (by decide) "_law_primitive" ⟨["one"], S_f_law_primitive, [], []⟩ A.d_f_law_primitive rfl sc_f_law_primitive ck_f_law_primitive (fun ds G Q E hl h => run_f_law_primitive (by first | rfl | exact ⟨_, _, rfl⟩ | exact ⟨_, rfl, rfl⟩) hl h) (fun _ _ _ _ _ _ us hl => match us, hl with | [_], _ => rfl) (fun q hq => nomatch hq)
def T36 : GE := T35.add "_law_rest" ⟨["one", "other"], S_f_law_rest, [], []⟩
theorem t36 (X : K.In h) (hG : h.Ns mainGlobals mg) (A : Facts K) (ok : GOk T35 64 1 P w K mg base) : GOk T36 65 1 P w K mg base :=
  step X hG ok (by decide) "_law_rest" ⟨["one", "other"], S_f_law_rest, [], []⟩ A.d_f_law_rest rfl sc_f_law_rest ck_f_law_rest (fun ds G Q E hl h => run_f_law_rest (by first | rfl | exact ⟨_, _, rfl⟩ | exact ⟨_, rfl, rfl⟩) hl h) (fun _ _ _ _ _ _ us hl => match us, hl with | [_, _], _ => rfl) (fun q hq => nomatch hq)
def T37 : GE := T36.add "_law_common" ⟨["one", "other"], S_f_law_common, [], []⟩
theorem t37 (X : K.In h) (hG : h.Ns mainGlobals mg) (A : Facts K) (ok : GOk T36 65 1 P w K mg base) : GOk T37 66 1 P w K mg base :=
  step X hG ok (by decide) "_law_common" ⟨["one", "other"], S_f_law_common, [], []⟩ A.d_f_law_common rfl sc_f_law_common ck_f_law_common (fun ds G Q E hl h => run_f_law_common (by first | rfl | exact ⟨_, _, rfl⟩ | exact ⟨_, rfl, rfl⟩) (by first | rfl | exact ⟨_, _, rfl⟩ | exact ⟨_, rfl, rfl⟩) hl h) (fun _ _ _ _ _ _ us hl => match us, hl with | [_, _], _ => rfl) (fun q hq => nomatch hq)
def T38 : GE := T37.add "_law_roots_made" ⟨["box", "many"], S_f_law_roots_made, [], []⟩
theorem t38 (X : K.In h) (hG : h.Ns mainGlobals mg) (A : Facts K) (ok : GOk T37 66 1 P w K mg base) : GOk T38 67 1 P w K mg base :=
  step X hG ok (by decide) "_law_roots_made" ⟨["box", "many"], S_f_law_roots_made, [], []⟩ A.d_f_law_roots_made rfl sc_f_law_roots_made ck_f_law_roots_made (fun ds G Q E hl h => run_f_law_roots_made (by first | rfl | exact ⟨_, _, rfl⟩ | exact ⟨_, rfl, rfl⟩) (by first | rfl | exact ⟨_, _, rfl⟩ | exact ⟨_, rfl, rfl⟩) hl h) (fun _ _ _ _ _ _ us hl => match us, hl with | [_, _], _ => rfl) (fun q hq => nomatch hq)
def T39 : GE := T38.add "_law_drawn" ⟨["box", "most"], S_f_law_drawn, [], []⟩
theorem t39 (X : K.In h) (hG : h.Ns mainGlobals mg) (A : Facts K) (ok : GOk T38 67 1 P w K mg base) : GOk T39 68 1 P w K mg base :=
  step X hG ok (by decide) "_law_drawn" ⟨["box", "most"], S_f_law_drawn, [], []⟩ A.d_f_law_drawn rfl sc_f_law_drawn ck_f_law_drawn (fun ds G Q E hl h => run_f_law_drawn (by first | rfl | exact ⟨_, _, rfl⟩ | exact ⟨_, rfl, rfl⟩) (by first | rfl | exact ⟨_, _, rfl⟩ | exact ⟨_, rfl, rfl⟩) (by first | rfl | exact ⟨_, _, rfl⟩ | exact ⟨_, rfl, rfl⟩) (by first | rfl | exact ⟨_, _, rfl⟩ | exact ⟨_, rfl, rfl⟩) (by first | rfl | exact ⟨_, _, rfl⟩ | exact ⟨_, rfl, rfl⟩) hl h) (fun _ _ _ _ _ _ us hl => match us, hl with | [_, _], _ => rfl) (fun q hq => nomatch hq)
def T40 : GE := T39.add "_law_very" ⟨["told", "word", "value"], S_f_law_very, [], []⟩
theorem t40 (X : K.In h) (hG : h.Ns mainGlobals mg) (A : Facts K) (ok : GOk T39 68 1 P w K mg base) : GOk T40 69 1 P w K mg base :=
  step X hG ok (by decide) "_law_very" ⟨["told", "word", "value"], S_f_law_very, [], []⟩ A.d_f_law_very rfl sc_f_law_very ck_f_law_very (fun ds G Q E hl h => run_f_law_very (by first | rfl | exact ⟨_, _, rfl⟩ | exact ⟨_, rfl, rfl⟩) hl h) (fun _ _ _ _ _ _ us hl => match us, hl with | [_, _, _], _ => rfl) (fun q hq => nomatch hq)
def T41 : GE := T40.add "_law_one" ⟨["box"], S_f_law_one, [], []⟩
theorem t41 (X : K.In h) (hG : h.Ns mainGlobals mg) (A : Facts K) (ok : GOk T40 69 1 P w K mg base) : GOk T41 70 1 P w K mg base :=
  step X hG ok (by decide) "_law_one" ⟨["box"], S_f_law_one, [], []⟩ A.d_f_law_one rfl sc_f_law_one ck_f_law_one (fun ds G Q E hl h => run_f_law_one (by first | rfl | exact ⟨_, _, rfl⟩ | exact ⟨_, rfl, rfl⟩) (by first | rfl | exact ⟨_, _, rfl⟩ | exact ⟨_, rfl, rfl⟩) hl h) (fun _ _ _ _ _ _ us hl => match us, hl with | [_], _ => rfl) (fun q hq => nomatch hq)
def T42 : GE := T41.add "_law_bad_ones" ⟨[], S_f_law_bad_ones, [], []⟩
theorem t42 (X : K.In h) (hG : h.Ns mainGlobals mg) (A : Facts K) (ok : GOk T41 70 1 P w K mg base) : GOk T42 71 1 P w K mg base :=
  step X hG ok (by decide) "_law_bad_ones" ⟨[], S_f_law_bad_ones, [], []⟩ A.d_f_law_bad_ones rfl sc_f_law_bad_ones ck_f_law_bad_ones (fun ds G Q E hl h => run_f_law_bad_ones  hl h) (fun _ _ _ _ _ _ us hl => match us, hl with | [], _ => rfl) (fun q hq => nomatch hq)
def T43 : GE := T42.add "_law_handed" ⟨["value"], S_f_law_handed, [], []⟩
theorem t43 (X : K.In h) (hG : h.Ns mainGlobals mg) (A : Facts K) (ok : GOk T42 71 1 P w K mg base) : GOk T43 72 1 P w K mg base :=
  step X hG ok (by decide) "_law_handed" ⟨["value"], S_f_law_handed, [], []⟩ A.d_f_law_handed rfl sc_f_law_handed ck_f_law_handed (fun ds G Q E hl h => run_f_law_handed  hl h) (fun _ _ _ _ _ _ us hl => match us, hl with | [_], _ => rfl) (fun q hq => nomatch hq)
def T44 : GE := T43.add "_law_caught" ⟨["box", "word", "one", "other"], S_f_law_caught_v4, [], []⟩
theorem t44 (X : K.In h) (hG : h.Ns mainGlobals mg) (A : Facts K) (ok : GOk T43 72 1 P w K mg base) : GOk T44 73 1 P w K mg base :=
  step X hG ok (by decide) "_law_caught" ⟨["box", "word", "one", "other"], S_f_law_caught_v4, [], []⟩ A.d_f_law_caught rfl sc_f_law_caught ck_f_law_caught (fun ds G Q E hl h => run_f_law_caught_v4 (by first | rfl | exact ⟨_, _, rfl⟩ | exact ⟨_, rfl, rfl⟩) (by first | rfl | exact ⟨_, _, rfl⟩ | exact ⟨_, rfl, rfl⟩) (by first | rfl | exact ⟨_, _, rfl⟩ | exact ⟨_, rfl, rfl⟩) (by first | rfl | exact ⟨_, _, rfl⟩ | exact ⟨_, rfl, rfl⟩) (by first | rfl | exact ⟨_, _, rfl⟩ | exact ⟨_, rfl, rfl⟩) (by first | rfl | exact ⟨_, _, rfl⟩ | exact ⟨_, rfl, rfl⟩) (by first | rfl | exact ⟨_, _, rfl⟩ | exact ⟨_, rfl, rfl⟩) (by first | rfl | exact ⟨_, _, rfl⟩ | exact ⟨_, rfl, rfl⟩) (by first | rfl | exact ⟨_, _, rfl⟩ | exact ⟨_, rfl, rfl⟩) (by first | rfl | exact ⟨_, _, rfl⟩ | exact ⟨_, rfl, rfl⟩) hl h) (fun _ _ _ _ _ _ us hl => match us, hl with | [_, _, _, _], _ => rfl) (fun q hq => nomatch hq)
def T45 : GE := T44.add "_law_quotient" ⟨["one", "other"], S_f_law_quotient, [], []⟩
theorem t45 (X : K.In h) (hG : h.Ns mainGlobals mg) (A : Facts K) (ok : GOk T44 73 1 P w K mg base) : GOk T45 74 1 P w K mg base :=
  step X hG ok (by decide) "_law_quotient" ⟨["one", "other"], S_f_law_quotient, [], []⟩ A.d_f_law_quotient rfl sc_f_law_quotient ck_f_law_quotient (fun ds G Q E hl h => run_f_law_quotient (by first | rfl | exact ⟨_, _, rfl⟩ | exact ⟨_, rfl, rfl⟩) hl h) (fun _ _ _ _ _ _ us hl => match us, hl with | [_, _], _ => rfl) (fun q hq => nomatch hq)
def T46 : GE := T45.add "_law_pseudo" ⟨["one", "other"], S_f_law_pseudo, [], []⟩
theorem t46 (X : K.In h) (hG : h.Ns mainGlobals mg) (A : Facts K) (ok : GOk T45 74 1 P w K mg base) : GOk T46 75 1 P w K mg base :=
  step X hG ok (by decide) "_law_pseudo" ⟨["one", "other"], S_f_law_pseudo, [], []⟩ A.d_f_law_pseudo rfl sc_f_law_pseudo ck_f_law_pseudo (fun ds G Q E hl h => run_f_law_pseudo (by first | rfl | exact ⟨_, _, rfl⟩ | exact ⟨_, rfl, rfl⟩) hl h) (fun _ _ _ _ _ _ us hl => match us, hl with | [_, _], _ => rfl) (fun q hq => nomatch hq)
def T47 : GE := T46.add "_law_pair_right" ⟨["box", "one", "other"], S_f_law_pair_right_v2, [], []⟩
theorem t47 (X : K.In h) (hG : h.Ns mainGlobals mg) (A : Facts K) (ok : GOk T46 75 1 P w K mg base) : GOk T47 76 1 P w K mg base :=
  step X hG ok (by decide) "_law_pair_right" ⟨["box", "one", "other"], S_f_law_pair_right_v2, [], []⟩ A.d_f_law_pair_right rfl sc_f_law_pair_right ck_f_law_pair_right (fun ds G Q E hl h => run_f_law_pair_right_v2 (by first | rfl | exact ⟨_, _, rfl⟩ | exact ⟨_, rfl, rfl⟩) (by first | rfl | exact ⟨_, _, rfl⟩ | exact ⟨_, rfl, rfl⟩) (by first | rfl | exact ⟨_, _, rfl⟩ | exact ⟨_, rfl, rfl⟩) (by first | rfl | exact ⟨_, _, rfl⟩ | exact ⟨_, rfl, rfl⟩) (by first | rfl | exact ⟨_, _, rfl⟩ | exact ⟨_, rfl, rfl⟩) (by first | rfl | exact ⟨_, _, rfl⟩ | exact ⟨_, rfl, rfl⟩) (by first | rfl | exact ⟨_, _, rfl⟩ | exact ⟨_, rfl, rfl⟩) hl h) (fun _ _ _ _ _ _ us hl => match us, hl with | [_, _, _], _ => rfl) (fun q hq => nomatch hq)
def T48 : GE := T47.add "_law_pair" ⟨["box"], S_f_law_pair_v2, [], []⟩
theorem t48 (X : K.In h) (hG : h.Ns mainGlobals mg) (A : Facts K) (ok : GOk T47 76 1 P w K mg base) : GOk T48 77 1 P w K mg base :=
  step X hG ok (by decide) "_law_pair" ⟨["box"], S_f_law_pair_v2, [], []⟩ A.d_f_law_pair rfl sc_f_law_pair ck_f_law_pair (fun ds G Q E hl h => run_f_law_pair_v2 (by first | rfl | exact ⟨_, _, rfl⟩ | exact ⟨_, rfl, rfl⟩) (by first | rfl | exact ⟨_, _, rfl⟩ | exact ⟨_, rfl, rfl⟩) (by first | rfl | exact ⟨_, _, rfl⟩ | exact ⟨_, rfl, rfl⟩) (by first | rfl | exact ⟨_, _, rfl⟩ | exact ⟨_, rfl, rfl⟩) hl h) (fun _ _ _ _ _ _ us hl => match us, hl with | [_], _ => rfl) (fun q hq => nomatch hq)
theorem all_ok (X : K.In h) (hG : h.Ns mainGlobals mg) (A : Facts K) (tr : P.given.tree = none) (base : Heap) (ns : base.NoSeer) : GOk T48 77 1 P w K mg base := by
  have g0 := t0 (P := P) (w := w) (base := base) X hG A ns tr
  have g1 := t1 X hG A g0
  have g2 := t2 X hG A g1
  have g3 := t3 X hG A g2
  have g4 := t4 X hG A g3
  have g5 := t5 X hG A g4
  have g6 := t6 X hG A g5
  have g7 := t7 X hG A g6
  have g8 := t8 X hG A g7
  have g9 := t9 X hG A g8
  have g10 := t10 X hG A g9
  have g11 := t11 X hG A g10
  have g12 := t12 X hG A g11
  have g13 := t13 X hG A g12
  have g14 := t14 X hG A g13
  have g15 := t15 X hG A g14
  have g16 := t16 X hG A g15
  have g17 := t17 X hG A g16
  have g18 := t18 X hG A g17
  have g19 := t19 X hG A g18
  have g20 := t20 X hG A g19
  have g21 := t21 X hG A g20
  have g22 := t22 X hG A g21
  have g23 := t23 X hG A g22
  have g24 := t24 X hG A g23
  have g25 := t25 X hG A g24
  have g26 := t26 X hG A g25
  have g27 := t27 X hG A g26
  have g28 := t28 X hG A g27
  have g29 := t29 X hG A g28
  have g30 := t30 X hG A g29
  have g31 := t31 X hG A g30
  have g32 := t32 X hG A g31
  have g33 := t33 X hG A g32
  have g34 := t34 X hG A g33
  have g35 := t35 X hG A g34
  have g36 := t36 X hG A g35
  have g37 := t37 X hG A g36
  have g38 := t38 X hG A g37
  have g39 := t39 X hG A g38
  have g40 := t40 X hG A g39
  have g41 := t41 X hG A g40
  have g42 := t42 X hG A g41
  have g43 := t43 X hG A g42
  have g44 := t44 X hG A g43
  have g45 := t45 X hG A g44
  have g46 := t46 X hG A g45
  have g47 := t47 X hG A g46
  have g48 := t48 X hG A g47
  exact g48
theorem law_end {fa : Addr} (X : K.In h) (hG : h.Ns mainGlobals mg) (hmg : mg "law" = some (.ref fa)) (tr : P.given.tree = none) (A : Facts K) : ∃ fd : FuncData, (∀ (s : Shared) (u : Value), BindsTo s fd ⟨[u], []⟩ [("script", u)]) ∧ ∀ base : Heap, K.In base → base.Ns mainGlobals mg → base.NoSeer → FnOk P w K mg base (L2.CX P w) 78 fa fd ["script"] (spLaw K) :=
  law_last X hG hmg A.d_law sc_law ck_law (by decide) (fun base ns => all_ok X hG A tr base ns) (fun ds G Q E hl h => run_law_k04 (by first | rfl | exact ⟨_, _, rfl⟩ | exact ⟨_, rfl, rfl⟩) (by first | rfl | exact ⟨_, _, rfl⟩ | exact ⟨_, rfl, rfl⟩) (by first | rfl | exact ⟨_, _, rfl⟩ | exact ⟨_, rfl, rfl⟩) (by first | rfl | exact ⟨_, _, rfl⟩ | exact ⟨_, rfl, rfl⟩) (by first | rfl | exact ⟨_, _, rfl⟩ | exact ⟨_, rfl, rfl⟩) (by first | rfl | exact ⟨_, _, rfl⟩ | exact ⟨_, rfl, rfl⟩) (by first | rfl | exact ⟨_, _, rfl⟩ | exact ⟨_, rfl, rfl⟩) (by first | rfl | exact ⟨_, _, rfl⟩ | exact ⟨_, rfl, rfl⟩) hl h) (fun _ _ _ _ _ _ us hl => match us, hl with | [_], _ => rfl)
end
end DL.LW

set_option Elab.async false
set_option maxRecDepth 100000
open PySem PySem.W PyProof.Rows
set_option maxHeartbeats 0 in
theorem PySem.Challenge.cw_polybench_k04_common_divisors_of_integer_holds : PySem.Challenge.rw_polybench_k04_common_divisors_of_integer.Holds := by
  w_on; o_law; k_head; (case hw => w_witness2)
  k_fill
  refine DL.walk_ofS (l := PySem.Challenge.rw_polybench_k04_common_divisors_of_integer) (n := 63) (k := 78) (x := "script") (cx := fun w => L2.CX PySem.Challenge.pw_polybench_k04_common_divisors_of_integer w) (sp := fun w => DL.spLaw _) rfl (by decide) rfl ⟨rfl, by decide, by decide⟩ (by decide +kernel) (fun w h Y => PySem.W.kIn_of Y) ?F (fun _ _ a ns hl ho hS => ⟨a, ns, rfl, DL.sqv_only ho hS, hl, fun _ => rfl⟩) (fun _ _ _ _ _ ⟨_, _, _, _, _, _, _, _, _, _, _, _, h⟩ => h)
  case F =>
    intro w mg fa h KX G hmg
    refine' DL.LW.law_end KX G hmg rfl ?fx
    (case fx =>
      refine' ⟨?f0, ?f1, ?f2, ?f3, ?f4, ?f5, ?f6, ?f7, ?f8, ?f9, ?f10, ?f11, ?f12, ?f13, ?f14, ?f15, ?f16, ?f17, ?f18, ?f19, ?f20, ?f21, ?f22, ?f23, ?f24, ?f25, ?f26, ?f27, ?f28, ?f29, ?f30, ?f31, ?f32, ?f33, ?f34, ?f35, ?f36, ?f37, ?f38, ?f39, ?f40, ?f41, ?f42, ?f43, ?f44, ?f45, ?f46⟩
      (case f0 => refine' DL.bt_mk ?z0 ?z1 ?z2 ?z3 ?z4 ?z5 ?z6 ?z7 ?z8 ?z9 ?z10 ?z11 ?z12 ?z13 ?z14 ?z15 ?z16 ?z17; (case z0 => k_is); (case z1 => k_is); (case z2 => k_is); (case z3 => k_is); (case z4 => k_is); (case z5 => k_is); (case z6 => k_is); (case z7 => k_is); (case z8 => k_is); (case z9 => k_is); (case z10 => k_is); (case z11 => k_is); (case z12 => k_is); (case z13 => k_is); (case z14 => k_is); (case z15 => k_is); (case z16 => k_is); (case z17 => k_is))
      (case f1 => k_is)
      (case f2 => refine' DL.exP_mk ?a ?b1 ?b2 ?b3 ?b4; (case a => k_is); (case b1 => first | k_exc | rfl | decide +kernel); (case b2 => k_is); (case b3 => k_is); (case b4 => k_is))
      (case f3 => refine' DL.exX_mk ?a ?b; (case a => k_is); (case b => refine' DL.excAt_mk ?xL ?xv ?sa ?ga ?gg ?nb ?a1 ?t1 ?l1 ?c1 ?k1 ?kC ?eC ?tC ?hC; (case xL => k_is); (case xv => rfl); (case sa => k_is); (case ga => k_is); (case gg => k_is); (case nb => k_is); (case a1 => k_is); (case t1 => k_is); (case l1 => k_is); (case c1 => k_is); (case k1 => k_is); (case kC => k_is); (case eC => k_is); (case tC => k_is); (case hC => k_is)))
      (case f4 => refine' DL.exM_mk ?a ?b ?c; (case a => k_is); (case b => k_is); (case c => refine' DL.exm_mk ?h1 ?h2 ?h3 ?h4; (case h1 => k_is); (case h2 => k_is); (case h3 => k_is); (case h4 => first | rfl | k_is)))
      (case f5 => refine' DL.exM_mk ?a ?b ?c; (case a => k_is); (case b => k_is); (case c => refine' DL.exm_mk ?h1 ?h2 ?h3 ?h4; (case h1 => k_is); (case h2 => k_is); (case h3 => k_is); (case h4 => first | rfl | k_is)))
      (case f6 => refine' DL.exM_mk ?a ?b ?c; (case a => k_is); (case b => k_is); (case c => refine' DL.exm_mk ?h1 ?h2 ?h3 ?h4; (case h1 => k_is); (case h2 => k_is); (case h3 => k_is); (case h4 => first | rfl | k_is)))
      (case f7 => refine' DL.defAt_mk ?a ?l ?c ?k; (case a => k_is); (case l => k_is); (case c => k_is); (case k => k_is))
      (case f8 => refine' DL.defAt_mk ?a ?l ?c ?k; (case a => k_is); (case l => k_is); (case c => k_is); (case k => k_is))
      (case f9 => refine' DL.defAt_mk ?a ?l ?c ?k; (case a => k_is); (case l => k_is); (case c => k_is); (case k => k_is))
      (case f10 => refine' DL.defAt_mk ?a ?l ?c ?k; (case a => k_is); (case l => k_is); (case c => k_is); (case k => k_is))
      (case f11 => refine' DL.defAt_mk ?a ?l ?c ?k; (case a => k_is); (case l => k_is); (case c => k_is); (case k => k_is))
      (case f12 => refine' DL.defAt_mk ?a ?l ?c ?k; (case a => k_is); (case l => k_is); (case c => k_is); (case k => k_is))
      (case f13 => refine' DL.defAt_mk ?a ?l ?c ?k; (case a => k_is); (case l => k_is); (case c => k_is); (case k => k_is))
      (case f14 => refine' DL.defAt_mk ?a ?l ?c ?k; (case a => k_is); (case l => k_is); (case c => k_is); (case k => k_is))
      (case f15 => refine' DL.defAt_mk ?a ?l ?c ?k; (case a => k_is); (case l => k_is); (case c => k_is); (case k => k_is))
      (case f16 => refine' DL.defAt_mk ?a ?l ?c ?k; (case a => k_is); (case l => k_is); (case c => k_is); (case k => k_is))
      (case f17 => refine' DL.defAt_mk ?a ?l ?c ?k; (case a => k_is); (case l => k_is); (case c => k_is); (case k => k_is))
      (case f18 => refine' DL.defAt_mk ?a ?l ?c ?k; (case a => k_is); (case l => k_is); (case c => k_is); (case k => k_is))
      (case f19 => refine' DL.defAt_mk ?a ?l ?c ?k; (case a => k_is); (case l => k_is); (case c => k_is); (case k => k_is))
      (case f20 => refine' DL.defAt_mk ?a ?l ?c ?k; (case a => k_is); (case l => k_is); (case c => k_is); (case k => k_is))
      (case f21 => refine' DL.defAt_mk ?a ?l ?c ?k; (case a => k_is); (case l => k_is); (case c => k_is); (case k => k_is))
      (case f22 => refine' DL.defAt_mk ?a ?l ?c ?k; (case a => k_is); (case l => k_is); (case c => k_is); (case k => k_is))
      (case f23 => refine' DL.defAt_mk ?a ?l ?c ?k; (case a => k_is); (case l => k_is); (case c => k_is); (case k => k_is))
      (case f24 => refine' DL.defAt_mk ?a ?l ?c ?k; (case a => k_is); (case l => k_is); (case c => k_is); (case k => k_is))
      (case f25 => refine' DL.defAt_mk ?a ?l ?c ?k; (case a => k_is); (case l => k_is); (case c => k_is); (case k => k_is))
      (case f26 => refine' DL.defAt_mk ?a ?l ?c ?k; (case a => k_is); (case l => k_is); (case c => k_is); (case k => k_is))
      (case f27 => refine' DL.defAt_mk ?a ?l ?c ?k; (case a => k_is); (case l => k_is); (case c => k_is); (case k => k_is))
      (case f28 => refine' DL.defAt_mk ?a ?l ?c ?k; (case a => k_is); (case l => k_is); (case c => k_is); (case k => k_is))
      (case f29 => refine' DL.defAt_mk ?a ?l ?c ?k; (case a => k_is); (case l => k_is); (case c => k_is); (case k => k_is))
      (case f30 => refine' DL.defAt_mk ?a ?l ?c ?k; (case a => k_is); (case l => k_is); (case c => k_is); (case k => k_is))
      (case f31 => refine' DL.defAt_mk ?a ?l ?c ?k; (case a => k_is); (case l => k_is); (case c => k_is); (case k => k_is))
      (case f32 => refine' DL.defAt_mk ?a ?l ?c ?k; (case a => k_is); (case l => k_is); (case c => k_is); (case k => k_is))
      (case f33 => refine' DL.defAt_mk ?a ?l ?c ?k; (case a => k_is); (case l => k_is); (case c => k_is); (case k => k_is))
      (case f34 => refine' DL.defAt_mk ?a ?l ?c ?k; (case a => k_is); (case l => k_is); (case c => k_is); (case k => k_is))
      (case f35 => refine' DL.defAt_mk ?a ?l ?c ?k; (case a => k_is); (case l => k_is); (case c => k_is); (case k => k_is))
      (case f36 => refine' DL.defAt_mk ?a ?l ?c ?k; (case a => k_is); (case l => k_is); (case c => k_is); (case k => k_is))
      (case f37 => refine' DL.defAt_mk ?a ?l ?c ?k; (case a => k_is); (case l => k_is); (case c => k_is); (case k => k_is))
      (case f38 => refine' DL.defAt_mk ?a ?l ?c ?k; (case a => k_is); (case l => k_is); (case c => k_is); (case k => k_is))
      (case f39 => refine' DL.defAt_mk ?a ?l ?c ?k; (case a => k_is); (case l => k_is); (case c => k_is); (case k => k_is))
      (case f40 => refine' DL.defAt_mk ?a ?l ?c ?k; (case a => k_is); (case l => k_is); (case c => k_is); (case k => k_is))
      (case f41 => refine' DL.defAt_mk ?a ?l ?c ?k; (case a => k_is); (case l => k_is); (case c => k_is); (case k => k_is))
      (case f42 => refine' DL.defAt_mk ?a ?l ?c ?k; (case a => k_is); (case l => k_is); (case c => k_is); (case k => k_is))
      (case f43 => refine' DL.defAt_mk ?a ?l ?c ?k; (case a => k_is); (case l => k_is); (case c => k_is); (case k => k_is))
      (case f44 => refine' DL.defAt_mk ?a ?l ?c ?k; (case a => k_is); (case l => k_is); (case c => k_is); (case k => k_is))
      (case f45 => refine' DL.defAt_mk ?a ?l ?c ?k; (case a => k_is); (case l => k_is); (case c => k_is); (case k => k_is))
      (case f46 => refine' DL.defAt_mk ?a ?l ?c ?k; (case a => k_is); (case l => k_is); (case c => k_is); (case k => k_is)))

