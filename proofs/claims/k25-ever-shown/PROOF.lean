import PyProof.Rows.All
import Wide.All
import OpenK.AllK
import Wide.FinOn
import HandS.ForMost
import HandS.TupAny
import HandS.TupMul
import HandS.Style
import HandS.ForExc
import KE.SortData
import KE.SortKeyHeap
import KE.DataMinMax
import KE.KDictKeyed
import HandS.Dict
import KE.KEqDict
import KE.KDictSum
import KE.KDictCopyH
import HandS.Wide
import HandS.IsInst
import KE.KDictPairs
import PyProof.Transfer
import HandS.EndBits
import HandS.Flow
import HandS.Conv
import KE.GoesEnum
import HandS.Walk
import HandS.Zip
import KE.GoesZip
import KE.GoesMore
import KE.KDictWalk
import HandS.Iter
import PyProof.DictTable
import HandS.Deep
import PySem.Challenge.RW_treadrise_k25_ever_shown
set_option Elab.async false
set_option linter.all false
set_option maxRecDepth 100000
set_option maxHeartbeats 4000000
/-! tuple * int for any small int; t[::-1]. -/
namespace Tr
open PySem PySem.Spec PyProof.Rows L2
theorem mul_same (l : Addr) (items : Array Value) (n : Nat) (dd : Option Addr) (sl : Array (Option Value)) (x : Int) (u : Tok) (c0 : (decide (x < -(2 ^ 63)) || decide (x ≥ 2 ^ 63)) = false) (c1 : (items.isEmpty || x == 1) = true) :
    Meets (Builtin.«tuple.__mul__» ⟨[.ref l, .int x u], []⟩) (fun _ R s => s.heap.get? l = some { cls := .type "tuple", dict := dd, data := .seq items n, slots := sl } ∧
      R (.ok (.ret (Value.ref l))) { s with heap := s.heap, toks := s.toks }) :=
  .of_wp fun prog w A R s h => by
    obtain ⟨hp, g, d, tk, os⟩ := s
    obtain ⟨hl, h⟩ := h
    have f1 := AutoSeq1.idx_int
    wp_walk using wpAny_loadPart' hl
    repeat (first
      | (refine wpAny_ite_false (decide_eq_false (by rw [c0]; exact Bool.false_ne_true)) ?_; wp_walk using wpAny_loadPart' hl)
      | (refine wpAny_ite_true (decide_eq_true c1) ?_; wp_walk using wpAny_loadPart' hl))
    exact ⟨_, rfl, h⟩
theorem mul_none (l : Addr) (items : Array Value) (n : Nat) (dd : Option Addr) (sl : Array (Option Value)) (x : Int) (u : Tok) (c0 : (decide (x < -(2 ^ 63)) || decide (x ≥ 2 ^ 63)) = false) (c1 : (items.isEmpty || x == 1) = false) (c2 : (decide (x ≤ 0) || items.isEmpty) = true) :
    Meets (Builtin.«tuple.__mul__» ⟨[.ref l, .int x u], []⟩) (fun _ R s => s.heap.get? l = some { cls := .type "tuple", dict := dd, data := .seq items n, slots := sl } ∧
      R (.ok (.ret (Value.ref s.heap.objs.size))) { s with heap := s.heap.push { cls := Value.type "tuple", data := Data.seq #[] }, toks := s.toks }) :=
  .of_wp fun prog w A R s h => by
    obtain ⟨hp, g, d, tk, os⟩ := s
    obtain ⟨hl, h⟩ := h
    have f1 := AutoSeq1.idx_int
    wp_walk using wpAny_loadPart' hl
    repeat (first
      | (refine wpAny_ite_false (decide_eq_false (by rw [c0]; exact Bool.false_ne_true)) ?_; wp_walk using wpAny_loadPart' hl)
      | (refine wpAny_ite_false (decide_eq_false (by rw [c1]; exact Bool.false_ne_true)) ?_; wp_walk using wpAny_loadPart' hl)
      | (refine wpAny_ite_true (decide_eq_true c2) ?_; wp_walk using wpAny_loadPart' hl))
    exact ⟨_, rfl, h⟩
def rRepA (K : PySem.W.Frag) : R2 := fun x y H Q => ∃ l k xs, x = .ref l ∧ y = .int k ∧ SqT K H l xs ∧ -1000 ≤ k ∧ k ≤ 1000 ∧ xs.length ≤ 1000 ∧ ((List.replicate k.toNat xs).flatten = xs → Q (.ref l) H) ∧ ∀ p, H p = none → Q (.ref p) (upd H p (.tup (List.replicate k.toNat xs).flatten))
section
variable {X : Cx}
theorem rep_nil {α : Type} : ∀ n : Nat, (List.replicate n ([] : List α)).flatten = [] := fun n => by induction n with
  | zero => rfl
  | succ n ih => rw [List.replicate_succ, List.flatten_cons, ih]; rfl
theorem op_repA : OpR X (binaryOp .Mult) (rRepA X.K) := by
  intro pins s σ H x y v u Q I rx ry h
  obtain ⟨l, k, xs, rfl, rfl, hT, h1, h2, hz, qs, qn⟩ := h
  by_cases hk : xs ≠ [] ∧ 2 ≤ k
  · exact op_repT pins s σ H _ _ v u Q I rx ry ⟨l, k, xs, rfl, rfl, hT, hk.1, hk.2, h2, hz, qn⟩
  · cases rx
    obtain ⟨t, rfl⟩ := ry
    obtain ⟨its, r, ⟨⟨cls, dd, data, sl⟩, ho, hc, n, hd⟩, hs⟩ := I.tuple hT
    simp only at hc hd
    subst hc hd
    have hle : its.length = xs.length := r.length.symm
    have c0 : (decide (k < -(2 ^ 63)) || decide (k ≥ 2 ^ 63)) = false := by
      rw [decide_eq_false (by omega), decide_eq_false (by omega)] <;> rfl
    by_cases hsame : its = [] ∨ k = 1
    · have c1 : (its.toArray.isEmpty || k == 1) = true := by
        rcases hsame with e | e
        · rw [e]; rfl
        · rw [e]; simp
      have ef : (List.replicate k.toNat xs).flatten = xs := by
        rcases hsame with e | e
        · rw [e] at hle
          have : xs = [] := List.eq_nil_of_length_eq_zero hle.symm
          rw [this, rep_nil]
        · rw [e]; simp
      refine wpAny_binaryOp_repeat_ref (T := "tuple") (U := "int") (by decide) ⟨_, ho, rfl⟩ (fun s' => typeIs_int s' k t) noFill_tuple_mul F.fills_int_mul F.slot_int_rmul repeat_tuple F.slot_int_index.lookup
        (call_meets F.slot_int_rmul (typeIs_int s k t) F.entry_int_rmul (F.args_int_rmul_2 _ _) (int_rmul_tuple k t l its.toArray n dd sl)
          ⟨ho, rfl, ⟨_, ho, rfl⟩, call_meets F.slot_tuple_mul ⟨_, ho, rfl⟩ F.entry_tuple_mul (F.args_tuple_mul_2 _ _) (mul_same l its.toArray n dd sl k t c0 c1) ⟨ho, ?_⟩⟩)
      exact ⟨.ref l, _, I, rfl, qs ef⟩
    · rw [not_or] at hsame
      have hi : its.toArray.isEmpty = false := by
        cases its with
        | nil => exact absurd rfl hsame.1
        | cons a b => rfl
      have hxs : xs ≠ [] := fun e => hsame.1 (by rw [e] at hle; exact List.eq_nil_of_length_eq_zero hle)
      have hk0 : k ≤ 0 := by
        have h3 := hsame.2
        have h4 : ¬ 2 ≤ k := fun z => hk ⟨hxs, z⟩
        omega
      have c1 : (its.toArray.isEmpty || k == 1) = false := by
        rw [hi, Bool.false_or]
        exact beq_eq_false_iff_ne.mpr (by omega)
      have c2 : (decide (k ≤ 0) || its.toArray.isEmpty) = true := by rw [decide_eq_true hk0]; rfl
      have e0 : k.toNat = 0 := by omega
      rw [e0] at qn
      refine wpAny_binaryOp_repeat_ref (T := "tuple") (U := "int") (by decide) ⟨_, ho, rfl⟩ (fun s' => typeIs_int s' k t) noFill_tuple_mul F.fills_int_mul F.slot_int_rmul repeat_tuple F.slot_int_index.lookup
        (call_meets F.slot_int_rmul (typeIs_int s k t) F.entry_int_rmul (F.args_int_rmul_2 _ _) (int_rmul_tuple k t l its.toArray n dd sl)
          ⟨ho, rfl, ⟨_, ho, rfl⟩, call_meets F.slot_tuple_mul ⟨_, ho, rfl⟩ F.entry_tuple_mul (F.args_tuple_mul_2 _ _) (mul_none l its.toArray n dd sl k t c0 c1 c2) ⟨ho, ?_⟩⟩)
      refine ⟨.ref s.heap.objs.size, _, I.laid (t' := s.toks) (o := .tup []) (fun b ob q => Heap.get?_push_of_some _ q) (Nat.le_refl _) ?_, rfl, qn _ (I.hok.fresh (Nat.le_refl _))⟩
      exact ⟨Nat.zero_le _, [], .nil, IsTup.new _ _⟩
end
/-! ### t[::-1] -/
theorem adjust_rev (n : Nat) : Builtin.Slice.sliceAdjust none none (-1) (n : Int) = ((n : Int) - 1, -1) := rfl
theorem places_rev (n : Nat) : Builtin.Slice.slicePlaces ((n : Int) - 1) (-1) (-1) = n := by
  unfold Builtin.Slice.slicePlaces
  have h1 : ¬ ((-1 : Int) > 0) := by omega
  rw [if_neg h1]
  have e1 : -(-1 : Int) = 1 := by omega
  rw [e1, Int.ediv_one]
  split <;> omega
section
variable {prog : Program} {w : World} {A : Around} {E : Value → Shared → Prop} {s : Shared}
theorem sliceApplied_rev {sl : Addr} {vs : Value} {n : Nat} {Q : Int × Int × Nat → Shared → Prop} (hs : s.heap.IsSliceOf sl .none .none vs) (ps : IsPart vs (some (-1)))
    (h : Q ((n : Int) - 1, -1, n) s) : wpAny (model prog w) A (Builtin.Slice.sliceApplied (.ref sl) (pure (n : Int))) Q E s := by
  obtain ⟨os, hos, hcs, hds⟩ := id hs
  unfold Builtin.Slice.sliceApplied Builtin.Slice.sliceFields
  refine wpAny_bind (wpAny_bind (wpAny_field hos hds (x := .none) rfl (wpAny_bind (wpAny_field hos hds (x := .none) rfl (wpAny_bind (wpAny_field hos hds (x := vs) rfl (wpAny_pure ?_)))))))
  refine wpAny_bind (HT.slicePart_ ps ?_)
  show wpAny _ _ (if ((-1 : Int) == 0) = true then _ else _) _ _ s
  rw [if_neg (by decide)]
  refine wpAny_bind (slicePart_none (wpAny_bind (slicePart_none (wpAny_bind (wpAny_pure ?_)))))
  show wpAny _ _ (match Builtin.Slice.sliceAdjust none none (-1) (n : Int) with | (lo, hi) => pure (lo, (-1 : Int), Builtin.Slice.slicePlaces lo hi (-1))) _ _ s
  rw [adjust_rev n]
  show wpAny _ _ (pure ((n : Int) - 1, (-1 : Int), Builtin.Slice.slicePlaces ((n : Int) - 1) (-1) (-1))) _ _ s
  rw [places_rev]
  exact wpAny_pure h
theorem pick_rev (xs : Array Value) : ((List.range xs.size).filterMap fun (m : Nat) => xs[((xs.size : Int) - 1 + (m : Int) * (-1)).toNat]?).toArray = xs.toList.reverse.toArray := by
  congr 1
  have e : ((List.range xs.size).filterMap fun (m : Nat) => xs[((xs.size : Int) - 1 + (m : Int) * (-1)).toNat]?) = ((List.range xs.size).map fun (k : Nat) => xs.size - 1 - k).filterMap (xs[·]?) := by
    rw [List.filterMap_map]
    have cong : ∀ (l : List Nat), (∀ m ∈ l, m < xs.size) → l.filterMap (fun (m : Nat) => xs[((xs.size : Int) - 1 + (m : Int) * (-1)).toNat]?) = l.filterMap ((xs[·]?) ∘ fun k => xs.size - 1 - k) := by
      intro l
      induction l with
      | nil => intro _; rfl
      | cons m l ih =>
        intro hl
        have hm := hl m List.mem_cons_self
        have e1 : ((xs.size : Int) - 1 + (m : Int) * (-1)).toNat = xs.size - 1 - m := by omega
        rw [List.filterMap_cons, List.filterMap_cons, ih fun x hx => hl x (List.mem_cons_of_mem _ hx)]
        simp only [Function.comp, e1]
    exact cong _ fun m hm => List.mem_range.mp hm
  rw [e, PySem.W.krv_range, List.filterMap_reverse, PySem.W.krv_all]
theorem getItem_tuple_rev {t sl : Addr} {items : Array Value} {vs : Value} {Q : Value → Shared → Prop} (ht : IsTup s.heap t items) (hs : s.heap.IsSliceOf sl .none .none vs) (ps : IsPart vs (some (-1)))
    (h : Q (.ref s.heap.objs.size) { s with heap := s.heap.push { cls := .type "tuple", data := .seq items.toList.reverse.toArray } })
    (hsz : items.size ≤ sizeLine) : wpAny (model prog w) A (getItem (.ref t) (.ref sl)) Q E s := by
  have htake : sizeOk (.seq items.toList.reverse.toArray) := by
    show items.toList.reverse.toArray.size ≤ sizeLine
    rw [List.size_toArray, List.length_reverse, Array.length_toList]
    exact hsz
  obtain ⟨os, hos, hcs, hds⟩ := id hs
  have hTs : s.TypeIs (.ref sl) "slice" := ⟨os, hos, hcs⟩
  unfold getItem
  try with_reducible refine wpAny_holding ?_
  first | refine wpAny_bind (wpAny_pure ?_) | skip
  refine wpAny_bind (wpAny_sequenceKey ht.typeIs (by decide) ?_)
  refine wpAny_bind (wpAny_callSpecial?_slot (name := Str.ofString "__getitem__") ht.typeIs PyProof.Rows.slot_tuple_getitem
    (wpAny_call_entry PyProof.Rows.slot_tuple_getitem ht.typeIs entry_tuple_getitem ?_ (args_tuple_getitem _ _)))
  show wpAny _ _ (Builtin.Tuple.tupleItemsOf (.ref t) >>= _) _ _ s
  refine wpAny_bind (tupleItemsOf_ ht ?_)
  refine wpAny_bind (wpAny_typeOf hTs ?_)
  rw [if_pos (by decide)]
  refine wpAny_bind (sliceApplied_rev hs ps ?_)
  have hno : ¬ ((((items.size : Nat) : Int) - 1 == 0 && (-1 : Int) == 1 && items.size == items.size) = true) := by
    intro q
    rw [Bool.and_eq_true, Bool.and_eq_true] at q
    exact absurd q.1.2 (by decide)
  show wpAny _ _ (if (((items.size : Nat) : Int) - 1 == 0 && (-1 : Int) == 1 && items.size == items.size) = true then _ else _) _ _ s
  rw [if_neg hno, pick_rev]
  first
    | exact wpAny_bind (m := Builtin.Tuple.tupleExact _) (wpAny_newObj_type (wpAny_pure ⟨_, rfl, wpAny_pure h⟩) htake)
    | exact wpAny_bind (m := Builtin.Tuple.tupleExact _) (wpAny_newObj_type (wpAny_bind (wpAny_pure (wpAny_pure ⟨_, rfl, wpAny_pure h⟩))) htake)
    | exact wpAny_bind (wpAny_bind (m := Builtin.Tuple.tupleExact _) (wpAny_newObj_type (wpAny_pure (wpAny_pure ⟨_, rfl, wpAny_pure h⟩)) htake))
    | exact wpAny_bind (wpAny_bind (m := Builtin.Tuple.tupleExact _) (wpAny_newObj_type (wpAny_pure ⟨_, rfl, wpAny_pure h⟩) htake))
end
/-- what x[::-1] is, by values: a list's is a new list, a tuple's a new tuple -/
def rRev (K : PySem.W.Frag) : V → Hp → VK → Prop := fun x H Q => ∃ a xs, x = .ref a ∧ ((SqL K H a xs ∧ ∀ p, H p = none → Q (.ref p) (upd H p (.lst xs.reverse))) ∨ (SqT K H a xs ∧ ∀ p, H p = none → Q (.ref p) (upd H p (.tup xs.reverse))))
theorem pe_revA {X : Cx} {e : Expr} {te : TE} {k : Nat} {p1 p2 p3 pos : Pos} {r : V → Hp → VK → Prop} (hr : ∀ (pins : List (Addr × Obj)) (s : Shared) (σ : L2.St) (H : Hp) (x : V) (Q : VK), Inv X pins σ H s → r x H Q → rRev X.K x H Q) (he : PE X e te) : PE X (.Subscript e (.Slice none none (some (.UnaryOp .USub (.Constant (.int 1) k p1) p2)) p3) pos) (fun σ H Q => te σ H fun x H1 => r x H1 Q) := by
  refine ⟨fun pins s σ H Q I h => ?_⟩
  refine Subscript_ (thn (he.run pins s σ H _ I h) fun v s1 ⟨x, H1, I1, r1, q1⟩ => ?_)
  obtain ⟨a, xs, ex, q⟩ := hr pins s1 σ H1 x Q I1 q1
  subst ex
  cases r1
  have hst : PO X (some (.UnaryOp .USub (.Constant (.int 1) k p1) p2)) (tPart (tUn (rU fun i => .int (-i)) (tC (.int 1)))) := po_some (pe_un un_neg pe_int)
  refine wpAny_Slice (thn (po_none.run pins s1 σ H1 (fun o H2 => o = none ∧ H2 = H1) I1 ⟨rfl, rfl⟩) fun vl s2 ⟨l, H2, I2, pl, el, e2⟩ => ?_)
  subst el e2
  refine thn (po_none.run pins s2 σ H2 (fun o H3 => o = none ∧ H3 = H2) I2 ⟨rfl, rfl⟩) fun vu s3 ⟨u, H3, I3, pu, eu, e3⟩ => ?_
  subst eu e3
  refine thn (hst.run pins s3 σ H3 (fun o H4 => o = some (-1) ∧ H4 = H3) I3 ⟨1, rfl, -1, rfl, rfl, rfl⟩) fun vs s4 ⟨o, H4, I4, ps, eo, e4⟩ => ?_
  subst eo e4
  have I5 : Inv X pins σ H4 { s4 with heap := s4.heap.push { cls := .type "slice", data := .fields #[vl, vu, vs] } } := I4.kept (t' := s4.toks) fun b ob q => Heap.get?_push_of_some _ q
  show wpAny (model X.prog X.w) X.A (subscriptTail e (.Slice none none (some (.UnaryOp .USub (.Constant (.int 1) k p1) p2)) p3) (.ref a) (.ref s4.heap.objs.size)) (EP X pins σ Q) X.xe { s4 with heap := s4.heap.push { cls := .type "slice", data := .fields #[vl, vu, vs] } }
  rcases q with ⟨hx, q⟩ | ⟨hx, q⟩
  · obtain ⟨its, r, ht, hz⟩ := I5.list hx
    have hlen := r.length
    refine tail_any (ops := [.ref a, .ref s4.heap.objs.size]) ht.isList.typeIs (PySem.slot_list_getitem.lookup) ?_ (by with_unfolding_all rfl)
    refine wpAny_getItem_list_slice ht.isList (Heap.IsSliceOf.new _ vl vu vs) pl pu ps (by decide) ?_ (by rw [List.size_toArray]; omega)
    rw [PySem.W.krv_pick]
    refine ⟨.ref _, _, I5.laid (t' := s4.toks) (o := .lst xs.reverse) (fun b ob q => Heap.get?_push_of_some _ q) (Nat.le_refl _) ?_, rfl, q _ (I5.hok.fresh (Nat.le_refl _))⟩
    exact ⟨by rw [List.length_reverse]; exact hz, _, 0, r.reverse, Heap.get?_push_size _ rfl⟩
  · obtain ⟨its, r, ht, hz⟩ := I5.tuple hx
    have hlen := r.length
    cases pl
    cases pu
    refine tail_any (ops := [.ref a, .ref s4.heap.objs.size]) ht.typeIs PyProof.Rows.slot_tuple_getitem.lookup ?_ (by with_unfolding_all rfl)
    refine getItem_tuple_rev ht (Heap.IsSliceOf.new _ .none .none vs) ps ?_ (by rw [List.size_toArray]; omega)
    refine ⟨.ref _, _, I5.laid (t' := s4.toks) (o := .tup xs.reverse) (fun b ob q => Heap.get?_push_of_some _ q) (Nat.le_refl _) ?_, rfl, q _ (I5.hok.fresh (Nat.le_refl _))⟩
    exact ⟨by rw [List.length_reverse]; exact hz, _, r.reverse, IsTup.new _ _⟩
end Tr

set_option Elab.async false
set_option linter.all false
/-! Dicts by data: keys are whole numbers or tuples of such, nested. -/
namespace Tr
open PySem
abbrev D := PySem.PyData
mutual
/-- a key, as the library's nested keys say it -/
def nk : D → NestedKey
  | .int i => .num i
  | .tuple ds => .tup (nks ds)
  | _ => .none
def nks : List D → List NestedKey
  | [] => []
  | d :: ds => nk d :: nks ds
end
mutual
/-- whole numbers and tuples of such alone -/
def pk : D → Bool
  | .int _ => true
  | .tuple ds => pks ds
  | _ => false
def pks : List D → Bool
  | [] => true
  | d :: ds => pk d && pks ds
end
def isTupD : D → Bool
  | .tuple _ => true
  | _ => false
def tkey (d : D) : Bool := isTupD d && pk d && decide ((nk d).depth ≤ 8)
def ikey : D → Bool
  | .int _ => true
  | _ => false
/-- the key goes with those that stand there -/
def kfit (kvs : List (D × D)) (k : D) : Bool := (tkey k && kvs.all fun p => tkey p.1) || (ikey k && kvs.all fun p => ikey p.1)
mutual
/-- hash(k) of such a key -/
def hashK : NestedKey → Int
  | .num i => hashInt i
  | .tup ks => reduceHash (Builtin.Tuple.tupleHashOf (hashKs ks))
  | _ => 0
def hashKs : List NestedKey → List Int
  | [] => []
  | k :: ks => hashK k :: hashKs ks
end
mutual
theorem hash_nk (w : World) : ∀ d : D, pk d = true → (nk d).hash w = hashK (nk d)
  | .int i, _ => by simp only [nk, NestedKey.hash, hashK]
  | .tuple ds, h => by
    simp only [pk] at h
    simp only [nk, NestedKey.hash, hashK, hash_nks w ds h]
  | .none, h => by simp [pk] at h
  | .bool _, h => by simp [pk] at h
  | .str _, h => by simp [pk] at h
  | .list _, h => by simp [pk] at h
  | .dict _, h => by simp [pk] at h
theorem hash_nks (w : World) : ∀ ds : List D, pks ds = true → NestedKey.hashes w (nks ds) = hashKs (nks ds)
  | [], _ => by simp only [nks, NestedKey.hashes, hashKs]
  | d :: ds, h => by
    simp only [pks, Bool.and_eq_true] at h
    simp only [nks, NestedKey.hashes, hashKs, hash_nk w d h.1, hash_nks w ds h.2]
end
mutual
theorem nk_inj : ∀ a b : D, pk a = true → pk b = true → nk a = nk b → a = b
  | .int i, b, _, hb, e => by
    cases b <;> simp [pk] at hb <;> simp [nk] at e
    rw [e]
  | .tuple ds, b, ha, hb, e => by
    cases b <;> simp [pk] at hb <;> simp [nk] at e
    simp only [pk] at ha
    rw [nks_inj ds _ ha hb e]
  | .none, _, h, _, _ => by simp [pk] at h
  | .bool _, _, h, _, _ => by simp [pk] at h
  | .str _, _, h, _, _ => by simp [pk] at h
  | .list _, _, h, _, _ => by simp [pk] at h
  | .dict _, _, h, _, _ => by simp [pk] at h
theorem nks_inj : ∀ as bs : List D, pks as = true → pks bs = true → nks as = nks bs → as = bs
  | [], [], _, _, _ => rfl
  | [], _ :: _, _, _, e => by simp [nks] at e
  | _ :: _, [], _, _, e => by simp [nks] at e
  | a :: as, b :: bs, ha, hb, e => by
    simp only [pks, Bool.and_eq_true] at ha hb
    simp only [nks, List.cons.injEq] at e
    rw [nk_inj a b ha.1 hb.1 e.1, nks_inj as bs ha.2 hb.2 e.2]
end
theorem tkey_pk {d : D} (h : tkey d = true) : ∃ ds, d = .tuple ds ∧ pk d = true ∧ (nk d).depth ≤ 8 := by
  unfold tkey at h
  simp only [Bool.and_eq_true, decide_eq_true_eq] at h
  cases d <;> simp [isTupD] at h
  exact ⟨_, rfl, h.1, h.2⟩
theorem ikey_is {d : D} (h : ikey d = true) : ∃ i, d = .int i := by
  cases d <;> simp [ikey] at h
  exact ⟨_, rfl⟩
/-- what stands at a key -/
def dget (kvs : List (D × D)) (k : D) : Option D := (kvs.find? fun p => decide (nk p.1 = nk k)).map (·.2)
def dput (kvs : List (D × D)) (k v : D) : List (D × D) :=
  if kvs.any fun p => decide (nk p.1 = nk k) then kvs.map fun p => if nk p.1 = nk k then (p.1, v) else p else kvs ++ [(k, v)]
def dmerge (kvs more : List (D × D)) : List (D × D) := more.foldl (fun acc p => dput acc p.1 p.2) kvs
theorem dput_len (kvs : List (D × D)) (k v : D) : (dput kvs k v).length ≤ kvs.length + 1 := by
  unfold dput
  split
  · rw [List.length_map]; omega
  · rw [List.length_append]; simp
theorem dput_keys (kvs : List (D × D)) (k v : D) : (dput kvs k v).map (fun p => nk p.1) = if kvs.any (fun p => decide (nk p.1 = nk k)) then kvs.map (fun p => nk p.1) else kvs.map (fun p => nk p.1) ++ [nk k] := by
  unfold dput
  split
  · rw [List.map_map]
    refine List.map_congr_left fun p _ => ?_
    show nk (if nk p.1 = nk k then (p.1, v) else p).1 = nk p.1
    split <;> rfl
  · rw [List.map_append]; rfl
theorem dput_nodup {kvs : List (D × D)} {k v : D} (h : (kvs.map fun p => nk p.1).Nodup) : ((dput kvs k v).map fun p => nk p.1).Nodup := by
  rw [dput_keys]
  split
  · exact h
  · rename_i c
    refine List.nodup_append.mpr ⟨h, by simp, fun a ha b hb e => ?_⟩
    simp only [List.mem_singleton] at hb
    subst hb
    obtain ⟨p, hp, ep⟩ := List.mem_map.mp ha
    exact c (List.any_eq_true.mpr ⟨p, hp, by simp [ep, e]⟩)
end Tr

set_option Elab.async false
set_option linter.all false
/-! A small language (IR), its interpreter over PyData. Lists and dicts that a frame owns live in its slots. -/
namespace Tr
open PySem


/-- a value: frozen data; a list, a dict that is owned by whoever holds it; an owned list of owned lists; the script (read alone); pins: ghosts of proofs, a standing list, tuple by its exact items -/
inductive Vl where
  | fz (d : D)
  | ol (ds : List D)
  | od (kvs : List (D × D))
  | oo (xss : List (List D))
  | scr (ns : List Int)
  | pinL (xs : List L2.V)
  | pinT (xs : List L2.V)
  | pinD (o : Obj) (kvs : List (D × D)) (ks vs : List L2.V)

def Vl.strip : Vl → D
  | .fz d => d
  | .ol ds => .list ds
  | .od kvs => .dict kvs
  | .oo xss => .list (xss.map .list)
  | _ => .none
/-- what may be looked at: not a list of owned lists -/
def Vl.flat : Vl → Option D
  | .fz d => some d
  | .ol ds => some (.list ds)
  | .od kvs => some (.dict kvs)
  | .scr ns => some (.list (ns.map .int))
  | _ => none
/-- .. for what makes a new list out of it -/
def Vl.flatM : Vl → Option D
  | .scr _ => none
  | x => x.flat
def Vl.isFz : Vl → Bool
  | .fz _ => true
  | .scr _ => true
  | _ => false

/-- data, or a list, a dict of one's own -/
def Vl.own : Vl → Bool
  | .fz _ => true
  | .ol _ => true
  | .od _ => true
  | .oo _ => true
  | _ => false
abbrev Fm := List (Option Vl)
abbrev R (α : Type) := Option (α × Fm)
/-- an operand that waits: a slot (looked at when all operands are there), a value -/
inductive Pd where
  | sl (i : Nat)
  | st (x : Vl)

inductive Bop where
  | add | sub | mul | fdiv | mod | pow
  deriving DecidableEq
inductive Cop where
  | eq | ne | lt | le | gt | ge | isin | notin
  deriving DecidableEq
/-- what isinstance asks for -/
inductive Ty where
  | int | bool | tuple | str
  deriving DecidableEq
inductive Bi where
  | len | abs | max | min | sum | int | str | repr | list | tuple | sorted | all | dict
  | isinst (t : Ty)
  | lrange
  | divmod
  deriving DecidableEq
/-- methods that look alone -/
inductive Mt where
  | get1 | get2 | index | count
  deriving DecidableEq
inductive Tg where
  | n (i : Nat)
  | t (ts : List Tg)

mutual
inductive E where
  | con (d : D)
  | var (i : Nat)
  | glb (d : D)
  | tup (es : List E)
  | lst (es : List E)
  | dct (kvs : List E)
  | bin (op : Bop) (a b : E)
  | neg (a : E)
  | not (a : E)
  | cmp (op : Cop) (a b : E)
  | chn (op1 op2 : Cop) (a b c : E)
  | isc (a : E) (c : D) (no : Bool)
  | and (a b : E)
  | or (a b : E)
  | ite (c a b : E)
  | idx (a i : E)
  | idx2 (s : Nat) (i : E) (j : Nat)
  | slc (a : E) (lo hi : Option E) (back : Bool)
  | call (f : Nat) (args : List E)
  | bi (b : Bi) (os : List E)
  | mth (m : Mt) (a : E) (os : List E)
  | pop (s : Nat)
  | comp (elt : E) (tg : Tg) (it : It) (cond : Option E) (ws : List Nat) (own : Bool)
  | comp2 (elt : E) (tg : Tg) (it : It) (cond : Option E) (tg1 : Tg) (it1 : It) (cond1 : Option E) (ws ws1 : List Nat)
  | callk (f : Nat) (args : List E) (perm : List Nat)
inductive It where
  | li (e : E)
  | rg1 (a : E)
  | rg2 (a b : E)
  | en (e : E)
  | zp (a b : E)
  | im (e : E)
end
inductive S where
  | asg (tg : Tg) (e : E)
  | par (is : List Nat) (es : List E)
  | sidx (s : Nat) (i v : E)
  | sidx2 (s : Nat) (i : E) (j : Nat) (v : E)
  | exp (e : E)
  | app (s : Nat) (e : E)
  | ext (s : Nat) (e : E)
  | upd (s : Nat) (e : E)
  | sdf (s : Nat) (i v : E)
  | ret (e : E)
  | retv (s : Nat)
  | retN
  | iff (c : E) (a b : List S)
  | for (tg : Tg) (it : It) (body : List S)
  | whl (c : E) (body : List S)
  | nop
  | stop
structure Fn where
  np : Nat
  ns : Nat
  body : List S

/-! ### operations on data -/
def okSz (n : Nat) : Bool := decide (n ≤ 16777216)
def truD : D → Bool
  | .none => false
  | .bool b => b
  | .int i => i != 0
  | .str x => x.length != 0
  | .list xs => !xs.isEmpty
  | .tuple xs => !xs.isEmpty
  | .dict kvs => !kvs.isEmpty
def okTru : D → Bool
  | .str x => okSz x.length
  | .dict _ => false
  | _ => true
def repD (k : Int) (xs : List D) : List D := (List.replicate k.toNat xs).flatten
def binD : Bop → D → D → Option Vl
  | .add, .int a, .int b => some (.fz (.int (a + b)))
  | .add, .str a, .str b => if okSz (a.length + b.length) then some (.fz (.str (a ++ b))) else none
  | .add, .tuple a, .tuple b => if okSz (a.length + b.length) then some (.fz (.tuple (a ++ b))) else none
  | .add, .list a, .list b => if okSz (a.length + b.length) then some (.ol (a ++ b)) else none
  | .sub, .int a, .int b => some (.fz (.int (a - b)))
  | .mul, .int a, .int b => if decide (a.natAbs < 18446744073709551616) || decide (b.natAbs < 18446744073709551616) || decide (a.natAbs.log2 + b.natAbs.log2 < 1000000) then some (.fz (.int (a * b))) else none
  | .mul, .tuple a, .int k => if decide (-1000 ≤ k) && decide (k ≤ 1000) && decide (a.length ≤ 1000) then some (.fz (.tuple (repD k a))) else none
  | .mul, .list a, .int k => if decide (k ≤ 1000) && decide (-1000 ≤ k) && decide (a.length ≤ 1000) then some (.ol (repD k a)) else none
  | .fdiv, .int a, .int b => if decide (0 < b) && decide (b < 1073741824) then some (.fz (.int (a / b))) else none
  | .mod, .int a, .int b => if decide (0 < b) then some (.fz (.int (a % b))) else none
  | .pow, .int a, .int b => if decide (0 ≤ b) && decide (b ≤ 1000000) && decide (a.natAbs < 18446744073709551616) then some (.fz (.int (a ^ b.toNat))) else none
  | _, _, _ => none
def okEq (a b : D) : Bool := SeqAt.shaped a && SeqAt.shaped b
def inD (x : D) (xs : List D) : Bool := xs.any fun y => PyData.eqv y x
def cmpD : Cop → D → D → Option Bool
  | .eq, .str a, .str b => some (decide (a = b))
  | .ne, .str a, .str b => some (!decide (a = b))
  | .eq, .dict kvs, .dict [] => some (decide (kvs.length = 0))
  | .ne, .dict kvs, .dict [] => some (!decide (kvs.length = 0))
  | .eq, a, b => if okEq a b then some (PyData.eqv a b) else none
  | .ne, a, b => if okEq a b then some (!PyData.eqv a b) else none
  | .lt, .int a, .int b => some (decide (a < b))
  | .le, .int a, .int b => some (decide (a ≤ b))
  | .gt, .int a, .int b => some (decide (b < a))
  | .ge, .int a, .int b => some (decide (b ≤ a))
  | .isin, a, .dict kvs => if kfit kvs a then some (dget kvs a).isSome else none
  | .notin, a, .dict kvs => if kfit kvs a then some (!(dget kvs a).isSome) else none
  | .isin, a, .tuple xs => if SeqAt.shaped a && xs.all SeqAt.shaped then some (inD a xs) else none
  | .isin, a, .list xs => if SeqAt.shaped a && xs.all SeqAt.shaped then some (inD a xs) else none
  | .notin, a, .tuple xs => if SeqAt.shaped a && xs.all SeqAt.shaped then some (!inD a xs) else none
  | .notin, a, .list xs => if SeqAt.shaped a && xs.all SeqAt.shaped then some (!inD a xs) else none
  | _, _, _ => none
/-- the place in a sequence of n -/
def placeD (n : Nat) (i : Int) : Option Nat := L2.ixN n i
def idxD : D → D → Option D
  | .list xs, .int i => (placeD xs.length i).bind fun j => xs[j]?
  | .tuple xs, .int i => (placeD xs.length i).bind fun j => xs[j]?
  | .dict kvs, k => if kfit kvs k then dget kvs k else none
  | .str z, .int i => if okSz z.length then (placeD z.length i).bind fun j => z.cps.toList[j]?.map fun c => .str ⟨#[c]⟩ else none
  | _, _ => none
def cutL {α : Type} (xs : List α) (lo hi : Option Int) : List α := (xs.drop (HT.sIx xs.length 0 lo)).take (HT.sIx xs.length xs.length hi - HT.sIx xs.length 0 lo)
def slcD (back : Bool) (lo hi : Option Int) : D → Option Vl
  | .tuple xs => if back then (if lo.isNone && hi.isNone then some (.fz (.tuple xs.reverse)) else none) else some (.fz (.tuple (cutL xs lo hi)))
  | .list xs => if back then (if lo.isNone && hi.isNone then some (.ol xs.reverse) else none) else some (.ol (cutL xs lo hi))
  | .str z => if back then none else if okSz z.length then some (.fz (.str ⟨(cutL z.cps.toList lo hi).toArray⟩)) else none
  | _ => none
def intsD : List D → Option (List Int)
  | [] => some []
  | .int i :: r => (intsD r).map (i :: ·)
  | _ => none
def boolsD : List D → Option (List Bool)
  | [] => some []
  | .bool i :: r => (boolsD r).map (i :: ·)
  | _ => none
def seqD : D → Option (List D)
  | .list xs => some xs
  | .tuple xs => some xs
  | _ => none
def isTy : Ty → D → Bool
  | .int, .int _ => true
  | .int, .bool _ => true
  | .bool, .bool _ => true
  | .tuple, .tuple _ => true
  | .str, .str _ => true
  | _, _ => false
mutual
/-- no list in it, no dict but {} -/
def nlD : D → Bool
  | .list _ => false
  | .tuple ds => nlDs ds
  | .dict kvs => kvs.isEmpty
  | _ => true
def nlDs : List D → Bool
  | [] => true
  | d :: ds => nlD d && nlDs ds
end
def okShow (d : D) : Bool := d.showable && decide (d.shown.length ≤ 16777216) && (!d.hasDict || nlD d) && decide (d.depth ≤ 64)
def allAlikeB (xs : List D) : Bool := xs.all fun x => xs.all fun y => PySem.W.alike x y
def isTup1 : D → Bool
  | .tuple (_ :: _) => true
  | _ => false
def noTup : D → Bool
  | .none => false
  | .tuple _ => false
  | _ => true
def okSort (xs : List D) : Bool := allAlikeB xs && (xs.all isTup1 || xs.all noTup) && okSz xs.length && xs.all fun d => decide (d.depth ≤ 64)
def okMin (xs : List D) : Bool := allAlikeB xs && xs.all (fun x => match x with
  | .none => false
  | _ => true) && decide (PyData.depthAll xs ≤ 64)
def sortD (xs : List D) : List D := xs.mergeSort (PySem.W.dataLe false id)
/-- pairs whose first parts are numbers -/
def dpD : List D → Option (List (D × D))
  | [] => some []
  | .tuple [.int i, d] :: ds => (dpD ds).map fun r => (.int i, d) :: r
  | _ => none
def biD : Bi → List D → Option Vl
  | .len, [d] => (match d with
    | .str x => if okSz x.length then some (.fz (.int x.length)) else none
    | .list xs => some (.fz (.int xs.length))
    | .tuple xs => some (.fz (.int xs.length))
    | .dict kvs => if okSz kvs.length then some (.fz (.int kvs.length)) else none
    | _ => none)
  | .abs, [.int i] => some (.fz (.int (if i < 0 then -i else i)))
  | .max, [.int i, .int j] => some (.fz (.int (if j > i then j else i)))
  | .min, [.int i, .int j] => some (.fz (.int (if j < i then j else i)))
  | .max, [.tuple a, .tuple b] => if okMin [.tuple a, .tuple b] then some (.fz (PySem.W.maxD (.tuple a) [.tuple b])) else none
  | .min, [.tuple a, .tuple b] => if okMin [.tuple a, .tuple b] then some (.fz (PySem.W.minD (.tuple a) [.tuple b])) else none
  | .max, [d] => (seqD d).bind fun xs => if okMin xs then (match xs with
    | x :: r => some (.fz (PySem.W.maxD x r))
    | [] => none) else none
  | .min, [d] => (seqD d).bind fun xs => if okMin xs then (match xs with
    | x :: r => some (.fz (PySem.W.minD x r))
    | [] => none) else none
  | .sum, [.list xs] => (intsD xs).map fun ns => .fz (.int ns.sum)
  | .sum, [.tuple xs] => (intsD xs).map fun ns => .fz (.int ns.sum)
  | .int, [.int i] => some (.fz (.int i))
  | .int, [.bool b] => some (.fz (.int (if b then 1 else 0)))
  | .str, [.int i] => if decide (i.natAbs.log2 < 1920) then some (.fz (.str (toString i))) else none
  | .repr, [d] => if okShow d then some (.fz (.str d.shown)) else none
  | .list, [.dict kvs] => if okSz kvs.length then some (.ol (kvs.map (·.1))) else none
  | .list, [d] => (seqD d).map fun xs => .ol xs
  | .tuple, [d] => (seqD d).map fun xs => .fz (.tuple xs)
  | .sorted, [.list xs] => if okSort xs then some (.ol (sortD xs)) else none
  | .sorted, [.dict kvs] => if okSort (kvs.map (·.1)) then some (.ol (sortD (kvs.map (·.1)))) else none
  | .all, [.list xs] => (boolsD xs).map fun bs => .fz (.bool (bs.all id))
  | .dict, [.list ds] => (dpD ds).bind fun kvs => if decide ((kvs.map fun p => nk p.1).Nodup) && okSz kvs.length then some (.od kvs) else none
  | .divmod, [.int a, .int b] => if decide (0 < b) && decide (b < 1073741824) then some (.fz (.tuple [.int (a / b), .int (a % b)])) else none
  | .isinst t, [d] => some (.fz (.bool (isTy t d)))
  | .lrange, [.int m, .int n] => if decide (0 ≤ m) && decide (m ≤ 16777216) && decide (0 ≤ n) && decide (n ≤ 16777216) then some (.ol ((List.range (n - m).toNat).map fun (i : Nat) => .int (m + (i : Int)))) else none
  | .lrange, [.int n] => if decide (n ≤ 1000) && decide (-1000 ≤ n) then some (.ol ((List.range n.toNat).map fun (i : Nat) => .int (i : Int))) else none
  | _, _ => none

/-! ### frames -/
def setAt (i : Nat) (x : Vl) (fr : Fm) : Fm := fr.set i (some x)
/-- whose method it is -/
def mtOk : Mt → D → Bool
  | .get1, .dict _ => true
  | .get2, .dict _ => true
  | .count, .list _ => true
  | .index, .list _ => true
  | _, _ => false
/-- no list, no dict -/
def noLD : D → Bool
  | .list _ => false
  | .dict _ => false
  | _ => true
def mthD : Mt → List D → Option D
  | .get1, [.dict kvs, k] => if kfit kvs k then some ((dget kvs k).getD .none) else none
  | .get2, [.dict kvs, k, x] => if kfit kvs k && noLD x then some ((dget kvs k).getD x) else none
  | .count, [.list ds, e] => if SeqAt.shaped e && ds.all SeqAt.shaped then some (.int ((ds.countP fun y => PyData.eqv y e : Nat) : Int)) else none
  | _, _ => none
def look (fr : Fm) : Pd → Option D
  | .sl i => match fr[i]? with
    | some (some x) => x.flat
    | _ => none
  | .st x => x.flat
def lookM (fr : Fm) : Pd → Option D
  | .sl i => match fr[i]? with
    | some (some x) => x.flatM
    | _ => none
  | .st x => x.flatM
def looks (fr : Fm) : List Pd → Option (List D)
  | [] => some []
  | p :: ps => (look fr p).bind fun d => (looks fr ps).map (d :: ·)
/-- an operand becomes a value that is handed on: what a slot owns is frozen by it -/
def force : Pd → Fm → R Vl
  | .sl i, fr => match fr[i]? with
    | some (some (.fz d)) => some (.fz d, fr)
    | some (some (.ol ds)) => some (.fz (.list ds), fr.set i (some (.fz (.list ds))))
    | some (some (.od kvs)) => some (.fz (.dict kvs), fr.set i (some (.fz (.dict kvs))))
    | some (some (.oo xss)) => some (.fz (.list (xss.map .list)), fr.set i (some (.fz (.list (xss.map .list)))))
    | _ => none
  | .st x, fr => if x.own then some (x, fr) else none
/-- arguments: what a slot owns is lent -/
def lend : List Pd → Fm → Option (List Vl × Fm)
  | [], fr => some ([], fr)
  | .st x :: ps, fr => (lend ps fr).map fun r => (x :: r.1, r.2)
  | .sl i :: ps, fr => match fr[i]? with
    | some (some (.fz d)) => (lend ps fr).map fun r => (.fz d :: r.1, r.2)
    | some (some (.scr ns)) => (lend ps fr).map fun r => (.scr ns :: r.1, r.2)
    | some (some x) => (lend ps (fr.set i none)).map fun r => (x :: r.1, r.2)
    | _ => none
def give : List Pd → List Vl → Fm → Fm
  | .sl i :: ps, x :: xs, fr => give ps xs (match fr[i]? with
    | some none => fr.set i (some x)
    | _ => fr)
  | .st _ :: ps, _ :: xs, fr => give ps xs fr
  | _, _, fr => fr
def froz : List Vl → List D := List.map Vl.strip
def noOo : Vl → Bool
  | .fz _ => true
  | .ol _ => true
  | .od _ => true
  | _ => false
mutual
def putTg (lk : List Nat) : Tg → Vl → Fm → Option Fm
  | .n i, x, fr => if lk.contains i || decide (fr.length ≤ i) then none else some (fr.set i (some x))
  | .t ts, .fz (.tuple ds), fr => putTgs lk ts ds fr
  | .t _, _, _ => none
def putTgs (lk : List Nat) : List Tg → List D → Fm → Option Fm
  | [], [], fr => some fr
  | t :: ts, d :: ds, fr => (putTg lk t (.fz d) fr).bind fun fr1 => putTgs lk ts ds fr1
  | _, _, _ => none
end
def putTgsV (lk : List Nat) : List Nat → List Vl → Fm → Option Fm
  | [], [], fr => some fr
  | i :: is, x :: xs, fr => (putTg lk (.n i) x fr).bind fun fr1 => putTgsV lk is xs fr1
  | _, _, _ => none
def wipeP {α : Type} (ws : List Nat) : Nat → List (Option α) → List (Option α)
  | _, [] => []
  | k, x :: xs => (if ws.contains k then none else x) :: wipeP ws (k + 1) xs
def keepP {α : Type} (ws : List Nat) : Nat → List (Option α) → List (Option α)
  | _, [] => []
  | k, x :: xs => (if ws.contains k then x else none) :: keepP ws (k + 1) xs
def mixP {α : Type} (ws : List Nat) : Nat → List (Option α) → List (Option α) → List (Option α)
  | k, x :: xs, y :: ys => (if ws.contains k then x else y) :: mixP ws (k + 1) xs ys
  | _, _, _ => []
def wipeF (fr : Fm) (ws : List Nat) : Fm := wipeP ws 0 fr
def unwipe (old : Fm) (fr : Fm) (ws : List Nat) : Fm := mixP ws 0 old fr
def pairs : List D → List D → List D
  | x :: xs, y :: ys => .tuple [x, y] :: pairs xs ys
  | _, _ => []
def rangeD (a b : Int) : List D := (List.range (b - a).toNat).map fun (i : Nat) => .int (a + (i : Int))
def enumD (xs : List D) : List D := pairs ((List.range xs.length).map fun (i : Nat) => .int (i : Int)) xs
def smallI (i : Int) : Bool := decide (-(2 ^ 62) ≤ i) && decide (i < 2 ^ 62)

/-- the turns of a comprehension -/
def compN (turn : D → Fm → R (Option Vl)) : List D → Fm → R (List Vl)
  | [], fr => some ([], fr)
  | d :: ds, fr => (turn d fr).bind fun r => (compN turn ds r.2).map fun q => (match r.1 with
    | some x => x :: q.1
    | none => q.1, q.2)
def compFl (turn : D → Fm → R (List Vl)) : List D → Fm → R (List Vl)
  | [], fr => some ([], fr)
  | d :: ds, fr => (turn d fr).bind fun r => (compFl turn ds r.2).map fun q => (r.1 ++ q.1, q.2)
def pickP {α : Type} (xs : List α) : List Nat → Option (List α)
  | [] => some []
  | i :: is => (xs[i]?).bind fun x => (pickP xs is).map (x :: ·)
inductive Sg where
  | nx
  | rt (x : Vl)
def forN (turn : D → Fm → R Sg) : List D → Fm → R Sg
  | [], fr => some (.nx, fr)
  | d :: ds, fr => (turn d fr).bind fun r => match r.1 with
    | .nx => forN turn ds r.2
    | .rt x => some (.rt x, r.2)
def whileN (test : Fm → R Bool) (body : Fm → R Sg) : Nat → Fm → R Sg
  | 0, _ => none
  | n + 1, fr => (test fr).bind fun c => if c.1 then (body c.2).bind fun r => match r.1 with
      | .nx => whileN test body n r.2
      | .rt x => some (.rt x, r.2)
    else some (.nx, c.2)
/-- the most turns of a while: more than any here takes -/
def fuel : Nat := 2 ^ 40
def olsOf : List Vl → Option (List (List D))
  | [] => some []
  | .ol ds :: r => (olsOf r).map (ds :: ·)
  | _ => none
/-- what functions answer: the value, and what the parameters hold then -/
abbrev Fs := Nat → List Vl → Option (Vl × List Vl)
section
variable (G : Fs)
mutual
def ev : E → Fm → R Pd
  | .con d, fr => some (.st (.fz d), fr)
  | .glb d, fr => some (.st (.fz d), fr)
  | .var i, fr => match fr[i]? with
    | some (some _) => some (.sl i, fr)
    | _ => none
  | .tup es, fr => (gens es fr).bind fun r => if okSz r.1.length then some (.st (.fz (.tuple (froz r.1))), r.2) else none
  | .lst es, fr => (gens es fr).bind fun r => if okSz r.1.length then some (.st (.ol (froz r.1)), r.2) else none
  | .dct kvs, fr => (gens kvs fr).bind fun r => match r.1 with
    | [] => some (.st (.od []), r.2)
    | [k, v] => if kfit [] k.strip then some (.st (.od [(k.strip, v.strip)]), r.2) else none
    | _ => none
  | .bin op a b, fr => (ev a fr).bind fun p => (ev b p.2).bind fun q => (lookM q.2 p.1).bind fun x => (lookM q.2 q.1).bind fun y => (binD op x y).map fun z => (.st z, q.2)
  | .neg a, fr => (ev a fr).bind fun p => match look p.2 p.1 with
    | some (.int i) => some (.st (.fz (.int (-i))), p.2)
    | _ => none
  | .not a, fr => (ev a fr).bind fun p => (look p.2 p.1).bind fun d => if okTru d then some (.st (.fz (.bool (!truD d))), p.2) else none
  | .cmp op a b, fr => (ev a fr).bind fun p => (ev b p.2).bind fun q => (look q.2 p.1).bind fun x => (look q.2 q.1).bind fun y => (cmpD op x y).map fun z => (.st (.fz (.bool z)), q.2)
  | .chn op1 op2 a b c, fr => (ev a fr).bind fun p => (ev b p.2).bind fun q => (look q.2 p.1).bind fun x => (look q.2 q.1).bind fun y => (cmpD op1 x y).bind fun z =>
      if z then (ev c q.2).bind fun r => (look r.2 q.1).bind fun y' => (look r.2 r.1).bind fun w => (cmpD op2 y' w).map fun z' => (.st (.fz (.bool z')), r.2)
      else some (.st (.fz (.bool false)), q.2)
  | .isc a c no, fr => (ev a fr).bind fun p => (look p.2 p.1).bind fun x => match c, x with
    | .none, .none => some (.st (.fz (.bool (!no))), p.2)
    | .none, _ => some (.st (.fz (.bool no)), p.2)
    | .bool b, .bool b' => some (.st (.fz (.bool ((b == b') != no))), p.2)
    | _, _ => none
  | .and a b, fr => (ev a fr).bind fun p => (force p.1 p.2).bind fun x => match x.1 with
    | .fz (.bool true) => ev b x.2
    | .fz (.bool false) => some (.st (.fz (.bool false)), x.2)
    | .fz d => if okTru d then (if truD d then ev b x.2 else some (.st (.fz d), x.2)) else none
    | _ => none
  | .or a b, fr => (ev a fr).bind fun p => (force p.1 p.2).bind fun x => match x.1 with
    | .fz (.bool true) => some (.st (.fz (.bool true)), x.2)
    | .fz (.bool false) => ev b x.2
    | .fz d => if okTru d then (if truD d then some (.st (.fz d), x.2) else ev b x.2) else none
    | _ => none
  | .ite c a b, fr => (tru c fr).bind fun t => if t.1 then ev a t.2 else ev b t.2
  | .idx a i, fr => (ev a fr).bind fun p => (ev i p.2).bind fun q => (look q.2 p.1).bind fun x => (look q.2 q.1).bind fun y => (idxD x y).map fun z => (.st (.fz z), q.2)
  | .idx2 s i j, fr => match fr[s]? with
    | some (some (.oo _)) => (ev i fr).bind fun p => match look p.2 p.1, p.2[s]?, p.2[j]? with
      | some (.int a), some (some (.oo xss)), some (some (.fz (.int b))) => (placeD xss.length a).bind fun k => (xss[k]?).bind fun xs => match idxD (.list xs) (.int b) with
        | some (.int z) => some (.st (.fz (.int z)), p.2)
        | _ => none
      | _, _, _ => none
    | _ => none
  | .slc a lo hi back, fr => (ev a fr).bind fun p => (part lo p.2).bind fun l => (part hi l.2).bind fun u => (look u.2 p.1).bind fun x => (slcD back l.1 u.1 x).map fun z => (.st z, u.2)
  | .call f args, fr => (evs args fr).bind fun r => (lend r.1 r.2).bind fun q => (G f q.1).map fun a => (.st a.1, give r.1 a.2 q.2)
  | .bi b os, fr => (evs os fr).bind fun r => (looks r.2 r.1).bind fun ds => (biD b ds).map fun z => (.st z, r.2)
  | .mth m a os, fr => (ev a fr).bind fun p => (look p.2 p.1).bind fun d0 => if mtOk m d0 then (evs os p.2).bind fun r => (looks r.2 (p.1 :: r.1)).bind fun ds => (mthD m ds).map fun z => (.st (.fz z), r.2) else none
  | .pop s, fr => match fr[s]? with
    | some (some (.ol ds)) => if ds.isEmpty then none else (ds.getLast?).map fun d => (.st (.fz d), fr.set s (some (.ol ds.dropLast)))
    | _ => none
  | .comp elt tg it cond ws own, fr => (its it fr).bind fun q =>
      (compN (fun d fr1 => (putTg [] tg (.fz d) (wipeF fr1 ws)).bind fun fr2 => (truO cond fr2).bind fun t => if t.1 then (ev elt t.2).bind fun p => (force p.1 p.2).map fun x => (some x.1, x.2) else some (none, t.2)) q.1 q.2).bind fun r =>
      if okSz r.1.length then (if own then (olsOf r.1).map fun xss => (.st (.oo xss), unwipe q.2 r.2 ws) else some (.st (.ol (froz r.1)), unwipe q.2 r.2 ws)) else none
  | .comp2 elt tg it cond tg1 it1 cond1 ws ws1, fr => (its it fr).bind fun q =>
      (compFl (fun d fr1 => (putTg [] tg (.fz d) (wipeF fr1 ws)).bind fun fr2 => (truO cond fr2).bind fun t => if t.1 then (its it1 t.2).bind fun q1 =>
        compN (fun d fr1 => (putTg [] tg1 (.fz d) (wipeF fr1 ws1)).bind fun fr2 => (truO cond1 fr2).bind fun t => if t.1 then (ev elt t.2).bind fun p => (force p.1 p.2).map fun x => (some x.1, x.2) else some (none, t.2)) q1.1 q1.2 else some ([], t.2)) q.1 q.2).bind fun r =>
      if okSz r.1.length then some (.st (.ol (froz r.1)), unwipe q.2 r.2 ws) else none
  | .callk f args perm, fr => (evs args fr).bind fun r => (pickP r.1 perm).bind fun ps => (lend ps r.2).bind fun q => (G f q.1).map fun a => (.st a.1, give ps a.2 q.2)
def evs : List E → Fm → R (List Pd)
  | [], fr => some ([], fr)
  | e :: es, fr => (ev e fr).bind fun p => (evs es p.2).map fun r => (p.1 :: r.1, r.2)
def gens : List E → Fm → R (List Vl)
  | [], fr => some ([], fr)
  | e :: es, fr => (ev e fr).bind fun p => (force p.1 p.2).bind fun x => (gens es x.2).map fun r => (x.1 :: r.1, r.2)
def part : Option E → Fm → R (Option Int)
  | none, fr => some (none, fr)
  | some e, fr => (ev e fr).bind fun p => match look p.2 p.1 with
    | some (.int i) => some (some i, p.2)
    | _ => none
def tru : E → Fm → R Bool
  | .and a b, fr => (tru a fr).bind fun t => if t.1 then tru b t.2 else some (false, t.2)
  | .or a b, fr => (tru a fr).bind fun t => if t.1 then some (true, t.2) else tru b t.2
  | .not a, fr => (tru a fr).map fun t => (!t.1, t.2)
  | .ite _ _ _, _ => none
  | e, fr => (ev e fr).bind fun p => (look p.2 p.1).bind fun d => if okTru d then some (truD d, p.2) else none
def truO : Option E → Fm → R Bool
  | none, fr => some (true, fr)
  | some e, fr => tru e fr
def its : It → Fm → R (List D)
  | .li e, fr => (ev e fr).bind fun p => (force p.1 p.2).bind fun x => match x.1 with
    | .fz (.list ds) => some (ds, x.2)
    | .fz (.tuple ds) => some (ds, x.2)
    | .fz (.dict kvs) => some (kvs.map (·.1), x.2)
    | .ol ds => some (ds, x.2)
    | _ => none
  | .rg1 a, fr => (ev a fr).bind fun p => match look p.2 p.1 with
    | some (.int n) => if smallI n then some (rangeD 0 n, p.2) else none
    | _ => none
  | .rg2 a b, fr => (ev a fr).bind fun p => (ev b p.2).bind fun q => match look q.2 p.1, look q.2 q.1 with
    | some (.int m), some (.int n) => if smallI m && smallI n then some (rangeD m n, q.2) else none
    | _, _ => none
  | .en e, fr => (ev e fr).bind fun p => (force p.1 p.2).bind fun x => match x.1 with
    | .fz (.list ds) => some (enumD ds, x.2)
    | .fz (.tuple ds) => some (enumD ds, x.2)
    | .ol ds => some (enumD ds, x.2)
    | _ => none
  | .zp a b, fr => (ev a fr).bind fun p => (force p.1 p.2).bind fun x => (ev b x.2).bind fun q => (force q.1 q.2).bind fun y => match x.1.strip, y.1.strip with
    | .list xs, .list ys => some (pairs xs ys, y.2)
    | .tuple xs, .tuple ys => some (pairs xs ys, y.2)
    | .tuple xs, .list ys => some (pairs xs ys, y.2)
    | .list xs, .tuple ys => some (pairs xs ys, y.2)
    | _, _ => none
  | .im e, fr => (ev e fr).bind fun p => (force p.1 p.2).bind fun x => match x.1.strip with
    | .dict kvs => some (kvs.map fun p => .tuple [p.1, p.2], x.2)
    | _ => none
end
mutual
def exec (lk : List Nat) : S → Fm → R Sg
  | .asg tg e, fr => (ev G e fr).bind fun p => (force p.1 p.2).bind fun x => (putTg lk tg x.1 x.2).map fun fr1 => (.nx, fr1)
  | .par is es, fr => (gens G es fr).bind fun r => if is.length == r.1.length && is.Nodup then (putTgsV lk is r.1 r.2).map fun fr1 => (.nx, fr1) else none
  | .sidx s i v, fr => (ev G v fr).bind fun p => (force p.1 p.2).bind fun x => match x.2[s]? with
    | some (some (.ol _)) => (ev G i x.2).bind fun q => match look q.2 q.1, q.2[s]? with
      | some (.int k), some (some (.ol ds)) => (placeD ds.length k).map fun j => (.nx, q.2.set s (some (.ol (ds.set j x.1.strip))))
      | _, _ => none
    | some (some (.od _)) => (ev G i x.2).bind fun q => match look q.2 q.1, q.2[s]? with
      | some k, some (some (.od kvs)) => if kfit kvs k && decide (kvs.length < 16777216) then some (.nx, q.2.set s (some (.od (dput kvs k x.1.strip)))) else none
      | _, _ => none
    | _ => none
  | .sidx2 s i j v, fr => (ev G v fr).bind fun p => (force p.1 p.2).bind fun x => match x.1, x.2[s]? with
    | .fz (.int n), some (some (.oo _)) => (ev G i x.2).bind fun q => match look q.2 q.1, q.2[s]?, q.2[j]? with
      | some (.int a), some (some (.oo xss)), some (some (.fz (.int b))) => (placeD xss.length a).bind fun k => (xss[k]?).bind fun xs => (placeD xs.length b).map fun m => (.nx, q.2.set s (some (.oo (xss.set k (xs.set m (.int n))))))
      | _, _, _ => none
    | _, _ => none
  | .exp e, fr => (ev G e fr).map fun p => (.nx, p.2)
  | .app s e, fr => match fr[s]? with
    | some (some (.ol _)) => (ev G e fr).bind fun p => (force p.1 p.2).bind fun x => match x.2[s]? with
      | some (some (.ol ds)) => if decide (ds.length < 16777216) then some (.nx, x.2.set s (some (.ol (ds ++ [x.1.strip])))) else none
      | _ => none
    | _ => none
  | .ext s e, fr => match fr[s]? with
    | some (some (.ol _)) => (ev G e fr).bind fun p => (force p.1 p.2).bind fun x => match x.2[s]?, x.1.strip with
      | some (some (.ol ds)), .list es => if decide (ds.length + es.length ≤ 16777216) then some (.nx, x.2.set s (some (.ol (ds ++ es)))) else none
      | _, _ => none
    | _ => none
  | .upd s e, fr => match fr[s]? with
    | some (some (.od _)) => (ev G e fr).bind fun p => (force p.1 p.2).bind fun x => match x.2[s]?, x.1.strip with
      | some (some (.od kvs)), .dict more => if kvs.all (fun p => tkey p.1) && more.all (fun p => tkey p.1) && !kvs.isEmpty && decide (kvs.length + more.length ≤ 16777216) then some (.nx, x.2.set s (some (.od (dmerge kvs more)))) else none
      | _, _ => none
    | _ => none
  | .sdf s i v, fr => match fr[s]? with
    | some (some (.od _)) => (gens G [i, v] fr).bind fun r => match r.1, r.2[s]? with
      | [k, x], some (some (.od kvs)) => if tkey k.strip && kvs.all (fun p => tkey p.1) && decide (kvs.length < 16777216) then some (.nx, if (dget kvs k.strip).isSome then r.2 else r.2.set s (some (.od (dput kvs k.strip x.strip)))) else none
      | _, _ => none
    | _ => none
  | .ret e, fr => (ev G e fr).bind fun p => (force p.1 p.2).map fun x => (.rt x.1, x.2)
  | .retv s, fr => match fr[s]? with
    | some (some x) => if lk.contains s then none else some (.rt x, fr.set s none)
    | _ => none
  | .retN, fr => some (.rt (.fz .none), fr)
  | .iff c a b, fr => (tru G c fr).bind fun t => if t.1 then execs lk a t.2 else execs lk b t.2
  | .for tg it body, fr => (its G it fr).bind fun q => forN (fun d fr1 => (putTg lk tg (.fz d) fr1).bind fun fr2 => execs lk body fr2) q.1 q.2
  | .whl c body, fr => whileN (fun fr => tru G c fr) (fun fr => execs lk body fr) fuel fr
  | .nop, fr => some (.nx, fr)
  | .stop, _ => none
def execs (lk : List Nat) : List S → Fm → R Sg
  | [], fr => some (.nx, fr)
  | s :: ss, fr => (exec lk s fr).bind fun r => match r.1 with
    | .nx => execs lk ss r.2
    | .rt x => some (.rt x, r.2)
end
def ownIx : Nat → List Vl → List Nat
  | _, [] => []
  | i, x :: xs => if x.isFz then ownIx (i + 1) xs else i :: ownIx (i + 1) xs
def finals : List Vl → Fm → Option (List Vl)
  | [], _ => some []
  | x :: xs, o :: fr => if x.isFz then (finals xs fr).map (x :: ·) else match o with
    | some y => (finals xs fr).map (y :: ·)
    | none => none
  | _ :: _, [] => none
/-- a function's answer by its body -/
def runF (f : Fn) (xs : List Vl) : Option (Vl × List Vl) :=
  if xs.length == f.np && decide (f.np ≤ f.ns) then
    (execs G (ownIx 0 xs) f.body (xs.map some ++ List.replicate (f.ns - f.np) none)).bind fun r => (finals xs r.2).map fun ps => (match r.1 with
      | .nx => .fz .none
      | .rt x => x, ps)
  else none
end
/-- calls, to a depth -/
def callN (P : Nat → Option Fn) : Nat → Fs
  | 0 => fun _ _ => none
  | k + 1 => fun f xs => (P f).bind fun fn => runF (callN P k) fn xs
end Tr

set_option Elab.async false
set_option linter.all false
set_option maxRecDepth 100000
/-! What an IR value is in the layer's abstract heap; the live values with their own lists apart. -/
namespace Tr
open PySem PySem.Spec PyProof.Rows L2

/-- the entries of a dict by their values -/
inductive Ents : List DictEntry → List (D × D) → List V → List V → Prop
  | nil : Ents [] [] [] []
  | cons {e : DictEntry} {es : List DictEntry} {p : D × D} {kvs : List (D × D)} {k v : V} {ks vs : List V} : e.hash = hashK (nk p.1) → RelV k e.key → RelV v e.val → Ents es kvs ks vs → Ents (e :: es) (p :: kvs) (k :: ks) (v :: vs)
/-- the dict that the object o is -/
def DOf (o : Obj) (kvs : List (D × D)) (ks vs : List V) : Prop := o.ExactDict ∧ ∃ es ep, o.data = .dict es ep ∧ Ents es.toList kvs ks vs
/-- at a stands just the object o -/
def DcO (a : Addr) (o : Obj) : HO := .ext fun h => h.get? a = some o
/-- at a stands, tracked, a dict -/
structure DAt (H : Hp) (a : Addr) (o : Obj) (kvs : List (D × D)) (ks vs : List V) : Prop where
  at_ : H a = some (DcO a o)
  low : (a == sysModules) = false
  is_ : DOf o kvs ks vs
  nd : (kvs.map fun p => nk p.1).Nodup
section
variable (K : PySem.W.Frag) (F : Addr → Prop) (H : Hp)
/-- a list, a tuple that stands as long as what is owned (F) alone is written -/
def StL (a : Addr) (xs : List V) : Prop := H a = some (.lst xs) ∧ ¬ F a
def StT (a : Addr) (xs : List V) : Prop := (Rd H a (.tup xs) ∧ ¬ F a) ∨ SqT K (fun _ => none) a xs
/-- the script -/
def StS (a : Addr) (ns : List Int) : Prop := (∃ o : Obj, H a = some (.frz o (.lst (ns.map V.int))) ∧ ¬ F a) ∨ SqL K (fun _ => none) a (ns.map V.int)
mutual
inductive RelD : V → D → Prop
  | non : RelD .non .none
  | bl (b : Bool) : RelD (.bl b) (.bool b)
  | int (i : Int) : RelD (.int i) (.int i)
  | str (x : Str) : RelD (.str x) (.str x)
  | lst {a : Addr} {xs : List V} {ds : List D} : StL F H a xs → RelDs xs ds → RelD (.ref a) (.list ds)
  | tup {a : Addr} {xs : List V} {ds : List D} : StT K F H a xs → RelDs xs ds → RelD (.ref a) (.tuple ds)
  | dct {a : Addr} {o : Obj} {kvs : List (D × D)} {ks vs : List V} : DAt H a o kvs ks vs → ¬ F a → RelDs ks (kvs.map Prod.fst) → RelDs vs (kvs.map Prod.snd) → RelD (.ref a) (.dict kvs)
inductive RelDs : List V → List D → Prop
  | nil : RelDs [] []
  | cons {v : V} {vs : List V} {d : D} {ds : List D} : RelD v d → RelDs vs ds → RelDs (v :: vs) (d :: ds)
end
/-- the owned inner lists -/
inductive RelOs : List V → List (List D) → List Addr → Prop
  | nil : RelOs [] [] []
  | cons {a : Addr} {xs : List V} {ds : List D} {vs : List V} {dss : List (List D)} {fs : List Addr} : H a = some (.lst xs) → RelDs K F H xs ds → RelOs vs dss fs → RelOs (.ref a :: vs) (ds :: dss) (a :: fs)
/-- a value and the addresses that it owns -/
inductive RelX : V → Vl → List Addr → Prop
  | fz {v : V} {d : D} : RelD K F H v d → RelX v (.fz d) []
  | ol {a : Addr} {xs : List V} {ds : List D} : H a = some (.lst xs) → RelDs K F H xs ds → RelX (.ref a) (.ol ds) [a]
  | oo {a : Addr} {xs : List V} {dss : List (List D)} {fs : List Addr} : H a = some (.lst xs) → RelOs K F H xs dss fs → RelX (.ref a) (.oo dss) (a :: fs)
  | od {a : Addr} {o : Obj} {kvs : List (D × D)} {ks vs : List V} : DAt H a o kvs ks vs → RelDs K F H ks (kvs.map Prod.fst) → RelDs K F H vs (kvs.map Prod.snd) → RelX (.ref a) (.od kvs) [a]
  | pinL {a : Addr} {xs : List V} : StL F H a xs → RelX (.ref a) (.pinL xs) []
  | pinD {a : Addr} {o : Obj} {kvs : List (D × D)} {ks vs : List V} : DAt H a o kvs ks vs → ¬ F a → RelX (.ref a) (.pinD o kvs ks vs) []
  | pinT {a : Addr} {xs : List V} : StT K F H a xs → RelX (.ref a) (.pinT xs) []
  | scr {a : Addr} {ns : List Int} : StS K F H a ns → RelX (.ref a) (.scr ns) []
inductive LRel : List (V × Vl) → List Addr → Prop
  | nil : LRel [] []
  | cons {v : V} {x : Vl} {L : List (V × Vl)} {f fs : List Addr} : RelX K F H v x f → LRel L fs → LRel ((v, x) :: L) (f ++ fs)
/-- an operand: frozen, or a list that is owned by someone, looked at just now -/
inductive RelO : V → D → Prop
  | fz {v : V} {d : D} : RelD K F H v d → RelO v d
  | ol {a : Addr} {xs : List V} {ds : List D} : H a = some (.lst xs) → RelDs K F H xs ds → RelO (.ref a) (.list ds)
  | od {a : Addr} {o : Obj} {kvs : List (D × D)} {ks vs : List V} : DAt H a o kvs ks vs → RelDs K F H ks (kvs.map Prod.fst) → RelDs K F H vs (kvs.map Prod.snd) → RelO (.ref a) (.dict kvs)
  | scr {a : Addr} {ns : List Int} : StS K F H a ns → RelO (.ref a) (.list (ns.map .int))
/-- .. no script -/
inductive RelM : V → D → Prop
  | fz {v : V} {d : D} : RelD K F H v d → RelM v d
  | ol {a : Addr} {xs : List V} {ds : List D} : H a = some (.lst xs) → RelDs K F H xs ds → RelM (.ref a) (.list ds)
  | od {a : Addr} {o : Obj} {kvs : List (D × D)} {ks vs : List V} : DAt H a o kvs ks vs → RelDs K F H ks (kvs.map Prod.fst) → RelDs K F H vs (kvs.map Prod.snd) → RelM (.ref a) (.dict kvs)
end
/-- all live values: what each owns is its own alone -/
def Live (K : PySem.W.Frag) (H : Hp) (L : List (V × Vl)) : Prop := ∃ fs : List Addr, fs.Nodup ∧ LRel K (· ∈ fs) H L fs
/-- operands beside the live values -/
def OpdM (K : PySem.W.Frag) (H : Hp) (vs : List V) (ds : List D) (L : List (V × Vl)) : Prop :=
  ∃ fs : List Addr, fs.Nodup ∧ LRel K (· ∈ fs) H L fs ∧ Paired (RelM K (· ∈ fs) H) vs ds
def Opd (K : PySem.W.Frag) (H : Hp) (vs : List V) (ds : List D) (L : List (V × Vl)) : Prop :=
  ∃ fs : List Addr, fs.Nodup ∧ LRel K (· ∈ fs) H L fs ∧ Paired (RelO K (· ∈ fs) H) vs ds

section
variable {K : PySem.W.Frag} {F F' : Addr → Prop} {H H' : Hp} {a : Addr}
/-- what is tracked and not owned stays so -/
def Kp (F F' : Addr → Prop) (H H' : Hp) : Prop := ∀ a o, H a = some o → ¬ F a → H' a = some o ∧ ¬ F' a
theorem Rd.kp (k : Kp F F' H H') {a : Addr} {u : HO} (h : Rd H a u) (n : ¬ F a) : Rd H' a u ∧ ¬ F' a := by
  rcases h with e | ⟨o, e⟩
  · exact ⟨.inl (k _ _ e n).1, (k _ _ e n).2⟩
  · exact ⟨.inr ⟨o, (k _ _ e n).1⟩, (k _ _ e n).2⟩
theorem StL.kp (k : Kp F F' H H') {a : Addr} {xs : List V} (h : StL F H a xs) : StL F' H' a xs := k _ _ h.1 h.2
theorem StT.kp (k : Kp F F' H H') {a : Addr} {xs : List V} (h : StT K F H a xs) : StT K F' H' a xs := by
  rcases h with ⟨h, n⟩ | h
  · exact .inl (Rd.kp k h n)
  · exact .inr h
theorem StS.kp (k : Kp F F' H H') {a : Addr} {ns : List Int} (h : StS K F H a ns) : StS K F' H' a ns := by
  rcases h with ⟨o, h, n⟩ | h
  · exact .inl ⟨o, (k _ _ h n).1, (k _ _ h n).2⟩
  · exact .inr h
theorem no_rd {a : Addr} {u : HO} : ¬ Rd (fun _ => none) a u := by
  rintro (e | ⟨o, e⟩) <;> cases e
theorem StL.sq {a : Addr} {xs : List V} (h : StL F H a xs) : SqL K H a xs := SqL.of h.1
theorem StS.sq {a : Addr} {ns : List Int} (h : StS K F H a ns) : SqL K H a (ns.map V.int) := by
  rcases h with ⟨o, h, _⟩ | h
  · exact .inl (.inr ⟨o, h⟩)
  · rcases h with h | h
    · exact (no_rd h).elim
    · exact .inr h
theorem StT.sq {a : Addr} {xs : List V} (h : StT K F H a xs) : SqT K H a xs := by
  rcases h with ⟨h, _⟩ | h
  · exact .inl h
  · rcases h with h | h
    · exact (no_rd h).elim
    · exact .inr h
theorem DAt.kp (k : ∀ u, H a = some u → H' a = some u) {o : Obj} {kvs : List (D × D)} {ks vs : List V} (h : DAt H a o kvs ks vs) : DAt H' a o kvs ks vs := ⟨k _ h.at_, h.low, h.is_, h.nd⟩
theorem RelD.kp (k : Kp F F' H H') (d : D) (v : V) (h : RelD K F H v d) : RelD K F' H' v d :=
  RelD.rec (motive_1 := fun v d _ => RelD K F' H' v d) (motive_2 := fun vs ds _ => RelDs K F' H' vs ds) .non .bl .int .str (fun h1 _ i => .lst (h1.kp k) i) (fun h1 _ i => .tup (h1.kp k) i)
    (fun h1 n _ _ i j => .dct (h1.kp fun u e => (k _ u e n).1) (k _ _ h1.at_ n).2 i j) .nil (fun _ _ i j => .cons i j) h
theorem RelDs.kp (k : Kp F F' H H') (ds : List D) (vs : List V) (h : RelDs K F H vs ds) : RelDs K F' H' vs ds := by
  induction ds generalizing vs with
  | nil => cases h; exact .nil
  | cons d ds ih =>
    cases h with
    | cons h1 h2 => exact .cons (RelD.kp k d _ h1) (ih _ h2)
theorem RelOs.kp (k : Kp F F' H H') {vs : List V} {dss : List (List D)} {fs : List Addr} (h : RelOs K F H vs dss fs) (ho : ∀ a ∈ fs, H' a = H a) : RelOs K F' H' vs dss fs := by
  induction h with
  | nil => exact .nil
  | cons h1 h2 _ ih => exact .cons ((ho _ List.mem_cons_self).trans h1) (RelDs.kp k _ _ h2) (ih fun a q => ho a (List.mem_cons_of_mem _ q))
theorem RelX.kp (k : Kp F F' H H') {v : V} {x : Vl} {f : List Addr} (h : RelX K F H v x f) (ho : ∀ a ∈ f, H' a = H a) : RelX K F' H' v x f := by
  cases h with
  | fz h => exact .fz (RelD.kp k _ _ h)
  | ol h1 h2 => exact .ol ((ho _ List.mem_cons_self).trans h1) (RelDs.kp k _ _ h2)
  | oo h1 h2 => exact .oo ((ho _ List.mem_cons_self).trans h1) (h2.kp k fun a q => ho a (List.mem_cons_of_mem _ q))
  | od h1 h2 h3 => exact .od (h1.kp fun u e => (ho _ List.mem_cons_self).trans e) (RelDs.kp k _ _ h2) (RelDs.kp k _ _ h3)
  | pinD h n => exact .pinD (h.kp fun u e => (k _ u e n).1) (k _ _ h.at_ n).2
  | pinL h => exact .pinL (h.kp k)
  | pinT h => exact .pinT (h.kp k)
  | scr h => exact .scr (h.kp k)
theorem LRel.kp (k : Kp F F' H H') {L : List (V × Vl)} {fs : List Addr} (h : LRel K F H L fs) (ho : ∀ a ∈ fs, H' a = H a) : LRel K F' H' L fs := by
  induction h with
  | nil => exact .nil
  | cons h1 _ ih => exact .cons (h1.kp k fun a q => ho a (List.mem_append_left _ q)) (ih fun a q => ho a (List.mem_append_right _ q))
theorem RelO.kp (k : Kp F F' H H') {v : V} {d : D} (h : RelO K F H v d) (ho : ∀ a u, v = .ref a → H a = some u → H' a = some u) : RelO K F' H' v d := by
  cases h with
  | fz h => exact .fz (RelD.kp k _ _ h)
  | ol h1 h2 => exact .ol (ho _ _ rfl h1) (RelDs.kp k _ _ h2)
  | od h1 h2 h3 => exact .od (h1.kp fun u e => ho _ _ rfl e) (RelDs.kp k _ _ h2) (RelDs.kp k _ _ h3)
  | scr h => exact .scr (h.kp k)
theorem RelM.o {v : V} {d : D} (h : RelM K F H v d) : RelO K F H v d := by
  cases h with
  | fz h => exact .fz h
  | ol h1 h2 => exact .ol h1 h2
  | od h1 h2 h3 => exact .od h1 h2 h3
theorem RelM.kp (k : Kp F F' H H') {v : V} {d : D} (h : RelM K F H v d) (ho : ∀ a u, v = .ref a → H a = some u → H' a = some u) : RelM K F' H' v d := by
  cases h with
  | fz h => exact .fz (RelD.kp k _ _ h)
  | ol h1 h2 => exact .ol (ho _ _ rfl h1) (RelDs.kp k _ _ h2)
  | od h1 h2 h3 => exact .od (h1.kp fun u e => ho _ _ rfl e) (RelDs.kp k _ _ h2) (RelDs.kp k _ _ h3)
/-- less is owned -/
theorem Kp.less (h : ∀ a, F' a → F a) : Kp F F' H H := fun a o e n => ⟨e, fun q => n (h a q)⟩
/-- something new, and it may be owned -/
theorem Kp.new {p : Addr} {o : HO} (hp : H p = none) (h : ∀ a, F' a → F a ∨ a = p) : Kp F F' H (upd H p o) := fun a u e n => by
  have ne : a ≠ p := ne_of_none e hp
  exact ⟨by rw [upd_ne ne]; exact e, fun q => (h a q).elim n ne⟩
/-- something that is owned is written -/
theorem Kp.write {p : Addr} {o : HO} (hp : F p) (h : ∀ a, F' a → F a) : Kp F F' H (upd H p o) := fun a u e n => by
  have ne : a ≠ p := fun z => n (z ▸ hp)
  exact ⟨by rw [upd_ne ne]; exact e, fun q => n (h a q)⟩
theorem Kp.same (s : Same H H') : Kp F F H H' := fun a o e n => ⟨s a o e, n⟩
theorem RelOs.owned {vs : List V} {dss : List (List D)} {fs : List Addr} (h : RelOs K F H vs dss fs) : ∀ a ∈ fs, ∃ xs, H a = some (.lst xs) := by
  induction h with
  | nil => intro a q; cases q
  | cons h1 _ _ ih =>
    intro a q
    rcases List.mem_cons.mp q with rfl | q
    · exact ⟨_, h1⟩
    · exact ih a q
theorem RelX.owned {v : V} {x : Vl} {f : List Addr} (h : RelX K F H v x f) : ∀ a ∈ f, ∃ u, H a = some u := by
  intro a q
  cases h with
  | fz _ => cases q
  | od h1 _ _ =>
    rcases List.mem_cons.mp q with rfl | q
    · exact ⟨_, h1.at_⟩
    · cases q
  | pinD _ _ => cases q
  | pinL _ => cases q
  | pinT _ => cases q
  | scr _ => cases q
  | ol h1 _ =>
    rcases List.mem_cons.mp q with rfl | q
    · exact ⟨_, h1⟩
    · cases q
  | oo h1 h2 =>
    rcases List.mem_cons.mp q with rfl | q
    · exact ⟨_, h1⟩
    · obtain ⟨xs, e⟩ := h2.owned a q; exact ⟨_, e⟩
theorem LRel.owned {L : List (V × Vl)} {fs : List Addr} (h : LRel K F H L fs) : ∀ a ∈ fs, ∃ u, H a = some u := by
  induction h with
  | nil => intro a q; cases q
  | cons h1 _ ih =>
    intro a q
    rcases List.mem_append.mp q with q | q
    · exact h1.owned a q
    · exact ih a q
theorem LRel.perm {L L' : List (V × Vl)} (p : L.Perm L') : ∀ {fs : List Addr}, LRel K F H L fs → ∃ fs', fs.Perm fs' ∧ LRel K F H L' fs' := by
  induction p with
  | nil => intro fs h; exact ⟨fs, List.Perm.refl _, h⟩
  | cons x _ ih =>
    intro fs h
    cases h with
    | cons h1 h2 =>
      obtain ⟨gs, q, h3⟩ := ih h2
      exact ⟨_, List.Perm.append_left _ q, .cons h1 h3⟩
  | swap x y l =>
    intro fs h
    cases h with
    | cons h1 h2 =>
      cases h2 with
      | cons h3 h4 =>
        refine ⟨_, ?_, .cons h3 (.cons h1 h4)⟩
        rw [← List.append_assoc, ← List.append_assoc]
        exact List.Perm.append_right _ List.perm_append_comm
  | trans _ _ ih1 ih2 =>
    intro fs h
    obtain ⟨g1, q1, h1⟩ := ih1 h
    obtain ⟨g2, q2, h2⟩ := ih2 h1
    exact ⟨g2, q1.trans q2, h2⟩
theorem LRel.split {L1 L2 : List (V × Vl)} : ∀ {fs : List Addr}, LRel K F H (L1 ++ L2) fs → ∃ f1 f2, fs = f1 ++ f2 ∧ LRel K F H L1 f1 ∧ LRel K F H L2 f2 := by
  induction L1 with
  | nil => intro fs h; exact ⟨[], fs, rfl, .nil, h⟩
  | cons p L1 ih =>
    intro fs h
    cases h with
    | cons h1 h2 =>
      obtain ⟨f1, f2, e, h3, h4⟩ := ih h2
      exact ⟨_, f2, by rw [e, List.append_assoc], .cons h1 h3, h4⟩
theorem LRel.join {L1 L2 : List (V × Vl)} {f1 f2 : List Addr} (h1 : LRel K F H L1 f1) (h2 : LRel K F H L2 f2) : LRel K F H (L1 ++ L2) (f1 ++ f2) := by
  induction h1 with
  | nil => exact h2
  | cons h _ ih =>
    rw [List.cons_append, List.append_assoc]
    exact .cons h ih

/-! ### live values -/
variable {L L' L1 L2 : List (V × Vl)}
theorem Live.perm (h : Live K H L) (p : L.Perm L') : Live K H L' := by
  obtain ⟨fs, nd, r⟩ := h
  obtain ⟨gs, q, r'⟩ := r.perm p
  exact ⟨gs, q.nodup_iff.mp nd, r'.kp (Kp.less fun a z => q.mem_iff.mpr z) fun _ _ => rfl⟩
theorem Live.right (h : Live K H (L1 ++ L2)) : Live K H L2 := by
  obtain ⟨fs, nd, r⟩ := h
  obtain ⟨f1, f2, rfl, _, r2⟩ := r.split
  exact ⟨f2, (List.nodup_append.mp nd).2.1, r2.kp (Kp.less fun a z => List.mem_append_right _ z) fun _ _ => rfl⟩
theorem Live.left (h : Live K H (L1 ++ L2)) : Live K H L1 := (h.perm List.perm_append_comm).right
theorem Live.tail {p : V × Vl} (h : Live K H (p :: L)) : Live K H L := Live.right (L1 := [p]) h
theorem Live.sub (h : Live K H L) (p : (L' ++ L1).Perm L) : Live K H L' := (h.perm p.symm).left

theorem LRel.mem {v : V} {x : Vl} : ∀ {L : List (V × Vl)} {fs : List Addr}, LRel K F H L fs → (v, x) ∈ L → ∃ f, RelX K F H v x f
  | _, _, .nil, q => by cases q
  | _, _, .cons h1 h2, q => by
    rcases List.mem_cons.mp q with e | q
    · cases e; exact ⟨_, h1⟩
    · exact h2.mem q
theorem RelX.flat {v : V} {x : Vl} {f : List Addr} {d : D} (h : RelX K F H v x f) (e : x.flat = some d) : RelO K F H v d := by
  cases h with
  | fz h => cases e; exact .fz h
  | ol h1 h2 => cases e; exact .ol h1 h2
  | oo _ _ => cases e
  | od h1 h2 h3 => cases e; exact .od h1 h2 h3
  | pinD _ _ => cases e
  | pinL _ => cases e
  | pinT _ => cases e
  | scr h => cases e; exact .scr h
theorem RelX.flatM {v : V} {x : Vl} {f : List Addr} {d : D} (h : RelX K F H v x f) (e : x.flatM = some d) : RelM K F H v d := by
  cases h with
  | fz h => cases e; exact .fz h
  | ol h1 h2 => cases e; exact .ol h1 h2
  | oo _ _ => cases e
  | od h1 h2 h3 => cases e; exact .od h1 h2 h3
  | pinD _ _ => cases e
  | pinL _ => cases e
  | pinT _ => cases e
  | scr _ => cases e
theorem RelM.list {v : V} {ds : List D} (h : RelM K F H v (.list ds)) : ∃ a xs, v = .ref a ∧ H a = some (.lst xs) ∧ RelDs K F H xs ds := by
  cases h with
  | fz h =>
    cases h with
    | lst h1 h2 => exact ⟨_, _, rfl, h1.1, h2⟩
  | ol h1 h2 => exact ⟨_, _, rfl, h1, h2⟩
theorem RelO.list {v : V} {ds : List D} (h : RelO K F H v (.list ds)) : ∃ a xs, v = .ref a ∧ SqL K H a xs ∧ RelDs K F H xs ds := by
  cases h with
  | fz h =>
    cases h with
    | lst h1 h2 => exact ⟨_, _, rfl, h1.sq, h2⟩
  | ol h1 h2 => exact ⟨_, _, rfl, SqL.of h1, h2⟩
  | @scr a ns h =>
    refine ⟨_, _, rfl, h.sq, ?_⟩
    induction ns with
    | nil => exact .nil
    | cons n ns ih => exact .cons (.int n) (by
        clear ih h
        induction ns with
        | nil => exact .nil
        | cons m ns ih => exact .cons (.int m) ih)
theorem RelO.tuple {v : V} {ds : List D} (h : RelO K F H v (.tuple ds)) : ∃ a xs, v = .ref a ∧ SqT K H a xs ∧ RelDs K F H xs ds := by
  cases h with
  | fz h =>
    cases h with
    | tup h1 h2 => exact ⟨_, _, rfl, h1.sq, h2⟩
theorem RelO.int {v : V} {i : Int} (h : RelO K F H v (.int i)) : v = .int i := by
  cases h with
  | fz h => cases h; rfl
theorem RelO.bool {v : V} {i : Bool} (h : RelO K F H v (.bool i)) : v = .bl i := by
  cases h with
  | fz h => cases h; rfl
theorem RelO.str {v : V} {i : Str} (h : RelO K F H v (.str i)) : v = .str i := by
  cases h with
  | fz h => cases h; rfl
theorem RelO.none {v : V} (h : RelO K F H v .none) : v = .non := by
  cases h with
  | fz h => cases h; rfl
theorem RelO.dict {v : V} {kvs : List (D × D)} (h : RelO K F H v (.dict kvs)) : ∃ a o ks vs, v = .ref a ∧ DAt H a o kvs ks vs ∧ RelDs K F H ks (kvs.map Prod.fst) ∧ RelDs K F H vs (kvs.map Prod.snd) := by
  cases h with
  | fz h =>
    cases h with
    | dct h1 _ h2 h3 => exact ⟨_, _, _, _, rfl, h1, h2, h3⟩
  | od h1 h2 h3 => exact ⟨_, _, _, _, rfl, h1, h2, h3⟩
theorem RelDs.length {vs : List V} : ∀ {ds : List D}, RelDs K F H vs ds → vs.length = ds.length := by
  induction vs with
  | nil => intro ds h; cases h; rfl
  | cons v vs ih =>
    intro ds h
    cases h with
    | cons h1 h2 => rw [List.length_cons, List.length_cons, ih h2]
theorem RelDs.get : ∀ {vs : List V} {ds : List D} {i : Nat} {v : V}, RelDs K F H vs ds → vs[i]? = some v → ∃ d, ds[i]? = some d ∧ RelD K F H v d
  | _, _, _, _, .nil, e => by simp at e
  | _, _, 0, _, .cons h1 _, e => by simp at e; subst e; exact ⟨_, rfl, h1⟩
  | _, _, i + 1, v, .cons _ h2, e => by
    obtain ⟨d, q1, q2⟩ := RelDs.get (i := i) (v := v) h2 (by simpa using e)
    exact ⟨d, by simpa using q1, q2⟩
theorem RelDs.getD {i : Nat} {d : D} {vs : List V} {ds : List D} (h : RelDs K F H vs ds) (e : ds[i]? = some d) : ∃ v, vs[i]? = some v ∧ RelD K F H v d := by
  have hl := h.length
  have hi : i < ds.length := (List.getElem?_eq_some_iff.mp e).1
  have hv : vs[i]? = some (vs[i]'(by omega)) := List.getElem?_eq_getElem (by omega)
  obtain ⟨d', q1, q2⟩ := h.get hv
  rw [e] at q1; cases q1
  exact ⟨_, hv, q2⟩
theorem RelDs.append : ∀ {vs ws : List V} {ds es : List D}, RelDs K F H vs ds → RelDs K F H ws es → RelDs K F H (vs ++ ws) (ds ++ es)
  | _, _, _, _, .nil, h => h
  | _, _, _, _, .cons h1 h2, h => .cons h1 (h2.append h)
theorem RelDs.take : ∀ (n : Nat) {vs : List V} {ds : List D}, RelDs K F H vs ds → RelDs K F H (vs.take n) (ds.take n)
  | 0, _, _, _ => .nil
  | n + 1, _, _, .nil => .nil
  | n + 1, _, _, .cons h1 h2 => .cons h1 (h2.take n)
theorem RelDs.drop : ∀ (n : Nat) {vs : List V} {ds : List D}, RelDs K F H vs ds → RelDs K F H (vs.drop n) (ds.drop n)
  | 0, _, _, h => h
  | n + 1, _, _, .nil => .nil
  | n + 1, _, _, .cons _ h2 => h2.drop n
theorem RelDs.set {v : V} {d : D} (r : RelD K F H v d) : ∀ (i : Nat) {vs : List V} {ds : List D}, RelDs K F H vs ds → RelDs K F H (vs.set i v) (ds.set i d)
  | _, _, _, .nil => .nil
  | 0, _, _, .cons _ h2 => .cons r h2
  | i + 1, _, _, .cons h1 h2 => .cons h1 (h2.set r i)
theorem RelDs.reverse {vs : List V} {ds : List D} (h : RelDs K F H vs ds) : RelDs K F H vs.reverse ds.reverse := by
  induction vs generalizing ds with
  | nil => cases h; exact .nil
  | cons v vs ih =>
    cases h with
    | cons h1 h2 =>
      rw [List.reverse_cons, List.reverse_cons]
      exact (ih h2).append (.cons h1 .nil)
theorem RelDs.rep {vs : List V} {ds : List D} (h : RelDs K F H vs ds) : ∀ n : Nat, RelDs K F H (List.replicate n vs).flatten (List.replicate n ds).flatten
  | 0 => .nil
  | n + 1 => by
    rw [List.replicate_succ, List.replicate_succ, List.flatten_cons, List.flatten_cons]
    exact h.append (h.rep n)

/-! ### what an operation gives back -/
theorem Opd.mk {vs : List V} {ds : List D} (h : Live K H L) (hm : ∀ fs, LRel K (· ∈ fs) H L fs → Paired (RelO K (· ∈ fs) H) vs ds) : Opd K H vs ds L := by
  obtain ⟨fs, nd, r⟩ := h
  exact ⟨fs, nd, r, hm fs r⟩
theorem paired_imp {α β : Type} {P Q : α → β → Prop} (h : ∀ a b, P a b → Q a b) : ∀ {xs : List α} {ys : List β}, Paired P xs ys → Paired Q xs ys
  | _, _, .nil => .nil
  | _, _, .cons r t => .cons (h _ _ r) (paired_imp h t)
theorem Opd.right {vs : List V} {ds : List D} (h : Opd K H vs ds (L1 ++ L2)) : Opd K H vs ds L2 := by
  obtain ⟨fs, nd, r, o⟩ := h
  obtain ⟨f1, f2, rfl, _, r2⟩ := r.split
  have k : Kp (· ∈ f1 ++ f2) (· ∈ f2) H H := Kp.less fun a z => List.mem_append_right _ z
  exact ⟨f2, (List.nodup_append.mp nd).2.1, r2.kp k fun _ _ => rfl, paired_imp (fun _ _ q => q.kp k fun _ _ _ e => e) o⟩
theorem OpdM.o {vs : List V} {ds : List D} (h : OpdM K H vs ds L) : Opd K H vs ds L := by
  obtain ⟨fs, nd, r, o⟩ := h
  exact ⟨fs, nd, r, paired_imp (fun _ _ q => q.o) o⟩
theorem OpdM.mk {vs : List V} {ds : List D} (h : Live K H L) (hm : ∀ fs, LRel K (· ∈ fs) H L fs → Paired (RelM K (· ∈ fs) H) vs ds) : OpdM K H vs ds L := by
  obtain ⟨fs, nd, r⟩ := h
  exact ⟨fs, nd, r, hm fs r⟩
theorem OpdM.right {vs : List V} {ds : List D} (h : OpdM K H vs ds (L1 ++ L2)) : OpdM K H vs ds L2 := by
  obtain ⟨fs, nd, r, o⟩ := h
  obtain ⟨f1, f2, rfl, _, r2⟩ := r.split
  have k : Kp (· ∈ f1 ++ f2) (· ∈ f2) H H := Kp.less fun a z => List.mem_append_right _ z
  exact ⟨f2, (List.nodup_append.mp nd).2.1, r2.kp k fun _ _ => rfl, paired_imp (fun _ _ q => q.kp k fun _ _ _ e => e) o⟩
theorem Opd.live {vs : List V} {ds : List D} (h : Opd K H vs ds L) : Live K H L := let ⟨fs, nd, r, _⟩ := h; ⟨fs, nd, r⟩
/-- a frozen value beside the live ones -/
theorem Opd.fz {vs : List V} {ds : List D} {v : V} {d : D} (h : Opd K H vs ds L) (hr : ∀ F, Paired (RelO K F H) vs ds → RelD K F H v d) : Live K H ((v, .fz d) :: L) := by
  obtain ⟨fs, nd, r, o⟩ := h
  exact ⟨fs, nd, .cons (f := []) (.fz (hr _ o)) r⟩
theorem Opd.same {vs : List V} {ds : List D} (h : Opd K H vs ds L) (s : Same H H') : Opd K H' vs ds L := by
  obtain ⟨fs, nd, r, o⟩ := h
  exact ⟨fs, nd, r.kp (Kp.same s) fun a q => by obtain ⟨xs, e⟩ := r.owned a q; rw [e, s _ _ e], paired_imp (fun _ _ q => q.kp (Kp.same s) fun a xs _ e => s _ _ e) o⟩
theorem Live.same (h : Live K H L) (s : Same H H') : Live K H' L := by
  obtain ⟨fs, nd, r⟩ := h
  exact ⟨fs, nd, r.kp (Kp.same s) fun a q => by obtain ⟨xs, e⟩ := r.owned a q; rw [e, s _ _ e]⟩
theorem same_new {p : Addr} {o : HO} (hp : H p = Option.none) : Same H (upd H p o) := fun b u e => by
  rw [upd_ne (ne_of_none e hp)]; exact e
/-- a new tuple of frozen items -/
theorem Opd.tup {vs ws : List V} {ds es : List D} {p : Addr} (h : Opd K H vs ds L) (hp : H p = Option.none) (hr : ∀ F, Paired (RelO K F H) vs ds → RelDs K F H ws es) : Live K (upd H p (.tup ws)) ((.ref p, .fz (.tuple es)) :: L) := by
  obtain ⟨fs, nd, r, o⟩ := h
  have np : p ∉ fs := fun q => by obtain ⟨xs, e⟩ := r.owned p q; rw [hp] at e; cases e
  have k : Kp (· ∈ fs) (· ∈ fs) H (upd H p (.tup ws)) := Kp.new hp fun a q => .inl q
  have ko : ∀ a ∈ fs, upd H p (.tup ws) a = H a := fun a q => upd_ne fun z => np (z ▸ q)
  exact ⟨fs, nd, .cons (f := []) (.fz (.tup (.inl ⟨.inl upd_same, np⟩) (RelDs.kp k _ _ (hr _ o)))) (r.kp k ko)⟩
/-- a new list, owned by who gets it -/
theorem Opd.lst {vs ws : List V} {ds es : List D} {p : Addr} (h : Opd K H vs ds L) (hp : H p = Option.none) (hr : ∀ F, Paired (RelO K F H) vs ds → RelDs K F H ws es) : Live K (upd H p (.lst ws)) ((.ref p, .ol es) :: L) := by
  obtain ⟨fs, nd, r, o⟩ := h
  have np : p ∉ fs := fun q => by obtain ⟨xs, e⟩ := r.owned p q; rw [hp] at e; cases e
  have k : Kp (· ∈ fs) (· ∈ p :: fs) H (upd H p (.lst ws)) := Kp.new hp fun a q => (List.mem_cons.mp q).elim .inr .inl
  have ko : ∀ a ∈ fs, upd H p (.lst ws) a = H a := fun a q => upd_ne fun z => np (z ▸ q)
  exact ⟨p :: fs, List.nodup_cons.mpr ⟨np, nd⟩, .cons (f := [p]) (.ol upd_same (RelDs.kp k _ _ (hr _ o))) (r.kp k ko)⟩
/-- an owned list is written -/
theorem Live.write {a : Addr} {ds es ds' : List D} {ws : List V} (h : Live K H ((.ref a, .ol ds) :: (ws.zip (es.map Vl.fz) ++ L))) (hl : ws.length = es.length) :
    ∃ xs, H a = some (.lst xs) ∧ xs.length = ds.length ∧ ∀ xs', (∀ F, RelDs K F H xs ds → RelDs K F H ws es → RelDs K F H xs' ds') → Live K (upd H a (.lst xs')) ((.ref a, .ol ds') :: L) := by
  obtain ⟨fs, nd, r⟩ := h
  cases r with
  | @cons _ _ _ f gs h1 h2 =>
    cases h1 with
    | @ol _ xs _ e1 e2 =>
      obtain ⟨g1, g2, rfl, r1, r2⟩ := h2.split
      have rw' : ∀ (ws : List V) (es : List D) (g : List Addr), ws.length = es.length → LRel K (· ∈ [a] ++ (g1 ++ g2)) H (ws.zip (es.map Vl.fz)) g → RelDs K (· ∈ [a] ++ (g1 ++ g2)) H ws es := by
        intro ws
        induction ws with
        | nil => intro es g e _; cases es with
          | nil => exact .nil
          | cons _ _ => cases e
        | cons w ws ih =>
          intro es g e q
          cases es with
          | nil => cases e
          | cons d es =>
            cases q with
            | cons q1 q2 =>
              cases q1 with
              | fz q1 => exact .cons q1 (ih es _ (by simpa using e) q2)
      refine ⟨xs, e1, e2.length, fun xs' hr => ?_⟩
      have nda : a ∉ g1 ++ g2 := (List.nodup_cons.mp nd).1
      have k : Kp (· ∈ [a] ++ (g1 ++ g2)) (· ∈ a :: g2) H (upd H a (.lst xs')) := Kp.write (List.mem_cons_self) fun b q => by
        have q : b ∈ a :: g2 := q
        rcases List.mem_cons.mp q with rfl | q
        · exact List.mem_cons_self
        · exact List.mem_append_right [a] (List.mem_append_right g1 q)
      refine ⟨a :: g2, List.nodup_cons.mpr ⟨fun q => nda (List.mem_append_right _ q), (List.nodup_append.mp (show (g1 ++ g2).Nodup from (List.nodup_cons.mp nd).2)).2.1⟩, .cons (f := [a]) (.ol upd_same (RelDs.kp k _ _ (hr _ e2 (rw' ws es _ hl r1)))) (r2.kp k fun b q => upd_ne ?_)⟩
      rintro rfl
      exact nda (List.mem_append_right _ q)
/-- a new dict, owned by who gets it -/
theorem Opd.dct {vs : List V} {ds : List D} {o : Obj} {kvs : List (D × D)} {ks ws : List V} {p : Addr} (h : Opd K H vs ds L) (hp : H p = Option.none) (low : (p == sysModules) = false) (is_ : DOf o kvs ks ws) (nd' : (kvs.map fun p => nk p.1).Nodup)
    (hr : ∀ F, Paired (RelO K F H) vs ds → RelDs K F H ks (kvs.map Prod.fst) ∧ RelDs K F H ws (kvs.map Prod.snd)) : Live K (upd H p (DcO p o)) ((.ref p, .od kvs) :: L) := by
  obtain ⟨fs, nd, r, q⟩ := h
  have np : p ∉ fs := fun q => by obtain ⟨xs, e⟩ := r.owned p q; rw [hp] at e; cases e
  have k : Kp (· ∈ fs) (· ∈ p :: fs) H (upd H p (DcO p o)) := Kp.new hp fun a q => (List.mem_cons.mp q).elim .inr .inl
  have ko : ∀ a ∈ fs, upd H p (DcO p o) a = H a := fun a q => upd_ne fun z => np (z ▸ q)
  obtain ⟨h1, h2⟩ := hr _ q
  exact ⟨p :: fs, List.nodup_cons.mpr ⟨np, nd⟩, .cons (f := [p]) (.od ⟨upd_same, low, is_, nd'⟩ (RelDs.kp k _ _ h1) (RelDs.kp k _ _ h2)) (r.kp k ko)⟩
/-- an owned dict is written -/
theorem Live.dwrite {a : Addr} {kvs kvs' : List (D × D)} {es : List D} {ws : List V} (h : Live K H ((.ref a, .od kvs) :: (ws.zip (es.map Vl.fz) ++ L))) (hl : ws.length = es.length) :
    ∃ o ks vs, DAt H a o kvs ks vs ∧ (∃ F, RelDs K F H ks (kvs.map Prod.fst) ∧ RelDs K F H vs (kvs.map Prod.snd) ∧ RelDs K F H ws es) ∧ ∀ o' ks' vs', DOf o' kvs' ks' vs' → (kvs'.map fun p => nk p.1).Nodup →
      (∀ F, RelDs K F H ks (kvs.map Prod.fst) → RelDs K F H vs (kvs.map Prod.snd) → RelDs K F H ws es → RelDs K F H ks' (kvs'.map Prod.fst) ∧ RelDs K F H vs' (kvs'.map Prod.snd)) →
      Live K (upd H a (DcO a o')) ((.ref a, .od kvs') :: L) := by
  obtain ⟨fs, nd, r⟩ := h
  cases r with
  | @cons _ _ _ f gs h1 h2 =>
    cases h1 with
    | @od _ o _ ks vs e1 e2 e3 =>
      obtain ⟨g1, g2, rfl, r1, r2⟩ := h2.split
      have rw' : ∀ (ws : List V) (es : List D) (g : List Addr), ws.length = es.length → LRel K (· ∈ [a] ++ (g1 ++ g2)) H (ws.zip (es.map Vl.fz)) g → RelDs K (· ∈ [a] ++ (g1 ++ g2)) H ws es := by
        intro ws
        induction ws with
        | nil => intro es g e _; cases es with
          | nil => exact .nil
          | cons _ _ => cases e
        | cons w ws ih =>
          intro es g e q
          cases es with
          | nil => cases e
          | cons d es =>
            cases q with
            | cons q1 q2 =>
              cases q1 with
              | fz q1 => exact .cons q1 (ih es _ (by simpa using e) q2)
      refine ⟨o, ks, vs, e1, ⟨_, e2, e3, rw' ws es _ hl r1⟩, fun o' ks' vs' hd hnd hr => ?_⟩
      have nda : a ∉ g1 ++ g2 := (List.nodup_cons.mp nd).1
      have k : Kp (· ∈ [a] ++ (g1 ++ g2)) (· ∈ a :: g2) H (upd H a (DcO a o')) := Kp.write (List.mem_cons_self) fun b q => by
        have q : b ∈ a :: g2 := q
        rcases List.mem_cons.mp q with rfl | q
        · exact List.mem_cons_self
        · exact List.mem_append_right [a] (List.mem_append_right g1 q)
      obtain ⟨q1, q2⟩ := hr _ e2 e3 (rw' ws es _ hl r1)
      refine ⟨a :: g2, List.nodup_cons.mpr ⟨fun q => nda (List.mem_append_right _ q), (List.nodup_append.mp (show (g1 ++ g2).Nodup from (List.nodup_cons.mp nd).2)).2.1⟩, .cons (f := [a]) (.od ⟨upd_same, e1.low, hd, hnd⟩ (RelDs.kp k _ _ q1) (RelDs.kp k _ _ q2)) (r2.kp k fun b q => upd_ne ?_)⟩
      rintro rfl
      exact nda (List.mem_append_right _ q)
/-- what is owned is frozen from now on -/
theorem RelX.freeze {v : V} {x : Vl} {f fs : List Addr} (h : RelX K (· ∈ fs) H v x f) (hp : x.own = true) (gs : List Addr) (hg : ∀ a ∈ gs, a ∈ fs) (hn : ∀ a ∈ f, a ∉ gs) : RelD K (· ∈ gs) H v x.strip := by
  have k : Kp (· ∈ fs) (· ∈ gs) H H := Kp.less hg
  cases h with
  | fz h => exact RelD.kp k _ _ h
  | ol h1 h2 => exact .lst ⟨h1, hn _ List.mem_cons_self⟩ (RelDs.kp k _ _ h2)
  | @oo a xs dss g h1 h2 =>
    refine .lst ⟨h1, hn _ List.mem_cons_self⟩ ?_
    have hn' : ∀ b : Addr, b ∈ g → b ∉ gs := fun b q => hn b (List.mem_cons_of_mem _ q)
    clear h1 hn hp
    induction h2 with
    | nil => exact .nil
    | cons q1 q2 _ ih => exact .cons (.lst ⟨q1, hn' _ List.mem_cons_self⟩ (RelDs.kp k _ _ q2)) (ih fun (b : Addr) q => hn' b (List.mem_cons_of_mem _ q))
  | od h1 h2 h3 => exact .dct h1 (hn _ List.mem_cons_self) (RelDs.kp k _ _ h2) (RelDs.kp k _ _ h3)
  | pinD _ _ => cases hp
  | pinL _ => cases hp
  | pinT _ => cases hp
  | scr _ => cases hp
theorem Live.freeze {v : V} {x : Vl} (h : Live K H ((v, x) :: L)) (hp : x.own = true) : Live K H ((v, .fz x.strip) :: L) := by
  obtain ⟨fs, nd, r⟩ := h
  cases r with
  | @cons _ _ _ f gs h1 h2 =>
    have nd' := List.nodup_append.mp nd
    refine ⟨gs, nd'.2.1, .cons (f := []) (.fz (h1.freeze hp gs (fun a q => List.mem_append_right _ q) fun a q z => nd'.2.2 a q a z rfl)) (h2.kp (Kp.less fun a q => List.mem_append_right _ q) fun _ _ => rfl)⟩
theorem Live.dup {v : V} {d : D} (h : Live K H ((v, .fz d) :: L)) : Live K H ((v, .fz d) :: (v, .fz d) :: L) := by
  obtain ⟨fs, nd, r⟩ := h
  cases r with
  | @cons _ _ _ f gs h1 h2 =>
    cases h1 with
    | fz h1 => exact ⟨gs, nd, .cons (f := []) (.fz h1) (.cons (f := []) (.fz h1) h2)⟩
/-- scalars need nothing -/
def scalD : D → Option V
  | .none => some .non
  | .bool b => some (.bl b)
  | .int i => some (.int i)
  | .str x => some (.str x)
  | _ => Option.none
theorem scal_rel {d : D} {v : V} (e : scalD d = some v) : RelD K F H v d := by
  cases d <;> cases e <;> constructor
theorem Live.scal {d : D} {v : V} (h : Live K H L) (e : scalD d = some v) : Live K H ((v, .fz d) :: L) := by
  obtain ⟨fs, nd, r⟩ := h
  exact ⟨fs, nd, .cons (f := []) (.fz (scal_rel e)) r⟩
/-- a frozen list by its exact items -/
theorem Live.pinL {v : V} {ds : List D} (h : Live K H ((v, .fz (.list ds)) :: L)) : ∃ a xs, v = .ref a ∧ xs.length = ds.length ∧ Live K H ((.ref a, .pinL xs) :: (xs.zip (ds.map Vl.fz) ++ L)) := by
  obtain ⟨fs, nd, r⟩ := h
  cases r with
  | @cons _ _ _ f gs h1 h2 =>
    cases h1 with
    | fz h1 =>
      cases h1 with
      | @lst a xs _ q1 q2 =>
        refine ⟨a, xs, rfl, q2.length, gs, nd, .cons (f := []) (.pinL q1) ?_⟩
        have : ∀ (xs : List V) (ds : List D), RelDs K (· ∈ gs) H xs ds → LRel K (· ∈ gs) H (xs.zip (ds.map Vl.fz) ++ L) gs := by
          intro xs
          induction xs with
          | nil => intro ds q; cases q; exact h2
          | cons v xs ih => intro ds q; cases q with
            | cons q1 q2 => exact .cons (f := []) (.fz q1) (ih _ q2)
        exact this xs ds q2
theorem Live.pinT {v : V} {ds : List D} (h : Live K H ((v, .fz (.tuple ds)) :: L)) : ∃ a xs, v = .ref a ∧ xs.length = ds.length ∧ Live K H ((.ref a, .pinT xs) :: (xs.zip (ds.map Vl.fz) ++ L)) := by
  obtain ⟨fs, nd, r⟩ := h
  cases r with
  | @cons _ _ _ f gs h1 h2 =>
    cases h1 with
    | fz h1 =>
      cases h1 with
      | @tup a xs _ q1 q2 =>
        refine ⟨a, xs, rfl, q2.length, gs, nd, .cons (f := []) (.pinT q1) ?_⟩
        have : ∀ (xs : List V) (ds : List D), RelDs K (· ∈ gs) H xs ds → LRel K (· ∈ gs) H (xs.zip (ds.map Vl.fz) ++ L) gs := by
          intro xs
          induction xs with
          | nil => intro ds q; cases q; exact h2
          | cons v xs ih => intro ds q; cases q with
            | cons q1 q2 => exact .cons (f := []) (.fz q1) (ih _ q2)
        exact this xs ds q2
theorem relDs_lrel {F : Addr → Prop} {gs : List Addr} {L : List (V × Vl)} (h2 : LRel K F H L gs) : ∀ {xs : List V} {ds : List D}, RelDs K F H xs ds → LRel K F H (xs.zip (ds.map Vl.fz) ++ L) gs
  | _, _, .nil => h2
  | _, _, .cons q1 q2 => .cons (f := []) (.fz q1) (relDs_lrel h2 q2)
theorem Live.pinD {v : V} {kvs : List (D × D)} (h : Live K H ((v, .fz (.dict kvs)) :: L)) : ∃ a o ks vs, v = .ref a ∧ ks.length = kvs.length ∧ vs.length = kvs.length ∧
    Live K H ((.ref a, .pinD o kvs ks vs) :: (ks.zip ((kvs.map Prod.fst).map Vl.fz) ++ (vs.zip ((kvs.map Prod.snd).map Vl.fz) ++ L))) := by
  obtain ⟨fs, nd, r⟩ := h
  cases r with
  | @cons _ _ _ f gs h1 h2 =>
    cases h1 with
    | fz h1 =>
      cases h1 with
      | @dct a o _ ks vs q1 n q2 q3 =>
        refine ⟨a, o, ks, vs, rfl, by rw [RelDs.length q2, List.length_map], by rw [RelDs.length q3, List.length_map], gs, nd, .cons (f := []) (.pinD q1 n) (relDs_lrel (relDs_lrel h2 q3) q2)⟩
theorem Live.pinnedD {a : Addr} {o : Obj} {kvs : List (D × D)} {ks vs : List V} (h : Live K H L) (m : (.ref a, .pinD o kvs ks vs) ∈ L) : DAt H a o kvs ks vs := by
  obtain ⟨fs, _, r⟩ := h
  obtain ⟨f, q⟩ := r.mem m
  cases q with
  | pinD q _ => exact q
theorem Live.pinnedL {a : Addr} {xs : List V} (h : Live K H L) (m : (.ref a, .pinL xs) ∈ L) : SqL K H a xs := by
  obtain ⟨fs, _, r⟩ := h
  obtain ⟨f, q⟩ := r.mem m
  cases q with
  | pinL q => exact q.sq
theorem Live.pinnedT {a : Addr} {xs : List V} (h : Live K H L) (m : (.ref a, .pinT xs) ∈ L) : SqT K H a xs := by
  obtain ⟨fs, _, r⟩ := h
  obtain ⟨f, q⟩ := r.mem m
  cases q with
  | pinT q => exact q.sq
/-- a frozen value stands once more -/
theorem Live.again {v : V} {d : D} (h : Live K H L) (m : (v, .fz d) ∈ L) : Live K H ((v, .fz d) :: L) := by
  obtain ⟨fs, nd, r⟩ := h
  obtain ⟨f, q⟩ := r.mem m
  cases q with
  | fz q => exact ⟨fs, nd, .cons (f := []) (.fz q) r⟩
end
end Tr

set_option Elab.async false
set_option linter.all false
set_option maxRecDepth 100000
/-! Frames and the layer's slots; readings of the interpreter's answers. -/
namespace Tr
abbrev St := L2.St
open PySem PySem.Spec PyProof.Rows L2

def slots : St → Fm → List (V × Vl)
  | some v :: σ, some x :: fr => (v, x) :: slots σ fr
  | _ :: σ, _ :: fr => slots σ fr
  | _, _ => []
structure SlOk (σ : St) (fr : Fm) : Prop where
  len : σ.length = fr.length
  has : ∀ (i : Nat) (x : Vl), fr[i]? = some (some x) → ∃ v, σ[i]? = some (some v)

theorem slots_none : ∀ {σ : St} {fr : Fm} {i : Nat}, fr[i]? = some none → slots σ (fr.set i none) = slots σ fr
  | [], _, _, _ => by simp [slots]
  | _ :: _, [], _, e => by simp at e
  | a :: σ, b :: fr, 0, e => by simp at e; subst e; rfl
  | a :: σ, b :: fr, i + 1, e => by
    have ih := slots_none (σ := σ) (fr := fr) (i := i) (by simpa using e)
    rw [List.set_cons_succ]
    cases a <;> cases b <;> simp only [slots, ih]
theorem slots_out : ∀ {σ : St} {fr : Fm} {i : Nat} (o : Option V), slots (σ.set i o) (fr.set i none) = slots σ (fr.set i none)
  | [], _, _, _ => by simp [slots]
  | _ :: _, [], _, _ => by simp [slots]
  | a :: σ, b :: fr, 0, o => by
    rw [List.set_cons_zero, List.set_cons_zero]
    cases a <;> cases o <;> simp only [slots]
  | a :: σ, b :: fr, i + 1, o => by
    have ih := slots_out (σ := σ) (fr := fr) (i := i) o
    rw [List.set_cons_succ, List.set_cons_succ]
    cases a <;> cases b <;> simp only [slots, ih]
theorem slots_at : ∀ {σ : St} {fr : Fm} {i : Nat} {v : V} {x : Vl}, σ[i]? = some (some v) → fr[i]? = some (some x) → (slots σ fr).Perm ((v, x) :: slots σ (fr.set i none))
  | [], _, _, _, _, e, _ => by simp at e
  | _ :: _, [], _, _, _, _, e => by simp at e
  | a :: σ, b :: fr, 0, v, x, e, e' => by
    simp at e e'; subst e; subst e'
    rw [List.set_cons_zero]
    exact List.Perm.refl _
  | a :: σ, b :: fr, i + 1, v, x, e, e' => by
    have ih := slots_at (σ := σ) (fr := fr) (i := i) (v := v) (x := x) (by simpa using e) (by simpa using e')
    rw [List.set_cons_succ]
    cases a with
    | none => cases b <;> simpa only [slots] using ih
    | some u => cases b with
      | none => simpa only [slots] using ih
      | some y =>
        simp only [slots]
        exact (ih.cons _).trans (List.Perm.swap _ _ _)
theorem slots_set {σ : St} {fr : Fm} {i : Nat} {v : V} {x : Vl} (h : σ.length = fr.length) (hi : i < fr.length) : (slots (σ.set i (some v)) (fr.set i (some x))).Perm ((v, x) :: slots σ (fr.set i none)) := by
  have := slots_at (σ := σ.set i (some v)) (fr := fr.set i (some x)) (i := i) (v := v) (x := x) (by rw [List.getElem?_set_self (by omega)]) (by rw [List.getElem?_set_self hi])
  rw [List.set_set] at this
  rwa [slots_out] at this
theorem slots_put {σ : St} {fr : Fm} {i : Nat} {v : V} {x : Vl} (e : σ[i]? = some (some v)) (hi : i < fr.length) : (slots σ (fr.set i (some x))).Perm ((v, x) :: slots σ (fr.set i none)) := by
  have := slots_at (σ := σ) (fr := fr.set i (some x)) (i := i) (v := v) (x := x) e (by rw [List.getElem?_set_self hi])
  rwa [List.set_set] at this
theorem slots_mem {v : V} {x : Vl} {σ : St} {fr : Fm} {i : Nat} (e : σ[i]? = some (some v)) (e' : fr[i]? = some (some x)) : (v, x) ∈ slots σ fr := (slots_at e e').mem_iff.mpr List.mem_cons_self
theorem SlOk.get {σ : St} {fr : Fm} {i : Nat} {x : Vl} (h : SlOk σ fr) (e : fr[i]? = some (some x)) : ∃ v, σ[i]? = some (some v) ∧ (slots σ fr).Perm ((v, x) :: slots σ (fr.set i none)) := by
  obtain ⟨v, q⟩ := h.has i x e
  exact ⟨v, q, slots_at q e⟩
theorem SlOk.drop {σ : St} {fr : Fm} (h : SlOk σ fr) (i : Nat) : SlOk σ (fr.set i none) := by
  refine ⟨by rw [List.length_set]; exact h.len, fun j x e => ?_⟩
  by_cases hj : i = j
  · subst hj
    by_cases hi : i < fr.length
    · rw [List.getElem?_set_self hi] at e; cases e
    · rw [List.getElem?_eq_none (by rw [List.length_set]; omega)] at e; cases e
  · rw [List.getElem?_set_ne hj] at e
    exact h.has j x e
theorem SlOk.put {σ : St} {fr : Fm} {i : Nat} {v : V} {x : Vl} (h : SlOk σ fr) (e : σ[i]? = some (some v)) : SlOk σ (fr.set i (some x)) := by
  refine ⟨by rw [List.length_set]; exact h.len, fun j y q => ?_⟩
  by_cases hj : i = j
  · subst hj; exact ⟨v, e⟩
  · rw [List.getElem?_set_ne hj] at q
    exact h.has j y q
theorem SlOk.set {σ : St} {fr : Fm} {i : Nat} {v : V} {x : Vl} (h : SlOk σ fr) (hi : i < fr.length) : SlOk (σ.set i (some v)) (fr.set i (some x)) := by
  refine ⟨by rw [List.length_set, List.length_set]; exact h.len, fun j y q => ?_⟩
  by_cases hj : i = j
  · subst hj; exact ⟨v, by rw [List.getElem?_set_self (by have := h.len; omega)]⟩
  · rw [List.getElem?_set_ne hj] at q ⊢
    exact h.has j y q

/-! ### operands that wait -/
def pit : List V → List Pd → List (V × Vl)
  | v :: vs, .st x :: ps => (v, x) :: pit vs ps
  | _ :: vs, .sl _ :: ps => pit vs ps
  | _, _ => []
def PdOk (σ : St) (v : V) : Pd → Prop
  | .sl i => σ[i]? = some (some v)
  | .st _ => True
abbrev pok (σ : St) : List V → List Pd → Prop := Paired (PdOk σ)
theorem pit_append : ∀ {vs : List V} {ps : List Pd} {ws : List V} {qs : List Pd}, vs.length = ps.length → pit (vs ++ ws) (ps ++ qs) = pit vs ps ++ pit ws qs
  | [], [], _, _, _ => by simp [pit]
  | [], _ :: _, _, _, e => by cases e
  | _ :: _, [], _, _, e => by cases e
  | v :: vs, p :: ps, ws, qs, e => by
    have ih := pit_append (vs := vs) (ps := ps) (ws := ws) (qs := qs) (by simpa using e)
    cases p <;> simp [pit, ih]
def Hold (K : PySem.W.Frag) (σ : St) (fr : Fm) (H : Hp) (vs : List V) (ps : List Pd) (L : List (V × Vl)) : Prop :=
  pok σ vs ps ∧ Live K H (pit vs ps ++ (slots σ fr ++ L))
section
variable {K : PySem.W.Frag} {σ : St} {fr fr' : Fm} {H H' : Hp} {L : List (V × Vl)} {vs ws : List V} {ps qs : List Pd} {ds : List D}
theorem pok_length (h : pok σ vs ps) : vs.length = ps.length := Paired.length h
theorem perm_mid {α : Type} (A B C : List α) : (A ++ (B ++ C)).Perm (B ++ (A ++ C)) := by
  rw [← List.append_assoc, ← List.append_assoc]
  exact List.Perm.append_right _ List.perm_append_comm
/-- the waiting operands among the rest -/
theorem Hold.aside (h : Hold K σ fr H vs ps L) : Live K H (slots σ fr ++ (pit vs ps ++ L)) := h.2.perm (perm_mid _ _ _)
theorem Hold.more (p1 : pok σ vs ps) (h : Hold K σ fr H ws qs (pit vs ps ++ L)) : Hold K σ fr H (vs ++ ws) (ps ++ qs) L := by
  obtain ⟨p2, l⟩ := h
  refine ⟨?_, ?_⟩
  · clear l
    induction p1 with
    | nil => exact p2
    | cons r _ ih => exact .cons r ih
  · rw [pit_append (pok_length p1)]
    refine l.perm ?_
    rw [List.append_assoc]
    refine (List.Perm.append_left _ (perm_mid _ _ _)).trans ?_
    exact perm_mid _ _ _
theorem look_mem {v : V} {p : Pd} {d : D} {A : List (V × Vl)} (hp : PdOk σ v p) (e : look fr p = some d) (hs : ∀ x, p = .st x → (v, x) ∈ A) : ∃ x, (v, x) ∈ A ++ (slots σ fr ++ L) ∧ x.flat = some d := by
  cases p with
  | sl i =>
    simp only [look] at e
    split at e
    · rename_i x q
      exact ⟨x, List.mem_append_right _ (List.mem_append_left _ (slots_mem hp q)), e⟩
    · cases e
  | st x => exact ⟨x, List.mem_append_left _ (hs x rfl), e⟩
theorem Hold.looks (h : Hold K σ fr H vs ps L) (e : looks fr ps = some ds) : Opd K H vs ds (slots σ fr ++ L) := by
  obtain ⟨p, l⟩ := h
  refine Opd.right (L1 := pit vs ps) (Opd.mk l fun fs r => ?_)
  have key : ∀ (A : List (V × Vl)), LRel K (· ∈ fs) H (A ++ (slots σ fr ++ L)) fs → ∀ {vs : List V} {ps : List Pd} {ds : List D}, pok σ vs ps → Tr.looks fr ps = some ds → (∀ q ∈ pit vs ps, q ∈ A) → Paired (RelO K (· ∈ fs) H) vs ds := by
    intro A r vs ps ds p
    induction p generalizing ds with
    | nil => intro e _; cases e; exact .nil
    | @cons v q vs ps h1 _ ih =>
      intro e hA
      unfold Tr.looks at e
      cases e1 : look fr q with
      | none => rw [e1] at e; cases e
      | some d =>
        rw [e1] at e
        cases e2 : Tr.looks fr ps with
        | none => rw [Option.bind_some, e2] at e; cases e
        | some ds' =>
          rw [Option.bind_some, e2] at e
          cases e
          obtain ⟨x, m, fl⟩ := look_mem (L := L) (A := A) h1 e1 fun x ex => hA _ (by subst ex; exact List.mem_cons_self)
          obtain ⟨f, rx⟩ := r.mem m
          refine .cons (rx.flat fl) (ih e2 fun z hz => hA z ?_)
          cases q with
          | sl _ => exact hz
          | st _ => exact List.mem_cons_of_mem _ hz
  exact key _ r p e fun q hq => hq
theorem lookM_mem {v : V} {p : Pd} {d : D} {A : List (V × Vl)} (hp : PdOk σ v p) (e : lookM fr p = some d) (hs : ∀ x, p = .st x → (v, x) ∈ A) : ∃ x, (v, x) ∈ A ++ (slots σ fr ++ L) ∧ x.flatM = some d := by
  cases p with
  | sl i =>
    simp only [lookM] at e
    split at e
    · rename_i x q
      exact ⟨x, List.mem_append_right _ (List.mem_append_left _ (slots_mem hp q)), e⟩
    · cases e
  | st x => exact ⟨x, List.mem_append_left _ (hs x rfl), e⟩
theorem Hold.lookM2 {v w : V} {p q : Pd} {d e : D} (h : Hold K σ fr H [v, w] [p, q] L) (e1 : lookM fr p = some d) (e2 : lookM fr q = some e) : OpdM K H [v, w] [d, e] (slots σ fr ++ L) := by
  obtain ⟨pk, l⟩ := h
  refine OpdM.right (L1 := pit [v, w] [p, q]) (OpdM.mk l fun fs r => ?_)
  cases pk with
  | cons h1 h2 =>
    cases h2 with
    | cons h2 _ =>
      obtain ⟨x, m, fl⟩ := lookM_mem (L := L) (A := pit [v, w] [p, q]) h1 e1 fun x ex => by subst ex; exact List.mem_cons_self
      obtain ⟨f, rx⟩ := r.mem m
      obtain ⟨y, m2, fl2⟩ := lookM_mem (L := L) (A := pit [v, w] [p, q]) h2 e2 fun x ex => by
        subst ex
        cases p with
        | sl _ => exact List.mem_cons_self
        | st _ => exact List.mem_cons_of_mem _ List.mem_cons_self
      obtain ⟨f2, rx2⟩ := r.mem m2
      exact .cons (rx.flatM fl) (.cons (rx2.flatM fl2) .nil)
theorem looks_one {p : Pd} {d : D} (e : look fr p = some d) : looks fr [p] = some [d] := by
  simp [looks, e]
theorem looks_two {p q : Pd} {d e : D} (h1 : look fr p = some d) (h2 : look fr q = some e) : looks fr [p, q] = some [d, e] := by
  simp [looks, h1, h2]
theorem Hold.live (h : Hold K σ fr H vs ps L) : Live K H (slots σ fr ++ L) := h.2.right
/-- handed on -/
theorem Hold.force {v : V} {p : Pd} {x : Vl} (ok : SlOk σ fr) (h : Hold K σ fr H [v] [p] L) (e : Tr.force p fr = some (x, fr')) : SlOk σ fr' ∧ Live K H ((v, x) :: (slots σ fr' ++ L)) := by
  obtain ⟨p1, l⟩ := h
  cases p1 with
  | cons hp _ =>
    cases p with
    | st y =>
      simp only [Tr.force] at e
      split at e
      · cases e; exact ⟨ok, l⟩
      · cases e
    | sl i =>
      have hp : σ[i]? = some (some v) := hp
      have l : Live K H (slots σ fr ++ L) := l
      have go : ∀ (y : Vl), fr[i]? = some (some y) → y.own = true → SlOk σ (fr.set i (some (.fz y.strip))) ∧ Live K H ((v, .fz y.strip) :: (slots σ (fr.set i (some (.fz y.strip))) ++ L)) := fun y q np => by
        refine ⟨ok.put hp, ?_⟩
        have hi : i < fr.length := (List.getElem?_eq_some_iff.mp q).1
        have l1 : Live K H ((v, y) :: (slots σ (fr.set i none) ++ L)) := l.perm (List.Perm.append_right _ (slots_at hp q))
        refine ((l1.freeze np).dup).perm (List.Perm.cons _ ?_)
        exact (List.Perm.append_right L (slots_put (x := .fz y.strip) hp hi)).symm
      simp only [Tr.force] at e
      split at e
      · rename_i d q
        cases e
        refine ⟨ok, ?_⟩
        have l1 : Live K H ((v, .fz d) :: (slots σ (fr.set i none) ++ L)) := l.perm (List.Perm.append_right _ (slots_at hp q))
        exact l1.dup.perm (List.Perm.cons _ (List.Perm.append_right L (slots_at hp q)).symm)
      · rename_i ds q; cases e; exact go _ q rfl
      · rename_i ds q; cases e; exact go _ q rfl
      · rename_i ds q; cases e; exact go _ q rfl
      · cases e

theorem force_own {p : Pd} {x : Vl} (e : Tr.force p fr = some (x, fr')) : x.own = true := by
  cases p with
  | st y =>
    simp only [Tr.force] at e
    split at e
    · rename_i c; cases e; exact c
    · cases e
  | sl i =>
    simp only [Tr.force] at e
    split at e <;> cases e <;> rfl

/-! ### readings -/
def tPs (K : PySem.W.Frag) (f : Fm → R (List Pd)) : TA := fun σ H Q => ∃ fr L ps fr', SlOk σ fr ∧ Live K H (slots σ fr ++ L) ∧ f fr = some (ps, fr') ∧
  ∀ vs H', SlOk σ fr' → Hold K σ fr' H' vs ps L → Q vs H'
def tP (K : PySem.W.Frag) (f : Fm → R Pd) : TE := fun σ H Q => ∃ fr L p fr', SlOk σ fr ∧ Live K H (slots σ fr ++ L) ∧ f fr = some (p, fr') ∧
  ∀ v H', SlOk σ fr' → Hold K σ fr' H' [v] [p] L → Q v H'
def tX (K : PySem.W.Frag) (f : Fm → R Vl) : TE := fun σ H Q => ∃ fr L x fr', SlOk σ fr ∧ Live K H (slots σ fr ++ L) ∧ f fr = some (x, fr') ∧
  ∀ v H', SlOk σ fr' → Live K H' ((v, x) :: (slots σ fr' ++ L)) → Q v H'
def tXs (K : PySem.W.Frag) (f : Fm → R (List Vl)) : TA := fun σ H Q => ∃ fr L xs fr', SlOk σ fr ∧ Live K H (slots σ fr ++ L) ∧ f fr = some (xs, fr') ∧
  ∀ vs H', SlOk σ fr' → vs.length = xs.length → Live K H' (vs.zip xs ++ (slots σ fr' ++ L)) → Q vs H'
def tB' (K : PySem.W.Frag) (f : Fm → R Bool) : TT := fun σ H Q => ∃ fr L b fr', SlOk σ fr ∧ Live K H (slots σ fr ++ L) ∧ f fr = some (b, fr') ∧
  ∀ H', SlOk σ fr' → Live K H' (slots σ fr' ++ L) → Q b H'
/-- the value that an operand is, handed on -/
def fo (f : Fm → R Pd) : Fm → R Vl := fun fr => (f fr).bind fun p => force p.1 p.2
theorem tP_of_tX {f : Fm → R Pd} {Q : VK} (h : tX K (fo f) σ H Q) : tP K f σ H Q := by
  obtain ⟨fr, L, x, fr', ok, l, e, q⟩ := h
  unfold fo at e
  cases e1 : f fr with
  | none => rw [e1] at e; cases e
  | some r =>
    rw [e1] at e
    refine ⟨fr, L, r.1, r.2, ok, l, e1, fun v H' ok' h' => ?_⟩
    obtain ⟨ok2, l2⟩ := h'.force ok' e
    exact q v H' ok2 l2
end
section
variable {X : Cx} {e : Expr} {es : List Expr}
theorem pe_mono {t t' : TE} (h : PE X e t) (m : ∀ σ H Q, t' σ H Q → t σ H Q) : PE X e t' := ⟨fun pins s σ H Q hI hq => h.run pins s σ H Q hI (m σ H Q hq)⟩
theorem pa_mono {t t' : TA} (h : PA X es t) (m : ∀ σ H Q, t' σ H Q → t σ H Q) : PA X es t' := ⟨fun pos pins s σ H Q hI hq => h.run pos pins s σ H Q hI (m σ H Q hq)⟩
theorem pt_mono {t t' : TT} (h : PT X e t) (m : ∀ σ H Q, t' σ H Q → t σ H Q) : PT X e t' := ⟨fun pins s σ H Q hI hq => h.run pins s σ H Q hI (m σ H Q hq)⟩
theorem pw_mono {t t' : TT} (h : PW X e t) (m : ∀ σ H Q, t' σ H Q → t σ H Q) : PW X e t' := ⟨fun wh pins s σ H Q hI hq => h.run wh pins s σ H Q hI (m σ H Q hq)⟩
theorem ps_mono {st : Stmt} {t t' : TS} (h : PS X st t) (m : ∀ D σ H, t' D σ H → t D σ H) : PS X st t' := ⟨fun pins s σ H D hI hq => h.run pins s σ H D hI (m D σ H hq)⟩
theorem pss_mono {st : List Stmt} {t t' : TS} (h : PSs X st t) (m : ∀ D σ H, t' D σ H → t D σ H) : PSs X st t' := ⟨fun pins s σ H D hI hq => h.run pins s σ H D hI (m D σ H hq)⟩
theorem pe_forced {f : Fm → R Pd} (h : PE X e (tP X.K f)) : PE X e (tX X.K (fo f)) := pe_mono h fun _ _ _ q => tP_of_tX q
end
end Tr

set_option Elab.async false
set_option linter.all false
set_option maxRecDepth 100000
set_option maxHeartbeats 1000000
/-! Dicts in the heap: what the machine's operations do, by data. -/
namespace Tr
open PySem PySem.Spec PyProof.Rows L2
section
variable {X : Cx} {pins : List (Addr × Obj)} {σ : St} {s : Shared} {F : Addr → Prop} {H : Hp} {a : Addr} {o o' : Obj} {kvs kvs' : List (D × D)} {ks vs ks' vs' : List V}
theorem DAt.obj (hI : Inv X pins σ H s) (h : DAt H a o kvs ks vs) : s.heap.get? a = some o := by
  have q : ObjOk X.prog X.w H s.heap a (DcO a o) := hI.hok a _ h.at_
  exact q.1
theorem Ents.det : ∀ {es : List DictEntry} {kvs kvs' : List (D × D)} {ks vs ks' vs' : List V}, Ents es kvs ks vs → Ents es kvs' ks' vs' → ks = ks' ∧ vs = vs'
  | _, _, _, _, _, _, _, .nil, .nil => ⟨rfl, rfl⟩
  | _, _, _, _, _, _, _, .cons _ h1 h2 t, .cons _ h1' h2' t' => by
    obtain ⟨e1, e2⟩ := Ents.det t t'
    exact ⟨by rw [h1.inj h1', e1], by rw [h2.inj h2', e2]⟩
theorem DOf.det (h : DOf o kvs ks vs) (h' : DOf o kvs' ks' vs') : ks = ks' ∧ vs = vs' := by
  obtain ⟨_, es, ep, hd, en⟩ := h
  obtain ⟨_, es', ep', hd', en'⟩ := h'
  rw [hd] at hd'
  cases hd'
  exact en.det en'
theorem DAt.det (hI : Inv X pins σ H s) (h : DAt H a o kvs ks vs) (h' : DAt H a o' kvs' ks' vs') : o = o' ∧ ks = ks' ∧ vs = vs' := by
  have e := h.obj hI
  rw [h'.obj hI] at e
  cases e
  exact ⟨rfl, h.is_.det h'.is_⟩
theorem Ents.vals : ∀ {es : List DictEntry} {kvs : List (D × D)} {ks vs : List V}, Ents es kvs ks vs → Vals ks (es.map (·.key)) ∧ Vals vs (es.map (·.val)) ∧ es.length = kvs.length
  | _, _, _, _, .nil => ⟨.nil, .nil, rfl⟩
  | _, _, _, _, .cons _ h1 h2 t => by
    obtain ⟨e1, e2, e3⟩ := Ents.vals t
    exact ⟨.cons h1 e1, .cons h2 e2, by simp [e3]⟩
mutual
theorem nested_is (hI : Inv X pins σ H s) : ∀ (d : D) (v : V) (u : Value), RelD X.K F H v d → pk d = true → RelV v u → NestedIs s.heap (nk d) u
  | .int i, _, _, h, _, r => by
    cases h; obtain ⟨t, rfl⟩ := r
    simp only [nk]
    exact .int i t
  | .tuple ds, _, _, h, p, r => by
    cases h with
    | tup h1 h2 =>
      cases r
      obtain ⟨us, ru, ⟨ob, g1, g2, n, g3⟩, _⟩ := hI.tuple h1.sq
      simp only [pk] at p
      simp only [nk]
      exact .tup g1 g2 g3 (nested_all hI ds _ us h2 p ru)
  | .none, _, _, _, p, _ => by simp [pk] at p
  | .bool _, _, _, _, p, _ => by simp [pk] at p
  | .str _, _, _, _, p, _ => by simp [pk] at p
  | .list _, _, _, _, p, _ => by simp [pk] at p
  | .dict _, _, _, _, p, _ => by simp [pk] at p
theorem nested_all (hI : Inv X pins σ H s) : ∀ (ds : List D) (vs : List V) (us : List Value), RelDs X.K F H vs ds → pks ds = true → Vals vs us → NestedAll s.heap (nks ds) us
  | [], _, _, h, _, r => by cases h; cases r; simp only [nks]; exact .nil
  | d :: ds, _, _, h, p, r => by
    cases h with
    | cons h1 h2 =>
      cases r with
      | cons r1 r2 =>
        simp only [pks, Bool.and_eq_true] at p
        simp only [nks]
        exact .cons (nested_is hI d _ _ h1 p.1 r1) (nested_all hI ds _ _ h2 p.2 r2)
end
abbrev nkd (X : Cx) : HeapKind X.prog X.w NestedKey := nestedKind X.prog X.w
theorem tkey_is (hI : Inv X pins σ H s) {d : D} {v : V} {u : Value} (h : RelD X.K F H v d) (hk : tkey d = true) (r : RelV v u) : ∃ b, v = .ref b ∧ u = .ref b ∧ (nkd X).is s.heap (nk d) b := by
  obtain ⟨ds, e, p, dp⟩ := tkey_pk hk
  have q := nested_is hI d v u h p r
  subst e
  cases h with
  | tup h1 h2 =>
    cases r
    exact ⟨_, rfl, rfl, q, dp⟩
/-- the entries as the library tells them -/
inductive XR : List (D × D) → List V → List V → List (NestedKey × Addr × Value) → Prop
  | nil : XR [] [] [] []
  | cons {p : D × D} {kvs : List (D × D)} {b : Addr} {v : V} {w : Value} {ks vs : List V} {xs : List (NestedKey × Addr × Value)} : RelV v w → XR kvs ks vs xs → XR (p :: kvs) (V.ref b :: ks) (v :: vs) ((nk p.1, b, w) :: xs)
theorem XR.keys {xs : List (NestedKey × Addr × Value)} (h : XR kvs ks vs xs) : xs.map (·.1) = kvs.map fun p => nk p.1 := by
  induction h with
  | nil => rfl
  | cons _ _ ih => rw [List.map_cons, List.map_cons, ih]
theorem XR.len {xs : List (NestedKey × Addr × Value)} (h : XR kvs ks vs xs) : xs.length = kvs.length := by
  induction h with
  | nil => rfl
  | cons _ _ ih => rw [List.length_cons, List.length_cons, ih]
theorem ents_xr (hI : Inv X pins σ H s) {es : List DictEntry} (h : Ents es kvs ks vs) (r : RelDs X.K F H ks (kvs.map Prod.fst)) (hk : (kvs.all fun p => tkey p.1) = true) :
    ∃ xs, XR kvs ks vs xs ∧ es = xs.map (entryOfKey (nkd X)) ∧ ∀ x ∈ xs, (nkd X).is s.heap x.1 x.2.1 := by
  induction h with
  | nil => exact ⟨[], .nil, rfl, by simp⟩
  | @cons e es p kvs k v ks vs hh rk rv _ ih =>
    rw [List.map_cons] at r
    rw [List.all_cons, Bool.and_eq_true] at hk
    cases r with
    | cons r1 r2 =>
      obtain ⟨xs, q1, q2, q3⟩ := ih r2 hk.2
      obtain ⟨b, rfl, eb, is_⟩ := tkey_is hI r1 hk.1 rk
      obtain ⟨_, _, hp, _⟩ := tkey_pk hk.1
      refine ⟨(nk p.1, b, e.val) :: xs, .cons rv q1, ?_, fun x hx => ?_⟩
      · rw [List.map_cons, ← q2]
        obtain ⟨h0, k0, v0⟩ := e
        simp only at hh eb
        subst eb
        congr 1
        show _ = (⟨(nk p.1).hash X.w, .ref b, v0⟩ : DictEntry)
        rw [hash_nk X.w _ hp, hh]
      · rcases List.mem_cons.mp hx with rfl | hx
        · exact is_
        · exact q3 x hx
theorem keyed (hI : Inv X pins σ H s) (h : DAt H a o kvs ks vs) (r : RelDs X.K F H ks (kvs.map Prod.fst)) (hk : (kvs.all fun p => tkey p.1) = true) : ∃ xs, s.heap.DictOfH (nkd X) a xs ∧ XR kvs ks vs xs := by
  obtain ⟨hx, es, ep, hd, en⟩ := h.is_
  obtain ⟨xs, q1, q2, q3⟩ := ents_xr hI en r hk
  exact ⟨xs, ⟨o, es, ep, h.obj hI, hx, hd, q2, q3, by rw [q1.keys]; exact h.nd⟩, q1⟩
theorem XR.back {xs : List (NestedKey × Addr × Value)} (h : XR kvs ks vs xs) (hk : (kvs.all fun p => tkey p.1) = true) : Ents (xs.map (entryOfKey (nkd X))) kvs ks vs := by
  induction h with
  | nil => exact .nil
  | @cons p kvs b v w ks vs xs rv _ ih =>
    rw [List.all_cons, Bool.and_eq_true] at hk
    obtain ⟨_, _, hp, _⟩ := tkey_pk hk.1
    exact .cons (hash_nk X.w _ hp) rfl rv (ih hk.2)
theorem unkeyed {h : Heap} {xs : List (NestedKey × Addr × Value)} (d : h.DictOfH (nkd X) a xs) (r : XR kvs ks vs xs) (hk : (kvs.all fun p => tkey p.1) = true) : ∃ o, h.get? a = some o ∧ DOf o kvs ks vs := by
  obtain ⟨o, es, ep, ho, hx, hd, he, _, _⟩ := d
  exact ⟨o, ho, hx, es, ep, hd, by rw [he]; exact r.back hk⟩
theorem XR.find {xs : List (NestedKey × Addr × Value)} (h : XR kvs ks vs xs) (q : NestedKey) : (atKey xs q = none ∧ kvs.find? (fun p => decide (nk p.1 = q)) = none) ∨
    ∃ (i : Nat) (b : Addr) (w : Value) (p : D × D) (v : V), atKey xs q = some (b, w) ∧ kvs.find? (fun p => decide (nk p.1 = q)) = some p ∧ vs[i]? = some v ∧ kvs[i]? = some p ∧ RelV v w := by
  induction h with
  | nil => exact .inl ⟨rfl, rfl⟩
  | @cons p kvs b v w ks vs xs rv _ ih =>
    by_cases e : nk p.1 = q
    · refine .inr ⟨0, b, w, p, v, ?_, ?_, rfl, rfl, rv⟩
      · simp [atKey, List.find?_cons, e]
      · simp [List.find?_cons, e]
    · rcases ih with ⟨h1, h2⟩ | ⟨i, b', w', p', v', h1, h2, h3, h4, h5⟩
      · refine .inl ⟨?_, ?_⟩
        · unfold atKey at h1 ⊢
          rw [List.find?_cons]
          simp only [e, decide_false]
          exact h1
        · rw [List.find?_cons]
          simp only [e, decide_false]
          exact h2
      · refine .inr ⟨i + 1, b', w', p', v', ?_, ?_, by simpa using h3, by simpa using h4, h5⟩
        · unfold atKey at h1 ⊢
          rw [List.find?_cons]
          simp only [e, decide_false]
          exact h1
        · rw [List.find?_cons]
          simp only [e, decide_false]
          exact h2
theorem any_find {α : Type} (f : α → Bool) (l : List α) : l.any f = (l.find? f).isSome := by
  induction l with
  | nil => rfl
  | cons x l ih =>
    rw [List.any_cons, List.find?_cons]
    cases f x <;> simp [ih]
theorem XR.some {xs : List (NestedKey × Addr × Value)} (h : XR kvs ks vs xs) (q : NestedKey) : (atKey xs q).isSome = (kvs.find? (fun p => decide (nk p.1 = q))).isSome := by
  rcases h.find q with ⟨h1, h2⟩ | ⟨i, b, w, p, v, h1, h2, _⟩
  · rw [h1, h2]; rfl
  · rw [h1, h2]; rfl
theorem XR.repl {xs : List (NestedKey × Addr × Value)} (h : XR kvs ks vs xs) (q : NestedKey) {d : D} {v : V} {w : Value} (rv : RelV v w) :
    ∃ vs', XR (kvs.map fun p => if nk p.1 = q then (p.1, d) else p) ks vs' (xs.map (putAt q w)) ∧
      ∀ (K : PySem.W.Frag) F H, RelDs K F H vs (kvs.map Prod.snd) → RelD K F H v d → RelDs K F H vs' ((kvs.map fun p => if nk p.1 = q then (p.1, d) else p).map Prod.snd) := by
  induction h with
  | nil => exact ⟨[], .nil, fun _ _ _ _ _ => .nil⟩
  | @cons p kvs b v0 w0 ks vs xs r0 _ ih =>
    obtain ⟨vs', q1, q2⟩ := ih
    rw [List.map_cons, List.map_cons]
    by_cases e : nk p.1 = q
    · refine ⟨v :: vs', ?_, fun K F H h1 h2 => ?_⟩
      · rw [if_pos e]
        unfold putAt
        rw [if_pos e]
        exact .cons (p := (p.1, d)) rv q1
      · rw [if_pos e, List.map_cons]
        rw [List.map_cons] at h1
        cases h1 with
        | cons _ h1 => exact .cons h2 (q2 K F H h1 h2)
    · refine ⟨v0 :: vs', ?_, fun K F H h1 h2 => ?_⟩
      · rw [if_neg e]
        unfold putAt
        rw [if_neg e]
        exact .cons r0 q1
      · rw [if_neg e, List.map_cons]
        rw [List.map_cons] at h1
        cases h1 with
        | cons h0 h1 => exact .cons h0 (q2 K F H h1 h2)
theorem XR.snoc {xs : List (NestedKey × Addr × Value)} (h : XR kvs ks vs xs) {k d : D} {b : Addr} {v : V} {w : Value} (rv : RelV v w) : XR (kvs ++ [(k, d)]) (ks ++ [.ref b]) (vs ++ [v]) (xs ++ [(nk k, b, w)]) := by
  induction h with
  | nil => exact .cons (p := (k, d)) rv .nil
  | cons r0 _ ih => exact .cons r0 ih
theorem XR.put {xs : List (NestedKey × Addr × Value)} (h : XR kvs ks vs xs) {k d : D} {b : Addr} {v : V} {w : Value} (rv : RelV v w) :
    ∃ ks' vs', XR (dput kvs k d) ks' vs' (storedH xs (nk k) b w) ∧
      ∀ (K : PySem.W.Frag) F H, RelDs K F H ks (kvs.map Prod.fst) → RelDs K F H vs (kvs.map Prod.snd) → RelD K F H (.ref b) k → RelD K F H v d → RelDs K F H ks' ((dput kvs k d).map Prod.fst) ∧ RelDs K F H vs' ((dput kvs k d).map Prod.snd) := by
  unfold dput storedH
  rw [any_find, h.some]
  cases c : (kvs.find? fun p => decide (nk p.1 = nk k)).isSome with
  | true =>
    rw [if_pos rfl, if_pos rfl]
    obtain ⟨vs', q1, q2⟩ := h.repl (nk k) (d := d) rv
    refine ⟨ks, vs', q1, fun K F H h1 h2 _ h4 => ⟨?_, q2 K F H h2 h4⟩⟩
    rw [List.map_map]
    have : (kvs.map (Prod.fst ∘ fun p => if nk p.1 = nk k then (p.1, d) else p)) = kvs.map Prod.fst := List.map_congr_left fun p _ => by
      show (if nk p.1 = nk k then (p.1, d) else p).1 = p.1
      split <;> rfl
    rw [this]
    exact h1
  | false =>
    rw [if_neg Bool.false_ne_true, if_neg Bool.false_ne_true]
    refine ⟨ks ++ [.ref b], vs ++ [v], h.snoc rv, fun K F H h1 h2 h3 h4 => ?_⟩
    rw [List.map_append, List.map_append]
    exact ⟨h1.append (.cons h3 .nil), h2.append (.cons h4 .nil)⟩
theorem all_dput {f : D → Bool} {k d : D} (h : (kvs.all fun p => f p.1) = true) (hk : f k = true) : ((dput kvs k d).all fun p => f p.1) = true := by
  unfold dput
  split
  · rw [List.all_map]
    rw [List.all_eq_true] at h ⊢
    intro p hp
    show f (if nk p.1 = nk k then (p.1, d) else p).1 = true
    have := h p hp
    split <;> exact this
  · rw [List.all_append, h]
    simp [hk]

/-! keys that are numbers -/
abbrev nki (X : Cx) : KeyKind X.prog X.w Int := intKind X.prog X.w
inductive XI : List (D × D) → List V → List V → List (Int × Value) → Prop
  | nil : XI [] [] [] []
  | cons {i : Int} {d : D} {kvs : List (D × D)} {v : V} {w : Value} {ks vs : List V} {xs : List (Int × Value)} : RelV v w → XI kvs ks vs xs → XI ((.int i, d) :: kvs) (V.int i :: ks) (v :: vs) ((i, w) :: xs)
theorem XI.keys {xs : List (Int × Value)} (h : XI kvs ks vs xs) : (xs.map (·.1)).map NestedKey.num = kvs.map fun p => nk p.1 := by
  induction h with
  | nil => rfl
  | cons _ _ ih => rw [List.map_cons, List.map_cons, List.map_cons, ih]; simp [nk]
theorem XI.len {xs : List (Int × Value)} (h : XI kvs ks vs xs) : xs.length = kvs.length := by
  induction h with
  | nil => rfl
  | cons _ _ ih => rw [List.length_cons, List.length_cons, ih]
theorem int_is {i : Int} {u : Value} : (nki X).is i u = true ↔ ∃ t, u = .int i t := by
  constructor
  · exact fun h => Value.isInt_shape h
  · rintro ⟨t, rfl⟩
    show Value.isInt i (.int i t) = true
    simp [Value.isInt]
theorem ents_xi (hI : Inv X pins σ H s) {es : List DictEntry} (h : Ents es kvs ks vs) (r : RelDs X.K F H ks (kvs.map Prod.fst)) (hk : (kvs.all fun p => ikey p.1) = true) :
    ∃ xs, XI kvs ks vs xs ∧ Pairs (nki X) es xs ∧ ∀ e ∈ es, ∃ k, (nki X).is k e.key = true ∧ e.hash = (nki X).hash k := by
  induction h with
  | nil => exact ⟨[], .nil, .nil, by simp⟩
  | @cons e es p kvs k v ks vs hh rk rv _ ih =>
    rw [List.map_cons] at r
    rw [List.all_cons, Bool.and_eq_true] at hk
    obtain ⟨p1, p2⟩ := p
    cases r with
    | cons r1 r2 =>
      obtain ⟨xs, q1, q2, q3⟩ := ih r2 hk.2
      obtain ⟨i, e0⟩ := ikey_is hk.1
      simp only at e0
      subst e0
      cases r1
      obtain ⟨t, et⟩ := rk
      have his : (nki X).is i e.key = true := int_is.mpr ⟨t, et⟩
      refine ⟨(i, e.val) :: xs, .cons rv q1, .cons his rfl q2, fun x hx => ?_⟩
      rcases List.mem_cons.mp hx with rfl | hx
      · exact ⟨i, his, by rw [hh]; simp only [nk, hashK]; rfl⟩
      · exact q3 x hx
theorem keyedI (hI : Inv X pins σ H s) (h : DAt H a o kvs ks vs) (r : RelDs X.K F H ks (kvs.map Prod.fst)) (hk : (kvs.all fun p => ikey p.1) = true) : ∃ xs, s.heap.DictOf (nki X) a xs ∧ XI kvs ks vs xs := by
  obtain ⟨hx, es, ep, hd, en⟩ := h.is_
  obtain ⟨xs, q1, q2, q3⟩ := ents_xi hI en r hk
  refine ⟨xs, ⟨o, es, ep, h.obj hI, hx, hd, fun e he => q3 e (by simpa using he), q2, ?_⟩, q1⟩
  have := h.nd
  rw [← q1.keys] at this
  exact (List.pairwise_map.mp this).imp fun h e => h (by rw [e])
theorem XI.back {es : List DictEntry} {xs : List (Int × Value)} (h : XI kvs ks vs xs) (p : Pairs (nki X) es xs) (hh : ∀ e ∈ es, ∃ k, (nki X).is k e.key = true ∧ e.hash = (nki X).hash k) : Ents es kvs ks vs := by
  induction h generalizing es with
  | nil => cases p; exact .nil
  | @cons i d kvs v w ks vs xs rv _ ih =>
    cases p with
    | @cons e _ es _ h1 h2 h3 =>
      obtain ⟨t, et⟩ := int_is.mp h1
      obtain ⟨k, k1, k2⟩ := hh e List.mem_cons_self
      have ek : k = i := (nki X).inj _ _ _ k1 h1
      subst ek
      refine .cons ?_ ⟨t, et⟩ (by rw [h2]; exact rv) (ih h3 fun e' he => hh e' (List.mem_cons_of_mem _ he))
      rw [k2]; simp only [nk, hashK]; rfl
theorem unkeyedI {h : Heap} {xs : List (Int × Value)} (d : h.DictOf (nki X) a xs) (r : XI kvs ks vs xs) : ∃ o, h.get? a = some o ∧ DOf o kvs ks vs := by
  obtain ⟨o, es, ep, ho, hx, hd, hk, hp, _⟩ := d
  exact ⟨o, ho, hx, es, ep, hd, r.back hp fun e he => hk e (by simpa using he)⟩
theorem XI.find {xs : List (Int × Value)} (h : XI kvs ks vs xs) (q : Int) : (valueAt xs q = none ∧ kvs.find? (fun p => decide (nk p.1 = .num q)) = none) ∨
    ∃ (i : Nat) (w : Value) (p : D × D) (v : V), valueAt xs q = some w ∧ kvs.find? (fun p => decide (nk p.1 = .num q)) = some p ∧ vs[i]? = some v ∧ kvs[i]? = some p ∧ RelV v w := by
  induction h with
  | nil => exact .inl ⟨rfl, rfl⟩
  | @cons j d kvs v w ks vs xs rv _ ih =>
    by_cases e : j = q
    · refine .inr ⟨0, w, (.int j, d), v, ?_, ?_, rfl, rfl, rv⟩
      · simp [valueAt, List.find?_cons, e]
      · simp [List.find?_cons, e, nk]
    · have e' : ¬ nk (.int j) = .num q := by simp [nk, e]
      rcases ih with ⟨h1, h2⟩ | ⟨i, w', p', v', h1, h2, h3, h4, h5⟩
      · refine .inl ⟨?_, ?_⟩
        · unfold valueAt at h1 ⊢
          rw [List.find?_cons]
          simp only [e, decide_false]
          exact h1
        · rw [List.find?_cons]
          simp only [e', decide_false]
          exact h2
      · refine .inr ⟨i + 1, w', p', v', ?_, ?_, by simpa using h3, by simpa using h4, h5⟩
        · unfold valueAt at h1 ⊢
          rw [List.find?_cons]
          simp only [e, decide_false]
          exact h1
        · rw [List.find?_cons]
          simp only [e', decide_false]
          exact h2
theorem XI.any {xs : List (Int × Value)} (h : XI kvs ks vs xs) (q : Int) : (xs.any fun kv => decide (kv.1 = q)) = kvs.any fun p => decide (nk p.1 = .num q) := by
  induction h with
  | nil => rfl
  | @cons j d kvs v w ks vs xs rv _ ih =>
    rw [List.any_cons, List.any_cons, ih]
    simp [nk]
theorem XI.repl {xs : List (Int × Value)} (h : XI kvs ks vs xs) (q : Int) {d : D} {v : V} {w : Value} (rv : RelV v w) :
    ∃ vs', XI (kvs.map fun p => if nk p.1 = .num q then (p.1, d) else p) ks vs' (xs.map fun kv => if kv.1 = q then (kv.1, w) else kv) ∧
      ∀ (K : PySem.W.Frag) F H, RelDs K F H vs (kvs.map Prod.snd) → RelD K F H v d → RelDs K F H vs' ((kvs.map fun p => if nk p.1 = .num q then (p.1, d) else p).map Prod.snd) := by
  induction h with
  | nil => exact ⟨[], .nil, fun _ _ _ _ _ => .nil⟩
  | @cons j d0 kvs v0 w0 ks vs xs r0 _ ih =>
    obtain ⟨vs', q1, q2⟩ := ih
    rw [List.map_cons, List.map_cons]
    by_cases e : j = q
    · have e' : nk (.int j) = .num q := by simp [nk, e]
      refine ⟨v :: vs', ?_, fun K F H h1 h2 => ?_⟩
      · rw [if_pos e', if_pos e]
        exact .cons rv q1
      · rw [if_pos e', List.map_cons]
        rw [List.map_cons] at h1
        cases h1 with
        | cons _ h1 => exact .cons h2 (q2 K F H h1 h2)
    · have e' : ¬ nk (.int j) = .num q := by simp [nk, e]
      refine ⟨v0 :: vs', ?_, fun K F H h1 h2 => ?_⟩
      · rw [if_neg e', if_neg e]
        exact .cons r0 q1
      · rw [if_neg e', List.map_cons]
        rw [List.map_cons] at h1
        cases h1 with
        | cons h0 h1 => exact .cons h0 (q2 K F H h1 h2)
theorem XI.snoc {xs : List (Int × Value)} (h : XI kvs ks vs xs) {i : Int} {d : D} {v : V} {w : Value} (rv : RelV v w) : XI (kvs ++ [(.int i, d)]) (ks ++ [.int i]) (vs ++ [v]) (xs ++ [(i, w)]) := by
  induction h with
  | nil => exact .cons rv .nil
  | cons r0 _ ih => exact .cons r0 ih
theorem XI.put {xs : List (Int × Value)} (h : XI kvs ks vs xs) {i : Int} {d : D} {v : V} {w : Value} (rv : RelV v w) :
    ∃ ks' vs', XI (dput kvs (.int i) d) ks' vs' (stored xs i w) ∧
      ∀ (K : PySem.W.Frag) F H, RelDs K F H ks (kvs.map Prod.fst) → RelDs K F H vs (kvs.map Prod.snd) → RelD K F H v d → RelDs K F H ks' ((dput kvs (.int i) d).map Prod.fst) ∧ RelDs K F H vs' ((dput kvs (.int i) d).map Prod.snd) := by
  unfold dput stored
  have e0 : nk (.int i) = .num i := by simp [nk]
  rw [h.any, e0]
  cases c : kvs.any fun p => decide (nk p.1 = .num i) with
  | true =>
    rw [if_pos rfl, if_pos rfl]
    obtain ⟨vs', q1, q2⟩ := h.repl i (d := d) rv
    refine ⟨ks, vs', q1, fun K F H h1 h2 h4 => ⟨?_, q2 K F H h2 h4⟩⟩
    rw [List.map_map]
    have : (kvs.map (Prod.fst ∘ fun p => if nk p.1 = .num i then (p.1, d) else p)) = kvs.map Prod.fst := List.map_congr_left fun p _ => by
      show (if nk p.1 = .num i then (p.1, d) else p).1 = p.1
      split <;> rfl
    rw [this]
    exact h1
  | false =>
    rw [if_neg Bool.false_ne_true, if_neg Bool.false_ne_true]
    refine ⟨ks ++ [.int i], vs ++ [v], h.snoc rv, fun K F H h1 h2 h4 => ?_⟩
    rw [List.map_append, List.map_append]
    exact ⟨h1.append (.cons (.int i) .nil), h2.append (.cons h4 .nil)⟩
end
end Tr

set_option Elab.async false
set_option linter.all false
set_option maxRecDepth 100000
set_option maxHeartbeats 1000000
/-! What the machine does with dicts: look-ups, stores. -/
namespace Tr
open PySem PySem.Spec PyProof.Rows L2
section
variable {X : Cx} {pins : List (Addr × Obj)} {σ : St} {s : Shared} {F : Addr → Prop} {H : Hp} {a : Addr} {o : Obj} {kvs : List (D × D)} {ks vs : List V} {A : Around} {E : Value → Shared → Prop} {k d : D} {y : V} {u : Value}
theorem kfit_or (h : kfit kvs k = true) : (tkey k = true ∧ (kvs.all fun p => tkey p.1) = true) ∨ (ikey k = true ∧ (kvs.all fun p => ikey p.1) = true) := by
  unfold kfit at h
  simpa only [Bool.or_eq_true, Bool.and_eq_true] using h
/-- the value that a look-up gives: in any reading of the dict -/
def Val1 (kvs : List (D × D)) (vs : List V) (v : V) (d : D) : Prop := ∀ (K : PySem.W.Frag) F H, RelDs K F H vs (kvs.map Prod.snd) → RelD K F H v d
theorem val1_at {i : Nat} {p : D × D} {v : V} (h1 : vs[i]? = some v) (h2 : kvs[i]? = some p) : Val1 kvs vs v p.2 := fun K F H r => by
  obtain ⟨d, q1, q2⟩ := r.get h1
  rw [List.getElem?_map, h2] at q1
  cases q1
  exact q2
theorem dget_some {q : D} {p : D × D} (h : kvs.find? (fun p => decide (nk p.1 = nk q)) = some p) : dget kvs q = some p.2 := by unfold dget; rw [h]; rfl
theorem dget_none {q : D} (h : kvs.find? (fun p => decide (nk p.1 = nk q)) = none) : dget kvs q = none := by unfold dget; rw [h]; rfl
theorem md_item {Q : Value → Shared → Prop} (hu : A.units + 20 < cLine) (hI : Inv X pins σ H s) (h : DAt H a o kvs ks vs) (r1 : RelDs X.K F H ks (kvs.map Prod.fst)) (rk : RelD X.K F H y k) (ru : RelV y u) (hf : kfit kvs k = true) (e : dget kvs k = some d)
    (q : ∀ v w s', Inv X pins σ H s' → RelV v w → Val1 kvs vs v d → Q w s') : wpAny (model X.prog X.w) A (getItem (.ref a) u) Q E s := by
  rcases kfit_or hf with ⟨hk, hall⟩ | ⟨hk, hall⟩
  · obtain ⟨xs, dd, xr⟩ := keyed hI h r1 hall
    obtain ⟨b, rfl, rfl, is_⟩ := tkey_is hI rk hk ru
    rcases xr.find (nk k) with ⟨_, h2⟩ | ⟨i, b', w, p, v, h1, h2, h3, h4, h5⟩
    · rw [dget_none h2] at e; cases e
    · rw [dget_some h2] at e; cases e
      exact wpAny_getItem_heap (knd := nkd X) (show A.units + 1 + 8 < cLine by omega) is_ dd h1 (q v w _ (hI.tok _) h5 (val1_at h3 h4))
  · obtain ⟨i0, rfl⟩ := ikey_is hk
    obtain ⟨xs, dd, xr⟩ := keyedI hI h r1 hall
    cases rk
    obtain ⟨t, rfl⟩ := ru
    have e0 : nk (.int i0) = .num i0 := by simp [nk]
    rcases xr.find i0 with ⟨_, h2⟩ | ⟨i, w, p, v, h1, h2, h3, h4, h5⟩
    · rw [← e0] at h2; rw [dget_none h2] at e; cases e
    · rw [← e0] at h2; rw [dget_some h2] at e; cases e
      exact wpAny_getItem_of (knd := nki X) (int_is.mpr ⟨t, rfl⟩) dd.mapOf h1 (q v w _ (hI.tok _) h5 (val1_at h3 h4))
theorem md_in {Q : Value → Shared → Prop} (hu : A.units + 20 < cLine) (hI : Inv X pins σ H s) (h : DAt H a o kvs ks vs) (r1 : RelDs X.K F H ks (kvs.map Prod.fst)) (rk : RelD X.K F H y k) (ru : RelV y u) (hf : kfit kvs k = true)
    (q : ∀ s', Inv X pins σ H s' → Q (.bool (dget kvs k).isSome) s') : wpAny (model X.prog X.w) A (compareOp .In u (.ref a)) Q E s := by
  rcases kfit_or hf with ⟨hk, hall⟩ | ⟨hk, hall⟩
  · obtain ⟨xs, dd, xr⟩ := keyed hI h r1 hall
    obtain ⟨b, rfl, rfl, is_⟩ := tkey_is hI rk hk ru
    refine wpAny_in_heap (knd := nkd X) (show A.units + 1 + 8 < cLine by omega) is_ h.low dd ?_
    have e : (atKey xs (nk k)).isSome = (dget kvs k).isSome := by rw [xr.some]; unfold dget; rw [Option.isSome_map]
    rw [e]
    exact q _ (hI.tok _)
  · obtain ⟨i0, rfl⟩ := ikey_is hk
    obtain ⟨xs, dd, xr⟩ := keyedI hI h r1 hall
    cases rk
    obtain ⟨t, rfl⟩ := ru
    have e0 : nk (.int i0) = .num i0 := by simp [nk]
    refine wpAny_in_of (knd := nki X) (int_is.mpr ⟨t, rfl⟩) h.low dd.mapOf ?_
    have e : (valueAt xs i0).isSome = (dget kvs (.int i0)).isSome := by
      rcases xr.find i0 with ⟨h1, h2⟩ | ⟨i, w, p, v, h1, h2, _⟩
      · rw [← e0] at h2; rw [dget_none h2, h1]; rfl
      · rw [← e0] at h2; rw [dget_some h2, h1]; rfl
    rw [e]
    exact q _ (hI.tok _)
theorem md_notin {Q : Value → Shared → Prop} (hu : A.units + 20 < cLine) (hI : Inv X pins σ H s) (h : DAt H a o kvs ks vs) (r1 : RelDs X.K F H ks (kvs.map Prod.fst)) (rk : RelD X.K F H y k) (ru : RelV y u) (hf : kfit kvs k = true)
    (q : ∀ s', Inv X pins σ H s' → Q (.bool (!(dget kvs k).isSome)) s') : wpAny (model X.prog X.w) A (compareOp .NotIn u (.ref a)) Q E s := by
  rcases kfit_or hf with ⟨hk, hall⟩ | ⟨hk, hall⟩
  · obtain ⟨xs, dd, xr⟩ := keyed hI h r1 hall
    obtain ⟨b, rfl, rfl, is_⟩ := tkey_is hI rk hk ru
    refine wpAny_notIn_heap (knd := nkd X) (show A.units + 1 + 8 < cLine by omega) is_ h.low dd ?_
    have e : (atKey xs (nk k)).isSome = (dget kvs k).isSome := by rw [xr.some]; unfold dget; rw [Option.isSome_map]
    rw [e]
    exact q _ (hI.tok _)
  · obtain ⟨i0, rfl⟩ := ikey_is hk
    obtain ⟨xs, dd, xr⟩ := keyedI hI h r1 hall
    cases rk
    obtain ⟨t, rfl⟩ := ru
    have e0 : nk (.int i0) = .num i0 := by simp [nk]
    refine wpAny_notIn_of (knd := nki X) (int_is.mpr ⟨t, rfl⟩) h.low dd.mapOf ?_
    have e : (valueAt xs i0).isSome = (dget kvs (.int i0)).isSome := by
      rcases xr.find i0 with ⟨h1, h2⟩ | ⟨i, w, p, v, h1, h2, _⟩
      · rw [← e0] at h2; rw [dget_none h2, h1]; rfl
      · rw [← e0] at h2; rw [dget_some h2, h1]; rfl
    rw [e]
    exact q _ (hI.tok _)
/-- d.get(k), d.get(k, x) -/
theorem md_get {Q : Value → Shared → Prop} (two : Option (V × Value)) (rt : ∀ p, two = some p → RelV p.1 p.2) (hu : A.units + 20 < cLine) (hI : Inv X pins σ H s) (h : DAt H a o kvs ks vs) (r1 : RelDs X.K F H ks (kvs.map Prod.fst)) (rk : RelD X.K F H y k) (ru : RelV y u) (hf : kfit kvs k = true)
    (q1 : ∀ d v w s', dget kvs k = some d → Inv X pins σ H s' → RelV v w → Val1 kvs vs v d → Q w s')
    (q2 : ∀ s', dget kvs k = none → Inv X pins σ H s' → Q (match two with | some p => p.2 | none => .none) s') :
    wpAny (model X.prog X.w) A (call (.builtin "dict.get") (match two with | some p => [.ref a, u, p.2] | none => [.ref a, u])) Q E s := by
  rcases kfit_or hf with ⟨hk, hall⟩ | ⟨hk, hall⟩
  · obtain ⟨xs, dd, xr⟩ := keyed hI h r1 hall
    obtain ⟨b, rfl, rfl, is_⟩ := tkey_is hI rk hk ru
    have room : (nkd X).room A.in1 := show A.units + 1 + 8 < cLine by omega
    have fin : ∀ (dv : Value) (t : Nat), (dget kvs k = none → ∀ s', Inv X pins σ H s' → Q dv s') → Q (((atKey xs (nk k)).map (·.2)).getD dv) { s with toks := t } := fun dv t qn => by
      rcases xr.find (nk k) with ⟨h1, h2⟩ | ⟨i, b', w, p, v, h1, h2, h3, h4, h5⟩
      · rw [h1]
        exact qn (dget_none h2) _ (hI.tok _)
      · rw [h1]
        exact q1 _ v w _ (dget_some h2) (hI.tok _) h5 (val1_at h3 h4)
    cases two with
    | none => exact call_meetsIn PySem.F.slot_dict_get dd.typeIs PySem.F.entry_dict_get (PySem.F.args_dict_get_2 _ _) (meetsH_dict_get (nkd X) a b h.low) ⟨room, nk k, xs, is_, dd, fin _ _ fun e s' i => q2 s' e i⟩
    | some p => exact call_meetsIn PySem.F.slot_dict_get dd.typeIs PySem.F.entry_dict_get (PySem.F.args_dict_get_3 _ _ _) (meetsH_dict_get_default (nkd X) a b h.low p.2) ⟨room, nk k, xs, is_, dd, fin _ _ fun e s' i => q2 s' e i⟩
  · obtain ⟨i0, rfl⟩ := ikey_is hk
    obtain ⟨xs, dd, xr⟩ := keyedI hI h r1 hall
    cases rk
    obtain ⟨t, rfl⟩ := ru
    have e0 : nk (.int i0) = .num i0 := by simp [nk]
    have fin : ∀ (dv : Value) (t : Nat), (dget kvs (.int i0) = none → ∀ s', Inv X pins σ H s' → Q dv s') → Q ((valueAt xs i0).getD dv) { s with toks := t } := fun dv t qn => by
      rcases xr.find i0 with ⟨h1, h2⟩ | ⟨i, w, p, v, h1, h2, h3, h4, h5⟩
      · rw [← e0] at h2
        rw [h1]
        exact qn (dget_none h2) _ (hI.tok _)
      · rw [← e0] at h2
        rw [h1]
        exact q1 _ v w _ (dget_some h2) (hI.tok _) h5 (val1_at h3 h4)
    cases two with
    | none => exact call_meetsIn PySem.F.slot_dict_get dd.typeIs PySem.F.entry_dict_get (PySem.F.args_dict_get_2 _ _) (meets_dict_get (nki X) a (int_is.mpr ⟨t, rfl⟩) h.low) ⟨_, dd.mapOf, fin _ _ fun e s' i => q2 s' e i⟩
    | some p => exact call_meetsIn PySem.F.slot_dict_get dd.typeIs PySem.F.entry_dict_get (PySem.F.args_dict_get_3 _ _ _) (meets_dict_get_default (nki X) a (int_is.mpr ⟨t, rfl⟩) h.low p.2) ⟨_, dd.mapOf, fin _ _ fun e s' i => q2 s' e i⟩
theorem dc_new {P : Program} {w : World} {H' : Hp} {h' : Heap} {o : Obj} (e : h'.get? a = some o) : ObjOk P w H' h' a (DcO a o) := ⟨e, ⟨o, e⟩, fun h1 h2 q k => k o q⟩
/-- what a store leaves -/
def Put1 (kvs kvs' : List (D × D)) (ks vs ks' vs' : List V) (y v : V) (k d : D) : Prop := ∀ (K : PySem.W.Frag) F H, RelDs K F H ks (kvs.map Prod.fst) → RelDs K F H vs (kvs.map Prod.snd) → RelD K F H y k → RelD K F H v d → RelDs K F H ks' (kvs'.map Prod.fst) ∧ RelDs K F H vs' (kvs'.map Prod.snd)
theorem md_set {Q : Unit → Shared → Prop} {v : V} {r : Value} (hu : A.units + 20 < cLine) (hI : Inv X pins σ H s) (h : DAt H a o kvs ks vs) (r1 : RelDs X.K F H ks (kvs.map Prod.fst)) (rk : RelD X.K F H y k) (ru : RelV y u) (rv : RelV v r) (hf : kfit kvs k = true) (hz : kvs.length ≤ sizeLine)
    (q : ∀ o' ks' vs' s', DOf o' (dput kvs k d) ks' vs' → Inv X pins σ (upd H a (DcO a o')) s' → Put1 kvs (dput kvs k d) ks vs ks' vs' y v k d → Q () s') : wpAny (model X.prog X.w) A (setItem (.ref a) u r) Q E s := by
  have mu : Mut (H a) := by rw [h.at_]; exact True.intro
  rcases kfit_or hf with ⟨hk, hall⟩ | ⟨hk, hall⟩
  · obtain ⟨xs, dd, xr⟩ := keyed hI h r1 hall
    obtain ⟨b, rfl, rfl, is_⟩ := tkey_is hI rk hk ru
    refine wpAny_setItem_heap (knd := nkd X) (hsz := by rw [xr.len]; exact hz) (show A.units + 1 + 8 < cLine by omega) is_ dd fun h' dd' hs => ?_
    obtain ⟨ks', vs', xr', pu⟩ := xr.put (k := k) (d := d) (b := b) rv
    obtain ⟨o', ho', do'⟩ := unkeyed dd' xr' (all_dput hall hk)
    exact q o' ks' vs' _ do' (d_write hI mu hs ⟨o', ho'⟩ (dc_new ho')) pu
  · obtain ⟨i0, rfl⟩ := ikey_is hk
    obtain ⟨xs, dd, xr⟩ := keyedI hI h r1 hall
    cases rk
    obtain ⟨t, rfl⟩ := ru
    refine wpAny_setItem_pairs (knd := nki X) (hsz := by rw [xr.len]; exact hz) (int_is.mpr ⟨t, rfl⟩) dd fun h' dd' hs => ?_
    obtain ⟨ks', vs', xr', pu⟩ := xr.put (i := i0) (d := d) rv
    obtain ⟨o', ho', do'⟩ := unkeyedI dd' xr'
    exact q o' ks' vs' _ do' (d_write hI mu hs ⟨o', ho'⟩ (dc_new ho')) fun K F H h1 h2 _ h4 => pu K F H h1 h2 h4
/-- d.setdefault(k, x), keys that are tuples -/
theorem md_sdf {Q : Value → Shared → Prop} {v : V} {r : Value} (hu : A.units + 20 < cLine) (hI : Inv X pins σ H s) (h : DAt H a o kvs ks vs) (r1 : RelDs X.K F H ks (kvs.map Prod.fst)) (rk : RelD X.K F H y k) (ru : RelV y u) (rv : RelV v r) (hk : tkey k = true) (hall : (kvs.all fun p => tkey p.1) = true) (hz : kvs.length ≤ sizeLine)
    (q1 : ∀ w s', (dget kvs k).isSome = true → Inv X pins σ H s' → Q w s')
    (q2 : ∀ o' ks' vs' s', (dget kvs k).isSome = false → DOf o' (dput kvs k d) ks' vs' → Inv X pins σ (upd H a (DcO a o')) s' → Put1 kvs (dput kvs k d) ks vs ks' vs' y v k d → Q r s') : wpAny (model X.prog X.w) A (call (.builtin "dict.setdefault") [.ref a, u, r]) Q E s := by
  have mu : Mut (H a) := by rw [h.at_]; exact True.intro
  obtain ⟨xs, dd, xr⟩ := keyed hI h r1 hall
  obtain ⟨b, rfl, rfl, is_⟩ := tkey_is hI rk hk ru
  have e : (atKey xs (nk k)).isSome = (dget kvs k).isSome := by rw [xr.some]; unfold dget; rw [Option.isSome_map]
  refine call_setdefault_heap (knd := nkd X) (hsz := by rw [xr.len]; exact hz) (show A.units + 1 + 8 < cLine by omega) is_ h.low dd (fun p hp => q1 _ _ (by rw [← e, hp]; rfl) (hI.tok _)) fun hn h' dd' hs => ?_
  obtain ⟨ks', vs', xr', pu⟩ := xr.put (k := k) (d := d) (b := b) rv
  obtain ⟨o', ho', do'⟩ := unkeyed dd' xr' (all_dput hall hk)
  exact q2 o' ks' vs' _ (by rw [← e, hn]; rfl) do' (d_write hI mu hs ⟨o', ho'⟩ (dc_new ho')) pu
/-- against {} -/
theorem same_empty {nm : String} {b : Addr} {oa ob : Obj} {es es' : Array DictEntry} {ep ep' : Nat} {Q : Bool → Shared → Prop} (ha : (a == sysModules) = false) (hb : (b == sysModules) = false) (hoa : s.heap.get? a = some oa) (hda : oa.data = .dict es ep)
    (hob : s.heap.get? b = some ob) (hdb : ob.data = .dict es' ep') (he : es'.size = 0) (h : Q (decide (es.size = 0)) s) : wpAny (model X.prog X.w) A (Builtin.Dict.samePairs nm a b) Q E s := by
  unfold Builtin.Dict.samePairs Builtin.Dict.showsAll
  rw [if_neg (show ¬ (a == sysModules) = true by rw [ha]; exact Bool.false_ne_true), if_neg (show ¬ (b == sysModules) = true by rw [hb]; exact Bool.false_ne_true)]
  refine wpAny_bind (wpAny_pure (wpAny_bind (wpAny_pure ?_)))
  refine wpAny_bind (wpAny_dictEntries hoa hda ?_)
  dsimp only
  refine wpAny_bind (wpAny_dictEntries hob hdb ?_)
  by_cases hsz : es.size = es'.size
  case neg =>
    rw [if_pos (by simpa using hsz)]
    have hbf : decide (es.size = 0) = false := by rw [he] at hsz; exact decide_eq_false hsz
    rw [hbf] at h
    exact wpAny_bind (wpAny_rule (wpAny_pure h))
  case pos =>
    have h0 : es.size = 0 := hsz.trans he
    rw [decide_eq_true h0] at h
    rw [if_neg (by rw [hsz]; simp)]
    refine wpAny_bind (wpAny_dictEpoch hoa hda ?_)
    refine wpAny_bind ?_
    rw [Std.Legacy.Range.forIn_eq_forIn_range']
    simp only [Std.Legacy.Range.size, Nat.sub_zero, Nat.add_sub_cancel, Nat.div_one, h0]
    exact wpAny_pure (wpAny_pure h)
theorem ents_size {es : Array DictEntry} (h : Ents es.toList kvs ks vs) : es.size = kvs.length := by rw [← h.vals.2.2]; simp
theorem DAt.typeIs (hI : Inv X pins σ H s) (h : DAt H a o kvs ks vs) : s.TypeIs (.ref a) "dict" := ⟨o, h.obj hI, h.is_.1.1⟩
theorem eq_empty {b : Addr} {o2 : Obj} {ks2 vs2 : List V} {Q : Value → Shared → Prop} (hI : Inv X pins σ H s) (hu : A.units < cLine) (da : DAt H a o kvs ks vs) (db : DAt H b o2 [] ks2 vs2) (h : Q (.bool (decide (kvs.length = 0))) s) :
    wpAny (model X.prog X.w) A (compareOp .Eq (.ref a) (.ref b)) Q E s := by
  obtain ⟨_, es, ep, hd, en⟩ := da.is_
  obtain ⟨_, es', ep', hd', en'⟩ := db.is_
  refine wpAny_richCompare_same_room (op := .Eq) (da.typeIs hI) (db.typeIs hI) PySem.F.slot_dict_eq (wpAny_call_entry PySem.F.slot_dict_eq (da.typeIs hI) PySem.F.entry_dict_eq ?_ (PySem.F.args_dict_eq_2 _ _)) hu
  show wpAny _ _ (Builtin.Dict.dictSlotArgs "__eq__" ⟨[.ref a, .ref b], []⟩ >>= _) _ _ s
  refine wpAny_bind ?_
  unfold Builtin.Dict.dictSlotArgs
  refine wpAny_bind (wpAny_notOrdered_dict (da.typeIs hI) ?_)
  show wpAny _ _ (pure (Value.ref a, Value.ref b)) _ _ s
  refine wpAny_pure ?_
  refine wpAny_bind (wpAny_isInstance (T := "dict") (db.typeIs hI) PySem.F.sub_dict_dict ?_)
  simp only [Bool.not_true, Bool.false_eq_true, if_false]
  refine wpAny_bind (wpAny_pure (wpAny_bind (wpAny_pure ?_)))
  refine wpAny_bind (same_empty da.low db.low (da.obj hI) hd (db.obj hI) hd' (by rw [ents_size en']; rfl) ?_)
  rw [ents_size en]
  refine wpAny_pure ⟨_, rfl, ?_, ?_⟩
  · exact fun x => nomatch x
  · simpa using h
theorem ne_empty {b : Addr} {o2 : Obj} {ks2 vs2 : List V} {Q : Value → Shared → Prop} (hI : Inv X pins σ H s) (hu : A.units < cLine) (da : DAt H a o kvs ks vs) (db : DAt H b o2 [] ks2 vs2) (h : Q (.bool (!decide (kvs.length = 0))) s) :
    wpAny (model X.prog X.w) A (compareOp .NotEq (.ref a) (.ref b)) Q E s := by
  obtain ⟨_, es, ep, hd, en⟩ := da.is_
  obtain ⟨_, es', ep', hd', en'⟩ := db.is_
  refine wpAny_richCompare_same_room (op := .NotEq) (da.typeIs hI) (db.typeIs hI) PySem.F.slot_dict_ne (wpAny_call_entry PySem.F.slot_dict_ne (da.typeIs hI) PySem.F.entry_dict_ne ?_ (PySem.F.args_dict_ne_2 _ _)) hu
  show wpAny _ _ (Builtin.Dict.dictSlotArgs "__ne__" ⟨[.ref a, .ref b], []⟩ >>= _) _ _ s
  refine wpAny_bind ?_
  unfold Builtin.Dict.dictSlotArgs
  refine wpAny_bind (wpAny_notOrdered_dict (da.typeIs hI) ?_)
  show wpAny _ _ (pure (Value.ref a, Value.ref b)) _ _ s
  refine wpAny_pure ?_
  refine wpAny_bind (wpAny_isInstance (T := "dict") (db.typeIs hI) PySem.F.sub_dict_dict ?_)
  simp only [Bool.not_true, Bool.false_eq_true, if_false]
  refine wpAny_bind (wpAny_pure (wpAny_bind (wpAny_pure ?_)))
  refine wpAny_bind (same_empty da.low db.low (da.obj hI) hd (db.obj hI) hd' (by rw [ents_size en']; rfl) ?_)
  rw [ents_size en]
  refine wpAny_pure ⟨_, rfl, ?_, ?_⟩
  · exact fun x => nomatch x
  · simpa using h
theorem ix_dict {value slice : Expr} {v u : Value} {Q : Value → Shared → Prop} (hs : subscripted slice false v u = operate [v, u] (getItem v u)) (hT : s.TypeIs v "dict") (h : wpAny (model X.prog X.w) A (getItem v u) Q E s) :
    wpAny (model X.prog X.w) A (subscriptTail value slice v u) Q E s := by
  unfold subscriptTail
  refine wpAny_bind ?_
  rw [getitemInPython_of_ne hT.not_modules]
  refine wpAny_bind (wpAny_specialOf hT PySem.F.slot_dict_getitem.lookup ?_)
  have fin : wpAny (model X.prog X.w) A (subscripted slice false v u) (fun r s₃ => wpAny (model X.prog X.w) A (letTemporaryGo value v r >>= fun _ => pure r) Q E s₃) E s := by
    rw [hs]
    exact wpAny_operating (wpAny_mono h (fun r s₃ h₃ => wpAny_bind (wpAny_letTemporaryGo (wpAny_pure h₃))) fun _ _ x => x)
  first
    | exact wpAny_pure (wpAny_bind fin)
    | exact wpAny_bind (wpAny_pure (wpAny_bind fin))
    | exact wpAny_bind fin
end
end Tr

set_option Elab.async false
set_option linter.all false
set_option maxRecDepth 100000
set_option maxHeartbeats 1000000
/-! min, max of two alike things; sorted of a dict. -/
namespace Tr
open PySem PySem.W PySem.Calls PyProof.Rows
section
variable {prog : Program} {w : World} {A : Around} {E : Value → Shared → Prop} {s : Shared}
theorem two_tuple {a b : Value} : ({ s with heap := s.heap.push { cls := .type "tuple", data := .seq #[a, b] } } : Shared).heap.IsTuple s.heap.objs.size #[a, b] := ⟨_, Heap.get?_push_size _ rfl, rfl, 0, rfl⟩
theorem min_two_data {a b : Value} {x y : PyData} {as : List Addr} {Q : Value → Shared → Prop} (hh : A.handled = none) (hr : ReadsAll s.heap [a, b] [x, y] as) (ha : AlikeAll [x, y]) (hu : A.units + 1 + PyData.depthAll [x, y] < cLine)
    (h : ∀ (i : Nat) v h' tk bs, [a, b][i]? = some v → Reads h' v (minD x [y]) bs → (∀ b o, s.heap.get? b = some o → h'.get? b = some o) → Q v { s with heap := h', toks := tk }) :
    wpAny (model prog w) A (call (.builtin "min") [a, b]) Q E s := by
  have hname : (toString "min" ++ toString ".loop" : String) = "min.loop" := by decide
  refine call_function_tree F.kind_min F.plain_min F.entry_min (F.args_min2 _ _) ?_
  show wpAny _ A.in1 (Builtin.Builtins.bindParams "min" ["key", "default"] 0 ⟨[], []⟩ >>= _) _ _ s
  refine wpAny_bind (wpAny_of_eq (show Builtin.Builtins.bindParams "min" ["key", "default"] 0 ⟨[], []⟩ = pure [none, none] from rfl) ?_)
  show wpAny _ A.in1 (newTuple [a, b] >>= _) _ _ s
  refine wpAny_bind (wpAny_newObj_type ?_)
  have k0 : ∀ c o, s.heap.get? c = some o → (s.heap.push { cls := .type "tuple", data := .seq #[a, b] }).get? c = some o := fun c o e => Heap.get?_push_of_some _ e
  have hr1 : ReadsAll (s.heap.push { cls := .type "tuple", data := .seq #[a, b] }) [a, b] [x, y] as := ReadsAll.keeps k0 hr
  refine wpAny_bind (iter_tupleW (s := { s with heap := s.heap.push { cls := .type "tuple", data := .seq #[a, b] } }) (A := A.in1) (vs := #[a, b]) hh two_tuple fun s₂ e W hst hfp hw hk => ?_)
  refine wpAny_bind (wpAny_newObj_type ?_)
  have hSf : s₂.heap.objs.size ∉ [(s.heap.push { cls := .type "tuple", data := .seq #[a, b] }).objs.size, s.heap.objs.size] := fun hm => Nat.lt_irrefl _ (hfp _ hm)
  rw [hname]
  refine wpAny_pure ⟨plainId_quiet F.plain_min_loop _, codeAny_min_loop_firstH W (s.heap.push { cls := .type "tuple", data := .seq #[a, b] }) hw _ (cmpIn_lt (s := { s with heap := s.heap.push { cls := .type "tuple", data := .seq #[a, b] } }) (A := A.in1) (vs := #[a, b]) hr1 ha (by show A.units + 1 + _ < _; exact hu)) s₂.heap.objs.size hSf (fresh_in hk) _ (by simp) (fun b o e => Heap.get?_push_of_some _ (hk b o e)) (W.frame 0 s₂ _ s₂.toks hst (Nat.le_refl _) fun b _ o e => Heap.get?_push_of_some _ e) (Heap.get?_push_size _ rfl) fun v s' hP hm => ?_⟩
  have m := Moved.drop_new (tk := s₂.toks) hm (Nat.le_refl _)
  obtain ⟨h', tk, rfl, hk'⟩ := moved_old e rfl m
  obtain ⟨bs, r, _, _, _⟩ := readsAll_atA (vs := #[a, b]) hr1 _ v hP
  have e2 := (argBest_fold dataLt PyData.none x [y] 1 (Nat.le_refl _)).2
  have e2' : minD x [y] = ([x, y] : List PyData).getD (argBest (fun i j => dataLt ([x, y].getD i .none) ([x, y].getD j .none)) (#[a, b].size - 1)) .none := by
    unfold minD
    exact e2.symm
  refine h _ v h' tk bs (by rw [← Array.getElem?_toList] at hP; exact hP) (reads_keeps hk' (by rw [e2']; exact r)) fun b o q => hk' b o (k0 b o q)
theorem max_two_data {a b : Value} {x y : PyData} {as : List Addr} {Q : Value → Shared → Prop} (hh : A.handled = none) (hr : ReadsAll s.heap [a, b] [x, y] as) (ha : AlikeAll [x, y]) (hu : A.units + 1 + PyData.depthAll [x, y] < cLine)
    (h : ∀ (i : Nat) v h' tk bs, [a, b][i]? = some v → Reads h' v (maxD x [y]) bs → (∀ b o, s.heap.get? b = some o → h'.get? b = some o) → Q v { s with heap := h', toks := tk }) :
    wpAny (model prog w) A (call (.builtin "max") [a, b]) Q E s := by
  have hname : (toString "max" ++ toString ".loop" : String) = "max.loop" := by decide
  refine call_function_tree F.kind_max F.plain_max F.entry_max (F.args_max2 _ _) ?_
  show wpAny _ A.in1 (Builtin.Builtins.bindParams "max" ["key", "default"] 0 ⟨[], []⟩ >>= _) _ _ s
  refine wpAny_bind (wpAny_of_eq (show Builtin.Builtins.bindParams "max" ["key", "default"] 0 ⟨[], []⟩ = pure [none, none] from rfl) ?_)
  show wpAny _ A.in1 (newTuple [a, b] >>= _) _ _ s
  refine wpAny_bind (wpAny_newObj_type ?_)
  have k0 : ∀ c o, s.heap.get? c = some o → (s.heap.push { cls := .type "tuple", data := .seq #[a, b] }).get? c = some o := fun c o e => Heap.get?_push_of_some _ e
  have hr1 : ReadsAll (s.heap.push { cls := .type "tuple", data := .seq #[a, b] }) [a, b] [x, y] as := ReadsAll.keeps k0 hr
  refine wpAny_bind (iter_tupleW (s := { s with heap := s.heap.push { cls := .type "tuple", data := .seq #[a, b] } }) (A := A.in1) (vs := #[a, b]) hh two_tuple fun s₂ e W hst hfp hw hk => ?_)
  refine wpAny_bind (wpAny_newObj_type ?_)
  have hSf : s₂.heap.objs.size ∉ [(s.heap.push { cls := .type "tuple", data := .seq #[a, b] }).objs.size, s.heap.objs.size] := fun hm => Nat.lt_irrefl _ (hfp _ hm)
  rw [hname]
  refine wpAny_pure ⟨plainId_quiet F.plain_max_loop _, codeAny_max_loop_firstH W (s.heap.push { cls := .type "tuple", data := .seq #[a, b] }) hw _ (cmpIn_gt (s := { s with heap := s.heap.push { cls := .type "tuple", data := .seq #[a, b] } }) (A := A.in1) (vs := #[a, b]) hr1 ha (by show A.units + 1 + _ < _; exact hu)) s₂.heap.objs.size hSf (fresh_in hk) _ (by simp) (fun b o e => Heap.get?_push_of_some _ (hk b o e)) (W.frame 0 s₂ _ s₂.toks hst (Nat.le_refl _) fun b _ o e => Heap.get?_push_of_some _ e) (Heap.get?_push_size _ rfl) fun v s' hP hm => ?_⟩
  have m := Moved.drop_new (tk := s₂.toks) hm (Nat.le_refl _)
  obtain ⟨h', tk, rfl, hk'⟩ := moved_old e rfl m
  obtain ⟨bs, r, _, _, _⟩ := readsAll_atA (vs := #[a, b]) hr1 _ v hP
  have e2 := (argBest_fold (fun p q => dataLt q p) PyData.none x [y] 1 (Nat.le_refl _)).2
  have e2' : maxD x [y] = ([x, y] : List PyData).getD (argBest (fun i j => dataLt ([x, y].getD j .none) ([x, y].getD i .none)) (#[a, b].size - 1)) .none := by
    unfold maxD
    exact e2.symm
  refine h _ v h' tk bs (by rw [← Array.getElem?_toList] at hP; exact hP) (reads_keeps hk' (by rw [e2']; exact r)) fun b o q => hk' b o (k0 b o q)
end
end Tr

set_option Elab.async false
set_option linter.all false
set_option maxRecDepth 100000
set_option maxHeartbeats 1000000
/-! What the operations answer, by values. -/
namespace Tr
open PySem PySem.Spec PyProof.Rows L2
section
variable {X : Cx} {pins : List (Addr × Obj)} {σ : St} {s : Shared} {F : Addr → Prop} {H : Hp} {L : List (V × Vl)}

theorem RelD.reads (hI : Inv X pins σ H s) (d : D) (v : V) (u : Value) (h : RelD X.K F H v d) (r : RelV v u) : ∃ as, Reads s.heap u d as :=
  RelD.rec (motive_1 := fun v d _ => ∀ u, RelV v u → ∃ as, Reads s.heap u d as) (motive_2 := fun vs ds _ => ∀ us, Vals vs us → ∃ as, ReadsAll s.heap us ds as)
    (fun u r => by cases r; exact ⟨_, .none⟩) (fun b u r => by cases r; exact ⟨_, .bool b⟩) (fun i u r => by obtain ⟨t, rfl⟩ := r; exact ⟨_, .int i t⟩) (fun x u r => by obtain ⟨t, rfl⟩ := r; exact ⟨_, .str x t⟩)
    (fun h1 _ ih u r => by
      cases r
      obtain ⟨us, ru, ⟨ob, n, g1, g2, _, g3⟩, _⟩ := hI.list (h1.sq (K := X.K))
      obtain ⟨as, q⟩ := ih us ru
      exact ⟨_, .list g1 g2 g3 q⟩)
    (fun h1 _ ih u r => by
      cases r
      obtain ⟨us, ru, ⟨ob, g1, g2, n, g3⟩, _⟩ := hI.tuple h1.sq
      obtain ⟨as, q⟩ := ih us ru
      exact ⟨_, .tuple g1 g2 g3 q⟩)
    (fun h1 n _ _ ih1 ih2 u r => by
      cases r
      obtain ⟨hx, es, ep, hd, en⟩ := h1.is_
      obtain ⟨v1, v2, _⟩ := en.vals
      obtain ⟨as, q1⟩ := ih1 _ v1
      obtain ⟨bs, q2⟩ := ih2 _ v2
      exact ⟨_, .dict (h1.obj hI) hx.1 hd q1 q2⟩)
    (fun us r => by cases r; exact ⟨_, .nil⟩)
    (fun _ _ ih1 ih2 us r => by
      cases r with
      | cons r1 r2 =>
        obtain ⟨as, q1⟩ := ih1 _ r1
        obtain ⟨bs, q2⟩ := ih2 _ r2
        exact ⟨_, .cons q1 q2⟩) h u r
theorem RelDs.reads (hI : Inv X pins σ H s) : ∀ (ds : List D) (vs : List V) (us : List Value), RelDs X.K F H vs ds → Vals vs us → ∃ as, ReadsAll s.heap us ds as
  | [], _, _, h, r => by cases h; cases r; exact ⟨_, .nil⟩
  | d :: ds, _, _, h, r => by
    cases h with
    | cons h1 h2 =>
      cases r with
      | cons r1 r2 =>
        obtain ⟨as, q1⟩ := RelD.reads hI d _ _ h1 r1
        obtain ⟨bs, q2⟩ := RelDs.reads hI ds _ _ h2 r2
        exact ⟨_, .cons q1 q2⟩
theorem RelO.reads (hI : Inv X pins σ H s) {d : D} {v : V} {u : Value} (h : RelO X.K F H v d) (r : RelV v u) : ∃ as, Reads s.heap u d as := by
  cases h with
  | fz h => exact RelD.reads hI d v u h r
  | @ol a xs ds h1 h2 =>
    cases r
    obtain ⟨us, ru, ⟨ob, n, g1, g2, _, g3⟩, _⟩ := hI.list (SqL.of (K := X.K) h1)
    obtain ⟨as, q⟩ := RelDs.reads hI ds _ us h2 ru
    exact ⟨_, .list g1 g2 g3 q⟩
  | @od a o kvs ks vs h1 h2 h3 =>
    cases r
    obtain ⟨hx, es, ep, hd, en⟩ := h1.is_
    obtain ⟨v1, v2, _⟩ := en.vals
    obtain ⟨as, q1⟩ := RelDs.reads hI _ _ _ h2 v1
    obtain ⟨bs, q2⟩ := RelDs.reads hI _ _ _ h3 v2
    exact ⟨_, .dict (h1.obj hI) hx.1 hd q1 q2⟩
  | @scr a ns h1 =>
    have h0 : RelO X.K F H (.ref a) (.list (ns.map .int)) := .scr h1
    obtain ⟨a', xs, e, q1, q2⟩ := h0.list
    cases e
    cases r
    obtain ⟨us, ru, ⟨ob, n, g1, g2, _, g3⟩, _⟩ := hI.list q1
    obtain ⟨as, q⟩ := RelDs.reads hI _ _ us q2 ru
    exact ⟨_, .list g1 g2 g3 q⟩
/-- {} read -/
theorem DAt.reads0 (hI : Inv X pins σ H s) {a : Addr} {o : Obj} {ks vs : List V} (h1 : DAt H a o [] ks vs) : Reads s.heap (.ref a) (.dict []) [a] ∧ sysModules ∉ [a] := by
  obtain ⟨hx, es, ep, hd, en⟩ := h1.is_
  have e0 : es.toList = [] := by
    generalize es.toList = l at en
    cases en
    rfl
  have q : Reads s.heap (.ref a) (.dict []) (a :: [] ++ []) := .dict (h1.obj hI) hx.1 hd (by rw [e0]; exact .nil) (by rw [e0]; exact .nil)
  refine ⟨q, fun z => ?_⟩
  have := h1.low
  rw [List.mem_singleton] at z
  rw [← z] at this
  simp at this
mutual
/-- what is read where there is no list, no dict but {} -/
theorem RelD.readsN (hI : Inv X pins σ H s) : ∀ (d : D) (v : V) (u : Value), RelD X.K F H v d → nlD d = true → RelV v u → ∃ as, Reads s.heap u d as ∧ sysModules ∉ as
  | .none, _, _, h, _, r => by cases h; cases r; exact ⟨_, .none, by simp⟩
  | .bool b, _, _, h, _, r => by cases h; cases r; exact ⟨_, .bool b, by simp⟩
  | .int i, _, _, h, _, r => by cases h; obtain ⟨t, rfl⟩ := r; exact ⟨_, .int i t, by simp⟩
  | .str x, _, _, h, _, r => by cases h; obtain ⟨t, rfl⟩ := r; exact ⟨_, .str x t, by simp⟩
  | .list _, _, _, _, n, _ => by simp [nlD] at n
  | .tuple ds, _, _, h, n, r => by
    cases h with
    | tup h1 h2 =>
      cases r
      obtain ⟨us, ru, ⟨ob, g1, g2, k, g3⟩, _⟩ := hI.tuple h1.sq
      simp only [nlD] at n
      obtain ⟨as, q, q2⟩ := RelDs.readsN hI ds _ us h2 n ru
      exact ⟨_, .tuple g1 g2 g3 q, q2⟩
  | .dict kvs, _, _, h, n, r => by
    simp only [nlD] at n
    cases kvs with
    | cons _ _ => cases n
    | nil =>
      cases h with
      | dct h1 _ h2 h3 =>
        cases r
        obtain ⟨q1, q2⟩ := h1.reads0 hI
        exact ⟨_, q1, q2⟩
theorem RelDs.readsN (hI : Inv X pins σ H s) : ∀ (ds : List D) (vs : List V) (us : List Value), RelDs X.K F H vs ds → nlDs ds = true → Vals vs us → ∃ as, ReadsAll s.heap us ds as ∧ sysModules ∉ as
  | [], _, _, h, _, r => by cases h; cases r; exact ⟨_, .nil, by simp⟩
  | d :: ds, _, _, h, n, r => by
    simp only [nlDs, Bool.and_eq_true] at n
    cases h with
    | cons h1 h2 =>
      cases r with
      | cons r1 r2 =>
        obtain ⟨as, q1, n1⟩ := RelD.readsN hI d _ _ h1 n.1 r1
        obtain ⟨bs, q2, n2⟩ := RelDs.readsN hI ds _ _ h2 n.2 r2
        exact ⟨_, .cons q1 q2, fun z => (List.mem_append.mp z).elim n1 n2⟩
end
theorem Opd.pair {K : PySem.W.Frag} {x y : V} {d e : D} (h : Opd K H [x, y] [d, e] L) : ∃ F, RelO K F H x d ∧ RelO K F H y e := by
  obtain ⟨fs, _, _, o⟩ := h
  cases o with
  | cons h1 o =>
    cases o with
    | cons h2 _ => exact ⟨_, h1, h2⟩
theorem OpdM.pair {K : PySem.W.Frag} {x y : V} {d e : D} (h : OpdM K H [x, y] [d, e] L) : ∃ F, RelM K F H x d ∧ RelM K F H y e := by
  obtain ⟨fs, _, _, o⟩ := h
  cases o with
  | cons h1 o =>
    cases o with
    | cons h2 _ => exact ⟨_, h1, h2⟩
theorem Opd.one {K : PySem.W.Frag} {x : V} {d : D} (h : Opd K H [x] [d] L) : ∃ F, RelO K F H x d := by
  obtain ⟨fs, _, _, o⟩ := h
  cases o with
  | cons h1 _ => exact ⟨_, h1⟩
/-- a scalar answer -/
theorem Opd.sc {K : PySem.W.Frag} {vs : List V} {ds : List D} {d : D} {v : V} (h : Opd K H vs ds L) (e : scalD d = some v) : Live K H ((v, .fz d) :: L) := h.live.scal e

def bopO : Bop → Operator
  | .add => .Add
  | .sub => .Sub
  | .mul => .Mult
  | .fdiv => .FloorDiv
  | .mod => .Mod
  | .pow => .Pow
def rBin (K : PySem.W.Frag) (op : Bop) : R2 := fun x y H Q => ∃ d e L z, OpdM K H [x, y] [d, e] L ∧ binD op d e = some z ∧ ∀ v H', Live K H' ((v, z) :: L) → Q v H'
theorem szOk {n : Nat} (h : okSz n = true) : n ≤ sizeLine := by
  rw [sizeLine_eq]
  exact of_decide_eq_true h
theorem paired2 {α β : Type} {P : α → β → Prop} {x y : α} {d e : β} (o : Paired P [x, y] [d, e]) : P x d ∧ P y e := by
  cases o with
  | cons h1 o =>
    cases o with
    | cons h2 _ => exact ⟨h1, h2⟩
theorem paired1 {α β : Type} {P : α → β → Prop} {x : α} {d : β} (o : Paired P [x] [d]) : P x d := by
  cases o with
  | cons h1 o => exact h1
theorem ite_some {α : Type} {c : Bool} {x z : α} (h : (if c = true then some x else Option.none) = some z) : c = true ∧ x = z := by
  cases c with
  | true => exact ⟨rfl, Option.some.inj h⟩
  | false => cases h
theorem op_binD (op : Bop) : OpR X (binaryOp (bopO op)) (rBin X.K op) := by
  intro pins s σ H x y v u Q hI rx ry hq
  obtain ⟨d, e, L, z, o, ez, q⟩ := hq
  obtain ⟨F, h1, h2⟩ := o.pair
  cases op with
  | add =>
    cases d <;> cases e <;> first | cases ez | skip
    · have e1 := h1.o.int; have e2 := h2.o.int; subst e1; subst e2
      exact op_add pins s σ H _ _ v u Q hI rx ry ⟨_, _, rfl, rfl, q _ _ (o.o.sc rfl)⟩
    · rename_i a b
      have e1 := h1.o.str; have e2 := h2.o.str; subst e1; subst e2
      simp only [binD] at ez
      split at ez
      · rename_i sz
        cases ez
        exact op_add_str pins s σ H _ _ v u Q hI rx ry ⟨_, _, rfl, rfl, szOk sz, q _ _ (o.o.sc rfl)⟩
      · cases ez
    · rename_i ds es
      simp only [binD] at ez
      split at ez
      · rename_i sz
        cases ez
        obtain ⟨a, xs, rfl, ha, ra⟩ := h1.list
        obtain ⟨b, ys, rfl, hb, rb⟩ := h2.list
        refine op_cat pins s σ H _ _ v u Q hI rx ry ⟨a, b, xs, ys, rfl, rfl, ha, hb, ?_, fun p hp => q _ _ ?_⟩
        · rw [ra.length, rb.length]; exact szOk sz
        · refine o.o.lst hp fun F' o' => ?_
          obtain ⟨p1, p2⟩ := paired2 o'
          obtain ⟨a', xs', e1, ha', ra'⟩ := p1.list
          obtain ⟨b', ys', e2, hb', rb'⟩ := p2.list
          cases e1; cases e2
          have q1 : SqL X.K H a xs := SqL.of ha
          have q2 : SqL X.K H b ys := SqL.of hb
          rw [hI.list_inj ha' q1] at ra'
          rw [hI.list_inj hb' q2] at rb'
          exact ra'.append rb'
      · cases ez
    · rename_i ds es
      simp only [binD] at ez
      split at ez
      · rename_i sz
        cases ez
        obtain ⟨a, xs, rfl, ha, ra⟩ := h1.o.tuple
        obtain ⟨b, ys, rfl, hb, rb⟩ := h2.o.tuple
        have both : ∀ F', Paired (RelO X.K F' H) [.ref a, .ref b] [.tuple ds, .tuple es] → RelDs X.K F' H xs ds ∧ RelDs X.K F' H ys es := fun F' o' => by
          obtain ⟨p1, p2⟩ := paired2 o'
          obtain ⟨a', xs', e1, ha', ra'⟩ := p1.tuple
          obtain ⟨b', ys', e2, hb', rb'⟩ := p2.tuple
          cases e1; cases e2
          rw [hI.tuple_inj ha' ha] at ra'
          rw [hI.tuple_inj hb' hb] at rb'
          exact ⟨ra', rb'⟩
        have stand : ∀ F' {c : Addr} {ws : List D} {zs : List V}, RelO X.K F' H (.ref c) (.tuple ws) → RelD X.K F' H (.ref c) (.tuple ws) := fun F' {c ws zs} z => by
          cases z with
          | fz z => exact z
        refine op_catA pins s σ H _ _ v u Q hI rx ry ⟨a, b, xs, ys, rfl, rfl, ha, hb, ?_, fun hn => q _ _ ?_, fun _ hn => q _ _ ?_, fun _ _ p hp => q _ _ ?_⟩
        · rw [ra.length, rb.length]; exact szOk sz
        · refine o.o.fz fun F' o' => ?_
          have := (both F' o').1.length
          rw [hn] at this
          have e0 : ds = [] := List.eq_nil_of_length_eq_zero this.symm
          subst e0
          exact stand F' (zs := ys) (paired2 o').2
        · refine o.o.fz fun F' o' => ?_
          have := (both F' o').2.length
          rw [hn] at this
          have e0 : es = [] := List.eq_nil_of_length_eq_zero this.symm
          subst e0
          rw [List.append_nil]
          exact stand F' (zs := xs) (paired2 o').1
        · exact o.o.tup hp fun F' o' => (both F' o').1.append (both F' o').2
      · cases ez
  | sub =>
    cases d <;> cases e <;> first | cases ez | skip
    have e1 := h1.o.int; have e2 := h2.o.int; subst e1; subst e2
    exact op_sub pins s σ H _ _ v u Q hI rx ry ⟨_, _, rfl, rfl, q _ _ (o.o.sc rfl)⟩
  | mul =>
    cases d <;> cases e <;> first | cases ez | skip
    · have e1 := h1.o.int; have e2 := h2.o.int; subst e1; subst e2
      simp only [binD] at ez
      split at ez
      · rename_i c
        cases ez
        simp only [Bool.or_eq_true, decide_eq_true_eq] at c
        rcases c with (c | c) | c
        · exact op_mul pins s σ H _ _ v u Q hI rx ry ⟨_, _, rfl, rfl, .inl ⟨by omega, by omega⟩, q _ _ (o.o.sc rfl)⟩
        · exact op_mul pins s σ H _ _ v u Q hI rx ry ⟨_, _, rfl, rfl, .inr ⟨by omega, by omega⟩, q _ _ (o.o.sc rfl)⟩
        · exact op_mulW pins s σ H _ _ v u Q hI rx ry ⟨_, _, rfl, rfl, c, q _ _ (o.o.sc rfl)⟩
      · cases ez
    · rename_i ds k
      have e2 := h2.o.int; subst e2
      simp only [binD] at ez
      split at ez
      · rename_i c
        cases ez
        simp only [Bool.and_eq_true, decide_eq_true_eq] at c
        obtain ⟨a, xs, rfl, ha, ra⟩ := h1.list
        refine op_rep pins s σ H _ _ v u Q hI rx ry ⟨a, k, xs, rfl, rfl, ha, by omega, by omega, ?_, fun p hp => q _ _ ?_⟩
        · rw [ra.length, sizeLine_eq]
          have a1 : ds.length * k.toNat ≤ 1000 * 1000 := Nat.mul_le_mul c.2 (by omega)
          omega
        · refine o.o.lst hp fun F' o' => ?_
          obtain ⟨a', xs', e1, ha', ra'⟩ := (paired2 o').1.list
          cases e1
          have q1 : SqL X.K H a xs := SqL.of ha
          rw [hI.list_inj ha' q1] at ra'
          exact ra'.rep _
      · cases ez
    · rename_i ds k
      have e2 := h2.o.int; subst e2
      simp only [binD] at ez
      split at ez
      · rename_i c
        cases ez
        simp only [Bool.and_eq_true, decide_eq_true_eq] at c
        obtain ⟨a, xs, rfl, ha, ra⟩ := h1.o.tuple
        have hl := ra.length
        have key : ∀ F', Paired (RelO X.K F' H) [.ref a, .int k] [.tuple ds, .int k] → RelDs X.K F' H (List.replicate k.toNat xs).flatten (repD k ds) := fun F' o' => by
          obtain ⟨a', xs', e1, ha', ra'⟩ := (paired2 o').1.tuple
          cases e1
          rw [hI.tuple_inj ha' ha] at ra'
          exact ra'.rep _
        refine op_repA pins s σ H _ _ v u Q hI rx ry ⟨a, k, xs, rfl, rfl, ha, c.1.1, c.1.2, by omega, fun hs => q _ _ ?_, fun p hp => q _ _ ?_⟩
        · refine o.o.fz fun F' o' => ?_
          have r := key F' o'
          rw [hs] at r
          cases (paired2 o').1 with
          | fz z =>
            cases z with
            | tup h3 h4 => exact .tup (by
                obtain ⟨a', xs', e1, ha', ra'⟩ := (paired2 o').1.tuple
                cases e1
                rw [hI.tuple_inj ha' ha] at ra'
                exact (show xs = _ from hI.tuple_inj ha h3.sq) ▸ h3) r
        · exact o.o.tup hp fun F' o' => key F' o'
      · cases ez
  | fdiv =>
    cases d <;> cases e <;> first | cases ez | skip
    have e1 := h1.o.int; have e2 := h2.o.int; subst e1; subst e2
    simp only [binD] at ez
    split at ez
    · rename_i c
      cases ez
      simp only [Bool.and_eq_true, decide_eq_true_eq] at c
      exact op_fdiv pins s σ H _ _ v u Q hI rx ry ⟨_, _, rfl, rfl, c, q _ _ (o.o.sc rfl)⟩
    · cases ez
  | mod =>
    cases d <;> cases e <;> first | cases ez | skip
    have e1 := h1.o.int; have e2 := h2.o.int; subst e1; subst e2
    simp only [binD] at ez
    split at ez
    · rename_i c
      cases ez
      exact op_mod pins s σ H _ _ v u Q hI rx ry ⟨_, _, rfl, rfl, of_decide_eq_true c, q _ _ (o.o.sc rfl)⟩
    · cases ez
  | pow =>
    cases d <;> cases e <;> first | cases ez | skip
    have e1 := h1.o.int; have e2 := h2.o.int; subst e1; subst e2
    simp only [binD] at ez
    split at ez
    · rename_i c
      cases ez
      simp only [Bool.and_eq_true, decide_eq_true_eq] at c
      exact op_pow pins s σ H _ _ v u Q hI rx ry ⟨_, _, rfl, rfl, ⟨c.1.1, c.1.2, c.2⟩, q _ _ (o.o.sc rfl)⟩
    · cases ez

/-! ### comparisons -/
def copO : Cop → CmpOp
  | .eq => .Eq
  | .ne => .NotEq
  | .lt => .Lt
  | .le => .LtE
  | .gt => .Gt
  | .ge => .GtE
  | .isin => .In
  | .notin => .NotIn
def rCop (K : PySem.W.Frag) (op : Cop) : R2 := fun x y H Q => ∃ d e L z, Opd K H [x, y] [d, e] L ∧ cmpD op d e = some z ∧ ∀ H', Live K H' L → Q (.bl z) H'
/-- each item beside its data: what == with x answers -/
theorem items_eqv {d : D} {u : Value} {as : List Addr} (hI : Inv X pins σ H s) (hu : X.A.in1.units + 64 < cLine) (rd : Reads s.heap u d as) (sd : SeqAt.shaped d = true) {xs : List V} {ds : List D} {us : List Value}
    (r : RelDs X.K F H xs ds) (rv : Vals xs us) (hs : ds.all SeqAt.shaped = true) :
    ∃ e : Value → Bool, (∀ y, y ∈ us → SeqAt.EqAt X.A.in1 s y u (e y)) ∧ us.any e = inD d ds := by
  refine ⟨fun y => (Classical.propDecidable (∃ dy as, Reads s.heap y dy as ∧ PyData.eqv dy d = true)).decide, ?_, ?_⟩
  · induction rv generalizing ds with
    | nil => intro y hy; cases hy
    | @cons x w xs us rx _ ih =>
      cases r with
      | @cons _ _ dx _ r1 r2 =>
        simp only [List.all_cons, Bool.and_eq_true] at hs
        intro y hy
        rcases List.mem_cons.mp hy with e | hy
        · subst e
          obtain ⟨bs, q⟩ := RelD.reads hI dx x y r1 rx
          have key := SeqAt.eqAt_reads dx d X.A.in1 s y u bs as q rd (SeqAt.canLay_of_shaped hs.1) (SeqAt.canLay_of_shaped sd) (SeqAt.room_of_shaped hs.1 hu)
          have eb : PyData.eqv dx d = (Classical.propDecidable (∃ dy as, Reads s.heap y dy as ∧ PyData.eqv dy d = true)).decide := by
            cases c : PyData.eqv dx d with
            | true => exact (@decide_eq_true _ (Classical.propDecidable _) ⟨dx, bs, q, c⟩).symm
            | false =>
              refine (@decide_eq_false _ (Classical.propDecidable _) ?_).symm
              rintro ⟨dy, cs, q2, c2⟩
              rw [← (Reads.unique q dy cs q2).1] at c2
              rw [c] at c2; cases c2
          show SeqAt.EqAt X.A.in1 s y u (Classical.propDecidable (∃ dy as, Reads s.heap y dy as ∧ PyData.eqv dy d = true)).decide
          rw [← eb]
          exact key
        · exact ih r2 hs.2 y hy
  · induction rv generalizing ds with
    | nil => cases r; rfl
    | @cons x w xs us rx _ ih =>
      cases r with
      | @cons _ _ dx _ r1 r2 =>
        simp only [List.all_cons, Bool.and_eq_true] at hs
        obtain ⟨bs, q⟩ := RelD.reads hI dx x w r1 rx
        have eb : (Classical.propDecidable (∃ dy as, Reads s.heap w dy as ∧ PyData.eqv dy d = true)).decide = PyData.eqv dx d := by
          cases c : PyData.eqv dx d with
          | true => exact (@decide_eq_true _ (Classical.propDecidable _) ⟨dx, bs, q, c⟩)
          | false =>
            refine (@decide_eq_false _ (Classical.propDecidable _) ?_)
            rintro ⟨dy, cs, q2, c2⟩
            rw [← (Reads.unique q dy cs q2).1] at c2
            rw [c] at c2; cases c2
        unfold inD
        rw [List.any_cons, List.any_cons, eb]
        have := ih r2 hs.2
        unfold inD at this
        rw [this]
/-- .. how many -/
theorem items_eqvC {d : D} {u : Value} {as : List Addr} (hI : Inv X pins σ H s) (hu : X.A.in1.units + 64 < cLine) (rd : Reads s.heap u d as) (sd : SeqAt.shaped d = true) {xs : List V} {ds : List D} {us : List Value}
    (r : RelDs X.K F H xs ds) (rv : Vals xs us) (hs : ds.all SeqAt.shaped = true) :
    ∃ e : Value → Bool, (∀ y, y ∈ us → SeqAt.EqAt X.A.in1 s y u (e y)) ∧ us.countP e = ds.countP fun y => PyData.eqv y d := by
  refine ⟨fun y => (Classical.propDecidable (∃ dy as, Reads s.heap y dy as ∧ PyData.eqv dy d = true)).decide, ?_, ?_⟩
  · induction rv generalizing ds with
    | nil => intro y hy; cases hy
    | @cons x w xs us rx _ ih =>
      cases r with
      | @cons _ _ dx _ r1 r2 =>
        simp only [List.all_cons, Bool.and_eq_true] at hs
        intro y hy
        rcases List.mem_cons.mp hy with e | hy
        · subst e
          obtain ⟨bs, q⟩ := RelD.reads hI dx x y r1 rx
          have key := SeqAt.eqAt_reads dx d X.A.in1 s y u bs as q rd (SeqAt.canLay_of_shaped hs.1) (SeqAt.canLay_of_shaped sd) (SeqAt.room_of_shaped hs.1 hu)
          have eb : PyData.eqv dx d = (Classical.propDecidable (∃ dy as, Reads s.heap y dy as ∧ PyData.eqv dy d = true)).decide := by
            cases c : PyData.eqv dx d with
            | true => exact (@decide_eq_true _ (Classical.propDecidable _) ⟨dx, bs, q, c⟩).symm
            | false =>
              refine (@decide_eq_false _ (Classical.propDecidable _) ?_).symm
              rintro ⟨dy, cs, q2, c2⟩
              rw [← (Reads.unique q dy cs q2).1] at c2
              rw [c] at c2; cases c2
          show SeqAt.EqAt X.A.in1 s y u (Classical.propDecidable (∃ dy as, Reads s.heap y dy as ∧ PyData.eqv dy d = true)).decide
          rw [← eb]
          exact key
        · exact ih r2 hs.2 y hy
  · induction rv generalizing ds with
    | nil => cases r; rfl
    | @cons x w xs us rx _ ih =>
      cases r with
      | @cons _ _ dx _ r1 r2 =>
        simp only [List.all_cons, Bool.and_eq_true] at hs
        obtain ⟨bs, q⟩ := RelD.reads hI dx x w r1 rx
        have eb : (Classical.propDecidable (∃ dy as, Reads s.heap w dy as ∧ PyData.eqv dy d = true)).decide = PyData.eqv dx d := by
          cases c : PyData.eqv dx d with
          | true => exact (@decide_eq_true _ (Classical.propDecidable _) ⟨dx, bs, q, c⟩)
          | false =>
            refine (@decide_eq_false _ (Classical.propDecidable _) ?_)
            rintro ⟨dy, cs, q2, c2⟩
            rw [← (Reads.unique q dy cs q2).1] at c2
            rw [c] at c2; cases c2
        rw [List.countP_cons, List.countP_cons, eb, ih r2 hs.2]
/-- a key that fits is no list of someone -/
theorem RelO.ofKey {K : PySem.W.Frag} {kvs : List (D × D)} {d : D} {v : V} (h : RelO K F H v d) (c : kfit kvs d = true) : RelD K F H v d := by
  cases h with
  | fz h => exact h
  | ol _ _ => rcases kfit_or c with ⟨q, _⟩ | ⟨q, _⟩ <;> cases q
  | od _ _ _ => rcases kfit_or c with ⟨q, _⟩ | ⟨q, _⟩ <;> cases q
  | scr _ => rcases kfit_or c with ⟨q, _⟩ | ⟨q, _⟩ <;> cases q
def rCnt (K : PySem.W.Frag) : V → List V → Hp → VK → Prop := fun x xs H Q => ∃ ds e L, xs.length = 1 ∧ Opd K H (x :: xs) [.list ds, e] L ∧ (SeqAt.shaped e && ds.all SeqAt.shaped) = true ∧ Q (.int ((ds.countP fun y => PyData.eqv y e : Nat) : Int)) H
theorem mt_cnt (hu : X.A.units + 70 < cLine) : MtR X "list.count" (rCnt X.K) := by
  intro pins s σ H x xs v us Q hI rx rxs h
  obtain ⟨ds, e, L, hl, o, c, q⟩ := h
  obtain ⟨y, rfl⟩ : ∃ y, xs = [y] := by
    match xs, hl with
    | [y], _ => exact ⟨y, rfl⟩
  rw [Bool.and_eq_true] at c
  obtain ⟨F, h1, h2⟩ := o.pair
  obtain ⟨u, rfl, ru⟩ := rxs.one
  obtain ⟨as, g1⟩ := h2.reads hI ru
  have hu1 : X.A.in1.units + 64 < cLine := by show X.A.units + 1 + 64 < cLine; omega
  obtain ⟨a, ys, rfl, ha, ra⟩ := h1.list
  cases rx
  obtain ⟨its, rv, ⟨⟨cls, dd, data, sl⟩, n, ho, hc, hdn, hd⟩, _⟩ := hI.list ha
  simp only at hc hd
  subst hc hd
  obtain ⟨ef, k1, k2⟩ := items_eqvC hI hu1 g1 c.1 ra rv c.2
  refine call_meets PySem.F.slot_list_count ⟨_, ho, rfl⟩ PySem.F.entry_list_count (PySem.F.args_list_count_2 _ _)
    (SeqAt.list_countAt a its.toArray n dd sl u ef) ⟨ho, fun y hy => k1 y (by simpa using hy), ?_⟩
  refine ⟨.int ((ds.countP fun y => PyData.eqv y e : Nat) : Int), H, hI.tok _, ⟨s.toks, ?_⟩, q⟩
  show Value.int ((its.toArray.toList.countP ef : Nat) : Int) s.toks = Value.int ((ds.countP fun y => PyData.eqv y e : Nat) : Int) s.toks
  have e2 : its.toArray.toList = its := rfl
  rw [e2, k2]
theorem op_copD (op : Cop) (hu : X.A.units + 70 < cLine) : OpR X (compareOp (copO op)) (rCop X.K op) := by
  intro pins s σ H x y v u Q hI rx ry hq
  obtain ⟨d, e, L, z, o, ez, q⟩ := hq
  obtain ⟨F, h1, h2⟩ := o.pair
  have hu1 : X.A.in1.units + 64 < cLine := by show X.A.units + 1 + 64 < cLine; omega
  have fin : EP X pins σ Q (.bool z) s := ⟨.bl z, H, hI, rfl, q H o.live⟩
  cases op with
  | eq =>
    by_cases hst : ∃ a b, d = .str a ∧ e = .str b
    · obtain ⟨a, b, rfl, rfl⟩ := hst
      cases ez
      have e1 := h1.str; have e2 := h2.str; subst e1; subst e2
      refine op_eq pins s σ H _ _ v u Q hI rx ry ⟨rfl, ?_⟩
      have e3 : decide (V.str a = V.str b) = decide (a = b) := by simp
      rw [e3]
      exact q _ o.live
    · by_cases hdc : ∃ kvs, d = .dict kvs ∧ e = .dict []
      · obtain ⟨kvs, rfl, rfl⟩ := hdc
        cases ez
        obtain ⟨a, o1, ks, vs, rfl, da, _, _⟩ := h1.dict
        obtain ⟨b, o2, ks2, vs2, rfl, db, _, _⟩ := h2.dict
        cases rx; cases ry
        exact eq_empty hI (by omega) da db fin
      have ez' : (if okEq d e = true then some (PyData.eqv d e) else none) = some z := by
        rw [← ez]
        cases d <;> cases e <;> first | rfl | exact (hst ⟨_, _, rfl, rfl⟩).elim | (rename_i l1 l2; cases l2 <;> first | rfl | exact (hdc ⟨_, rfl, rfl⟩).elim)
      obtain ⟨c, rfl⟩ := ite_some ez'
      unfold okEq at c
      simp only [Bool.and_eq_true] at c
      obtain ⟨as, g1⟩ := h1.reads hI rx
      obtain ⟨bs, g2⟩ := h2.reads hI ry
      exact SeqAt.compareEq_shaped g1 g2 c.1 c.2 (by omega) fin
  | ne =>
    by_cases hst : ∃ a b, d = .str a ∧ e = .str b
    · obtain ⟨a, b, rfl, rfl⟩ := hst
      cases ez
      have e1 := h1.str; have e2 := h2.str; subst e1; subst e2
      refine op_ne pins s σ H _ _ v u Q hI rx ry ⟨rfl, ?_⟩
      have e3 : decide (V.str a = V.str b) = decide (a = b) := by simp
      rw [e3]
      exact q _ o.live
    · by_cases hdc : ∃ kvs, d = .dict kvs ∧ e = .dict []
      · obtain ⟨kvs, rfl, rfl⟩ := hdc
        cases ez
        obtain ⟨a, o1, ks, vs, rfl, da, _, _⟩ := h1.dict
        obtain ⟨b, o2, ks2, vs2, rfl, db, _, _⟩ := h2.dict
        cases rx; cases ry
        exact ne_empty hI (by omega) da db fin
      have ez' : (if okEq d e = true then some (!PyData.eqv d e) else none) = some z := by
        rw [← ez]
        cases d <;> cases e <;> first | rfl | exact (hst ⟨_, _, rfl, rfl⟩).elim | (rename_i l1 l2; cases l2 <;> first | rfl | exact (hdc ⟨_, rfl, rfl⟩).elim)
      obtain ⟨c, rfl⟩ := ite_some ez'
      unfold okEq at c
      simp only [Bool.and_eq_true] at c
      obtain ⟨as, g1⟩ := h1.reads hI rx
      obtain ⟨bs, g2⟩ := h2.reads hI ry
      exact SeqAt.compareNe_shaped g1 g2 c.1 c.2 (by omega) fin
  | lt =>
    cases d <;> cases e <;> first | cases ez | skip
    have e1 := h1.int; have e2 := h2.int; subst e1; subst e2
    exact op_lt pins s σ H _ _ v u Q hI rx ry ⟨_, _, rfl, rfl, q _ o.live⟩
  | le =>
    cases d <;> cases e <;> first | cases ez | skip
    have e1 := h1.int; have e2 := h2.int; subst e1; subst e2
    exact op_le pins s σ H _ _ v u Q hI rx ry ⟨_, _, rfl, rfl, q _ o.live⟩
  | gt =>
    cases d <;> cases e <;> first | cases ez | skip
    have e1 := h1.int; have e2 := h2.int; subst e1; subst e2
    exact op_gt pins s σ H _ _ v u Q hI rx ry ⟨_, _, rfl, rfl, q _ o.live⟩
  | ge =>
    cases d <;> cases e <;> first | cases ez | skip
    have e1 := h1.int; have e2 := h2.int; subst e1; subst e2
    exact op_ge pins s σ H _ _ v u Q hI rx ry ⟨_, _, rfl, rfl, q _ o.live⟩
  | isin =>
    by_cases hdc : ∃ kvs, e = .dict kvs
    · obtain ⟨kvs, rfl⟩ := hdc
      have ez' : (if kfit kvs d = true then some (dget kvs d).isSome else none) = some z := by
        rw [← ez]; cases d <;> rfl
      obtain ⟨c, rfl⟩ := ite_some ez'
      obtain ⟨a, o', ks, vs, rfl, da, r1, r2⟩ := h2.dict
      cases ry
      exact md_in (by omega) hI da r1 (h1.ofKey c) rx c fun s' i' => ⟨.bl _, H, i', rfl, q H o.live⟩
    obtain ⟨as, g1⟩ := h1.reads hI rx
    cases e <;> first | exact (hdc ⟨_, rfl⟩).elim | simp only [cmpD] at ez <;> first | cases ez | skip
    all_goals
      (obtain ⟨c, rfl⟩ := ite_some ez)
      simp only [Bool.and_eq_true] at c
      · first
          | (obtain ⟨a, xs, rfl, ha, ra⟩ := h2.list
             cases ry
             obtain ⟨us, rv, pl, _⟩ := hI.list ha
             obtain ⟨ef, k1, k2⟩ := items_eqv hI hu1 g1 c.1 ra rv c.2
             exact SeqAt.in_listAt ef pl.isList (fun w hw => k1 w (by simpa using hw)) (by rw [List.any_toArray, k2]; exact fin))
          | (obtain ⟨a, xs, rfl, ha, ra⟩ := h2.tuple
             cases ry
             obtain ⟨us, rv, pl, _⟩ := hI.tuple ha
             obtain ⟨ef, k1, k2⟩ := items_eqv hI hu1 g1 c.1 ra rv c.2
             exact SeqAt.in_tupleAt ef pl (fun w hw => k1 w (by simpa using hw)) (by rw [List.any_toArray, k2]; exact fin))
  | notin =>
    by_cases hdc : ∃ kvs, e = .dict kvs
    · obtain ⟨kvs, rfl⟩ := hdc
      have ez' : (if kfit kvs d = true then some (!(dget kvs d).isSome) else none) = some z := by
        rw [← ez]; cases d <;> rfl
      obtain ⟨c, rfl⟩ := ite_some ez'
      obtain ⟨a, o', ks, vs, rfl, da, r1, r2⟩ := h2.dict
      cases ry
      exact md_notin (by omega) hI da r1 (h1.ofKey c) rx c fun s' i' => ⟨.bl _, H, i', rfl, q H o.live⟩
    obtain ⟨as, g1⟩ := h1.reads hI rx
    cases e <;> first | exact (hdc ⟨_, rfl⟩).elim | simp only [cmpD] at ez <;> first | cases ez | skip
    all_goals
      (obtain ⟨c, rfl⟩ := ite_some ez)
      simp only [Bool.and_eq_true] at c
      · first
          | (obtain ⟨a, xs, rfl, ha, ra⟩ := h2.list
             cases ry
             obtain ⟨us, rv, pl, _⟩ := hI.list ha
             obtain ⟨ef, k1, k2⟩ := items_eqv hI hu1 g1 c.1 ra rv c.2
             exact SeqAt.notIn_listAt ef pl.isList (fun w hw => k1 w (by simpa using hw)) (by rw [List.any_toArray, k2]; exact fin))
          | (obtain ⟨a, xs, rfl, ha, ra⟩ := h2.tuple
             cases ry
             obtain ⟨us, rv, pl, _⟩ := hI.tuple ha
             obtain ⟨ef, k1, k2⟩ := items_eqv hI hu1 g1 c.1 ra rv c.2
             exact SeqAt.notIn_tupleAt ef pl (fun w hw => k1 w (by simpa using hw)) (by rw [List.any_toArray, k2]; exact fin))

/-! ### an item -/
def rIdx (K : PySem.W.Frag) : R2 := fun x y H Q => ∃ d e L z, Opd K H [x, y] [d, e] L ∧ idxD d e = some z ∧ ∀ v H', Live K H' ((v, .fz z) :: L) → Q v H'
theorem at_place {xs : List V} {ds : List D} {K : PySem.W.Frag} (r : RelDs K F H xs ds) {i : Int} {z : D} (e : ((placeD ds.length i).bind fun j => ds[j]?) = some z) : ∃ v, atI xs i = some v ∧ RelD K F H v z := by
  unfold placeD at e
  cases e1 : ixN ds.length i with
  | none => rw [e1] at e; cases e
  | some j =>
    rw [e1] at e
    obtain ⟨v, q1, q2⟩ := r.getD (i := j) (d := z) e
    refine ⟨v, ?_, q2⟩
    unfold atI
    rw [r.length, e1]
    exact q1
theorem ite_o' {α : Type} {c : Bool} {o : Option α} {b : α} (h : (if c = true then o else Option.none) = some b) : c = true ∧ o = some b := by
  cases c with
  | true => exact ⟨rfl, h⟩
  | false => cases h
theorem ix_idxD (hu : X.A.units + 70 < cLine) : IxR X (rIdx X.K) := by
  intro value slice pins s σ H x y v u Q hI rx ry hq hs
  obtain ⟨d, e, L, z, o, ez, q⟩ := hq
  obtain ⟨F, h1, h2⟩ := o.pair
  by_cases hdc : ∃ kvs, d = .dict kvs
  · obtain ⟨kvs, rfl⟩ := hdc
    have ez' : (if kfit kvs e = true then dget kvs e else none) = some z := by
      rw [← ez]; cases e <;> rfl
    obtain ⟨c, ez'⟩ := ite_o' ez'
    obtain ⟨a, o', ks, vs, rfl, da, r1, r2⟩ := h1.dict
    cases rx
    refine ix_dict hs (da.typeIs hI) ?_
    refine md_item (by omega) hI da r1 (h2.ofKey c) ry c ez' fun v' w s' i' rv vl => ⟨v', H, i', rv, q _ _ ?_⟩
    refine o.fz fun F' o' => ?_
    obtain ⟨a', o2, ks', vs', e1, da', _, r2'⟩ := (paired2 o').1.dict
    cases e1
    obtain ⟨_, _, rfl⟩ := da.det hI da'
    exact vl _ _ _ r2'
  cases d <;> first | exact (hdc ⟨_, rfl⟩).elim | cases e <;> first | cases ez | skip
  · have e2 := h2.int; subst e2
    rename_i zs k
    have e1 := h1.str; subst e1
    simp only [idxD] at ez
    split at ez
    · rename_i c
      refine ix_seq value slice pins s σ H _ _ v u Q hI rx ry ?_ hs
      cases e3 : placeD zs.length k with
      | none => rw [e3] at ez; cases ez
      | some j =>
        rw [e3, Option.bind_some] at ez
        cases e4 : zs.cps.toList[j]? with
        | none => rw [e4] at ez; cases ez
        | some c4 =>
          rw [e4] at ez
          cases ez
          refine .inr (.inr ⟨zs, k, c4, rfl, rfl, szOk c, ?_, q _ _ (o.sc rfl)⟩)
          unfold atI
          have : zs.cps.toList.length = zs.length := by simp [Str.length]
          rw [this]
          unfold placeD at e3
          rw [e3]
          exact e4
    · cases ez
  · have e2 := h2.int; subst e2
    obtain ⟨a, xs, rfl, ha, ra⟩ := h1.list
    obtain ⟨w, q1, _⟩ := at_place ra ez
    refine ix_seq value slice pins s σ H _ _ v u Q hI rx ry (.inl ⟨a, xs, _, w, rfl, rfl, ha, q1, q _ _ ?_⟩) hs
    refine o.fz fun F' o' => ?_
    obtain ⟨a', xs', e1, ha', ra'⟩ := (paired2 o').1.list
    cases e1
    rw [hI.list_inj ha' ha] at ra'
    obtain ⟨w', q1', q2'⟩ := at_place ra' ez
    rw [q1] at q1'
    cases q1'
    exact q2'
  · have e2 := h2.int; subst e2
    obtain ⟨a, xs, rfl, ha, ra⟩ := h1.tuple
    obtain ⟨w, q1, _⟩ := at_place ra ez
    refine ix_seq value slice pins s σ H _ _ v u Q hI rx ry (.inr (.inl ⟨a, xs, _, w, rfl, rfl, ha, q1, q _ _ ?_⟩)) hs
    refine o.fz fun F' o' => ?_
    obtain ⟨a', xs', e1, ha', ra'⟩ := (paired2 o').1.tuple
    cases e1
    rw [hI.tuple_inj ha' ha] at ra'
    obtain ⟨w', q1', q2'⟩ := at_place ra' ez
    rw [q1] at q1'
    cases q1'
    exact q2'

/-! ### slices -/
def rSlc (K : PySem.W.Frag) : V → Option Int → Option Int → Hp → VK → Prop := fun x lo hi H Q => ∃ d L z, Opd K H [x] [d] L ∧ slcD false lo hi d = some z ∧ ∀ v H', Live K H' ((v, z) :: L) → Q v H'
theorem RelDs.cut {K : PySem.W.Frag} {xs : List V} {ds : List D} (r : RelDs K F H xs ds) (lo hi : Option Int) : RelDs K F H (cutV xs lo hi) (cutL ds lo hi) := by
  unfold cutV cutL
  rw [r.length]
  exact (r.drop _).take _
theorem cut_whole {ds : List D} {lo hi : Option Int} (h : HT.sIx ds.length 0 lo = 0 ∧ HT.sIx ds.length ds.length hi = ds.length) : cutL ds lo hi = ds := by
  unfold cutL
  rw [h.1, h.2]
  simp
theorem sl_slcD : SlR X (rSlc X.K) := by
  intro pins s σ H x v vl vu lo hi sl Q hI rx hs pl pu hq
  obtain ⟨d, L, z, o, ez, q⟩ := hq
  obtain ⟨F, h1⟩ := o.one
  cases d <;> simp only [slcD, Bool.false_eq_true, if_false] at ez <;> first | cases ez; done | skip
  · rename_i zs
    · obtain ⟨c, rfl⟩ := ite_some ez
      have e1 := h1.str; subst e1
      exact sl_str pins s σ H _ v vl vu lo hi sl Q hI rx hs pl pu (by
        refine ⟨zs, rfl, szOk c, ?_⟩
        have := q (.str ⟨(cutL zs.cps.toList lo hi).toArray⟩) H (o.sc rfl)
        exact this)
  · rename_i ds
    cases ez
    obtain ⟨a, xs, rfl, ha, ra⟩ := h1.list
    refine sl_list pins s σ H _ v vl vu lo hi sl Q hI rx hs pl pu ⟨a, xs, rfl, ha, fun p hp => q _ _ ?_⟩
    refine o.lst hp fun F' o' => ?_
    obtain ⟨a', xs', e1, ha', ra'⟩ := (paired1 o').list
    cases e1
    rw [hI.list_inj ha' ha] at ra'
    exact ra'.cut lo hi
  · rename_i ds
    cases ez
    obtain ⟨a, xs, rfl, ha, ra⟩ := h1.tuple
    refine sl_tupA pins s σ H _ v vl vu lo hi sl Q hI rx hs pl pu ⟨a, xs, rfl, ha, fun hw => q _ _ ?_, fun _ p hp => q _ _ ?_⟩
    · rw [ra.length] at hw
      rw [cut_whole hw]
      refine o.fz fun F' o' => ?_
      have p1 := paired1 o'
      cases p1 with
      | fz p1 => exact p1
    · refine o.tup hp fun F' o' => ?_
      obtain ⟨a', xs', e1, ha', ra'⟩ := (paired1 o').tuple
      cases e1
      rw [hI.tuple_inj ha' ha] at ra'
      exact ra'.cut lo hi

theorem RelDs.rev {K : PySem.W.Frag} {xs : List V} {ds : List D} (r : RelDs K F H xs ds) : RelDs K F H xs.reverse ds.reverse := by
  induction xs generalizing ds with
  | nil => cases r; exact .nil
  | cons x xs ih =>
    cases r with
    | cons h r2 =>
      rw [List.reverse_cons, List.reverse_cons]
      exact (ih r2).append (.cons h .nil)
def rRv (K : PySem.W.Frag) : V → Hp → VK → Prop := fun x H Q => ∃ d L z, Opd K H [x] [d] L ∧ slcD true none none d = some z ∧ ∀ v H', Live K H' ((v, z) :: L) → Q v H'
theorem rev_of (hI : Inv X pins σ H s) {x : V} {Q : VK} (hq : rRv X.K x H Q) : rRev X.K x H Q := by
  obtain ⟨d, L, z, o, ez, q⟩ := hq
  obtain ⟨F, h1⟩ := o.one
  cases d <;> simp only [slcD, if_true, Option.isNone_none, Bool.and_self] at ez <;> first | cases ez; done | skip
  · rename_i ds
    cases ez
    obtain ⟨a, xs, rfl, ha, ra⟩ := h1.list
    refine ⟨a, xs, rfl, .inl ⟨ha, fun p hp => q _ _ ?_⟩⟩
    refine o.lst hp fun F' o' => ?_
    obtain ⟨a', xs', e1, ha', ra'⟩ := (paired1 o').list
    cases e1
    rw [hI.list_inj ha' ha] at ra'
    exact ra'.rev
  · rename_i ds
    cases ez
    obtain ⟨a, xs, rfl, ha, ra⟩ := h1.tuple
    refine ⟨a, xs, rfl, .inr ⟨ha, fun p hp => q _ _ ?_⟩⟩
    refine o.tup hp fun F' o' => ?_
    obtain ⟨a', xs', e1, ha', ra'⟩ := (paired1 o').tuple
    cases e1
    rw [hI.tuple_inj ha' ha] at ra'
    exact ra'.rev

/-! ### truth -/
def rTru (K : PySem.W.Frag) : V → Hp → (Bool → Hp → Prop) → Prop := fun x H Q => ∃ d L, Opd K H [x] [d] L ∧ (match d with | .str z => okSz z.length = true | .dict _ => False | _ => True) ∧ ∀ H', Live K H' L → Q (truD d) H'
theorem truV_of {K : PySem.W.Frag} {d : D} {x : V} (h1 : RelO K F H x d) (hz : ∀ z, d = .str z → okSz z.length = true) (hn : ∀ kvs, d ≠ .dict kvs) : TruV K x H (truD d) := by
  cases d with
  | none => have e := h1.none; subst e; rfl
  | bool b => have e := h1.bool; subst e; rfl
  | int i => have e := h1.int; subst e; rfl
  | str z =>
    have e := h1.str; subst e
    refine ⟨szOk (hz z rfl), ?_⟩
    simp only [truD]
    cases z.length with
    | zero => rfl
    | succ n => simp; omega
  | list ds =>
    obtain ⟨a, xs, rfl, ha, ra⟩ := h1.list
    refine .inl ⟨xs, ha, ?_⟩
    have := ra.length
    cases xs <;> cases ds <;> first | rfl | cases this
  | tuple ds =>
    obtain ⟨a, xs, rfl, ha, ra⟩ := h1.tuple
    refine .inr (.inl ⟨xs, ha, ?_⟩)
    have := ra.length
    cases xs <;> cases ds <;> first | rfl | cases this
  | dict _ => exact (hn _ rfl).elim
theorem tru_truD : TruR X (rTru X.K) := by
  intro pins s σ H x v Q hI rx hq
  obtain ⟨d, L, o, hz, q⟩ := hq
  obtain ⟨F, h1⟩ := o.one
  exact tru_ok pins s σ H x v Q hI rx ⟨truD d, truV_of h1 (fun z e => by subst e; exact hz) (fun kvs e => by subst e; exact hz), q H o.live⟩
end
end Tr

set_option Elab.async false
set_option linter.all false
set_option maxRecDepth 100000
set_option maxHeartbeats 1000000
/-! What the built-in functions answer, by values. -/
namespace Tr
open PySem PySem.Spec PyProof.Rows L2
section
variable {X : Cx} {pins : List (Addr × Obj)} {σ : St} {s : Shared} {F : Addr → Prop} {H : Hp} {L : List (V × Vl)}
def rBi (K : PySem.W.Frag) (b : Bi) : List V → Hp → VK → Prop := fun xs H Q => ∃ ds L z, Opd K H xs ds L ∧ biD b ds = some z ∧ ∀ v H', Live K H' ((v, z) :: L) → Q v H'
def biV : Bi → Value
  | .len => .builtin "len"
  | .abs => .builtin "abs"
  | .max => .builtin "max"
  | .min => .builtin "min"
  | .sum => .builtin "sum"
  | .int => .type "int"
  | .str => .type "str"
  | .repr => .builtin "repr"
  | .list => .type "list"
  | .tuple => .type "tuple"
  | .sorted => .builtin "sorted"
  | .all => .builtin "all"
  | .divmod => .builtin "divmod"
  | .dict => .type "dict"
  | _ => .none
theorem opd_len {K : PySem.W.Frag} {xs : List V} {ds : List D} (o : Opd K H xs ds L) : xs.length = ds.length := by
  obtain ⟨_, _, _, p⟩ := o
  exact Paired.length p
theorem opd_one {K : PySem.W.Frag} {xs : List V} {d : D} (o : Opd K H xs [d] L) : ∃ x, xs = [x] := by
  have := opd_len o
  cases xs with
  | nil => cases this
  | cons x xs =>
    cases xs with
    | nil => exact ⟨x, rfl⟩
    | cons y xs => cases this
theorem opd_two {K : PySem.W.Frag} {xs : List V} {d e : D} (o : Opd K H xs [d, e] L) : ∃ x y, xs = [x, y] := by
  have := opd_len o
  cases xs with
  | nil => cases this
  | cons x xs =>
    cases xs with
    | nil => cases this
    | cons y xs =>
      cases xs with
      | nil => exact ⟨x, y, rfl⟩
      | cons z xs => cases this
theorem ints_rel {K : PySem.W.Frag} : ∀ {xs : List V} {ds : List D} {ns : List Int}, RelDs K F H xs ds → intsD ds = some ns → xs = ns.map V.int
  | _, _, _, .nil, e => by cases e; rfl
  | _, _, _, .cons (d := d) (ds := ds) h1 h2, e => by
    cases d <;> simp only [intsD] at e <;> first | cases e; done | skip
    cases e1 : intsD ds with
    | none => rw [e1] at e; cases e
    | some ms =>
      rw [e1] at e
      cases e
      cases h1
      rw [ints_rel h2 e1]
      rfl
theorem bools_rel {K : PySem.W.Frag} : ∀ {xs : List V} {ds : List D} {ns : List Bool}, RelDs K F H xs ds → boolsD ds = some ns → xs = ns.map V.bl
  | _, _, _, .nil, e => by cases e; rfl
  | _, _, _, .cons (d := d) (ds := ds) h1 h2, e => by
    cases d <;> simp only [boolsD] at e <;> first | cases e; done | skip
    cases e1 : boolsD ds with
    | none => rw [e1] at e; cases e
    | some ms =>
      rw [e1] at e
      cases e
      cases h1
      rw [bools_rel h2 e1]
      rfl
theorem alike_all {xs : List D} (h : allAlikeB xs = true) : PySem.W.AllAlike xs := by
  intro d hd e he
  unfold allAlikeB at h
  exact List.all_eq_true.mp (List.all_eq_true.mp h d hd) e he
theorem min_ok {xs : List D} (h : okMin xs = true) : PySem.W.AlikeAll xs ∧ PyData.depthAll xs ≤ 64 := by
  unfold okMin at h
  simp only [Bool.and_eq_true, decide_eq_true_eq] at h
  refine ⟨⟨alike_all h.1.1, fun x hx e => ?_⟩, h.2⟩
  have := List.all_eq_true.mp h.1.2 x hx
  subst e
  cases this
theorem paired_at {α β : Type} {P : α → β → Prop} : ∀ {xs : List α} {ys : List β} {i : Nat} {y : β}, Paired P xs ys → ys[i]? = some y → ∃ x, xs[i]? = some x ∧ P x y
  | _, _, _, _, .nil, e => by simp at e
  | _, _, 0, _, .cons r _, e => by simp at e; subst e; exact ⟨_, rfl, r⟩
  | _, _, i + 1, y, .cons _ t, e => by
    obtain ⟨x, q1, q2⟩ := paired_at (i := i) (y := y) t (by simpa using e)
    exact ⟨x, by simpa using q1, q2⟩
/-- an item that is the least, the greatest: what it is -/
theorem item_is {xs : List V} {ds : List D} {us : List Value} {i : Nat} {v : Value} {h' : Heap} {m : D} {bs : List Addr} (hI : Inv X pins σ H s) (rv : Vals xs us) (ra : RelDs X.K F H xs ds) (hv : us[i]? = some v)
    (hr : Reads h' v m bs) (hk : ∀ b o, s.heap.get? b = some o → h'.get? b = some o) : ∃ w, xs[i]? = some w ∧ RelV w v ∧ ds[i]? = some m := by
  obtain ⟨w, q1, q2⟩ := paired_at rv hv
  obtain ⟨d, q3, q4⟩ := ra.get q1
  obtain ⟨as, q5⟩ := RelD.reads hI d w v q4 q2
  have := (Reads.unique (Reads.keeps hk q5) m bs hr).1
  subst this
  exact ⟨w, q1, q2, q3⟩
theorem vals_of_reads {ds : List D} {us : List Value} {xs : List V} (hI : Inv X pins σ H s) (rv : Vals xs us) (ra : RelDs X.K F H xs ds) : ∃ as, ReadsAll s.heap us ds as := RelDs.reads hI ds xs us ra rv

theorem relDs_pairs {K : PySem.W.Frag} : ∀ {l : List (V × D)}, (∀ b ∈ l, RelD K F H b.1 b.2) → RelDs K F H (l.map Prod.fst) (l.map Prod.snd)
  | [], _ => .nil
  | b :: l, h => .cons (h b List.mem_cons_self) (relDs_pairs fun c hc => h c (List.mem_cons_of_mem _ hc))
theorem relDs_zip {K : PySem.W.Frag} : ∀ {xs : List V} {ds : List D}, RelDs K F H xs ds → ∀ b ∈ xs.zip ds, RelD K F H b.1 b.2
  | _, _, .nil, b, hb => by cases hb
  | _, _, .cons h1 h2, b, hb => by
    rw [List.zip_cons_cons] at hb
    rcases List.mem_cons.mp hb with e | hb
    · subst e; exact h1
    · exact relDs_zip h2 b hb
theorem each_zip {R : Value → V × D → Prop} : ∀ {xs : List V} {ds : List D} {us : List Value}, xs.length = ds.length → Vals xs us → (∀ b ∈ xs.zip ds, ∀ v, RelV b.1 v → R v b) → PySem.W.EachIs R us (xs.zip ds)
  | [], _, _, _, r, _ => by cases r; exact .nil
  | _ :: _, [], _, e, _, _ => by cases e
  | x :: xs, d :: ds, _, e, r, h => by
    cases r with
    | cons r1 r2 => exact .cons (h _ List.mem_cons_self _ r1) (each_zip (by simpa using e) r2 fun b hb => h b (List.mem_cons_of_mem _ hb))
theorem each_vals {R : Value → V × D → Prop} (h : ∀ v b, R v b → RelV b.1 v) : ∀ {us : List Value} {l : List (V × D)}, PySem.W.EachIs R us l → Vals (l.map Prod.fst) us
  | _, _, .nil => .nil
  | _, _, .cons r t => .cons (h _ _ r) (each_vals h t)
theorem zip_snd {xs : List V} : ∀ {ds : List D}, xs.length = ds.length → (xs.zip ds).map Prod.snd = ds := by
  induction xs with
  | nil => intro ds e; cases ds with
    | nil => rfl
    | cons _ _ => cases e
  | cons x xs ih => intro ds e; cases ds with
    | nil => cases e
    | cons d ds =>
      rw [List.zip_cons_cons, List.map_cons, ih (by simpa using e)]

theorem keys_all {es : Array DictEntry} {acc : Array Value} (h : ItemsOf (fun i v => ∃ hi : i < es.size, v = es[i].key) acc es.size) : acc.toList = es.toList.map (·.key) := by
  obtain ⟨hl, hi⟩ := h
  refine List.ext_getElem? fun i => ?_
  rw [Array.getElem?_toList, List.getElem?_map, Array.getElem?_toList]
  cases c : acc[i]? with
  | none =>
    have : acc.size ≤ i := Array.getElem?_eq_none_iff.mp c
    rw [Array.getElem?_eq_none (by omega)]; rfl
  | some v =>
    obtain ⟨hi', e⟩ := hi i v c
    rw [Array.getElem?_eq_getElem hi', e]; rfl
theorem raw_of {o : Obj} {a : Addr} {kvs : List (D × D)} {ks vs : List V} (hI : Inv X pins σ H s) (h : DAt H a o kvs ks vs) : ∃ es ep, s.heap.DictRaw a es ep ∧ es.size = kvs.length ∧ Vals ks (es.toList.map (·.key)) ∧ Vals vs (es.toList.map (·.val)) ∧ o.data = .dict es ep := by
  obtain ⟨hx, es, ep, hd, en⟩ := h.is_
  exact ⟨es, ep, ⟨o, h.obj hI, hx, hd⟩, ents_size en, en.vals.1, en.vals.2.1, hd⟩
theorem cr_len : CallR X (.builtin "len") (rBi X.K .len) := by
  intro pins s σ H xs us Q hI rv hq
  obtain ⟨ds, L, z, o, ez, q⟩ := hq
  obtain ⟨d, rfl⟩ : ∃ d, ds = [d] := by
    match ds, ez with
    | [d], _ => exact ⟨d, rfl⟩
  obtain ⟨x, rfl⟩ := opd_one o
  obtain ⟨F, h1⟩ := o.one
  cases d <;> simp only [biD] at ez <;> first | cases ez; done | skip
  · rename_i y
    obtain ⟨c, rfl⟩ := ite_some ez
    have e1 := h1.str; subst e1
    exact call_len pins s σ H _ us Q hI rv ⟨_, y.length, rfl, ⟨szOk c, rfl⟩, q _ _ (o.sc rfl)⟩
  · cases ez
    obtain ⟨a, xs, rfl, ha, ra⟩ := h1.list
    exact call_len pins s σ H _ us Q hI rv ⟨_, xs.length, rfl, .inl ⟨xs, ha, rfl⟩, by rw [ra.length]; exact q _ _ (o.sc rfl)⟩
  · cases ez
    obtain ⟨a, xs, rfl, ha, ra⟩ := h1.tuple
    exact call_len pins s σ H _ us Q hI rv ⟨_, xs.length, rfl, .inr ⟨xs, ha, rfl⟩, by rw [ra.length]; exact q _ _ (o.sc rfl)⟩
  · rename_i kvs
    obtain ⟨c, rfl⟩ := ite_some ez
    obtain ⟨a, o', ks, vs, rfl, da, _, _⟩ := h1.dict
    obtain ⟨es, ep, raw, hn, _, _, _⟩ := raw_of hI da
    have hz := szOk c
    rw [sizeLine_eq] at hz
    rw [Vals.ref1 rv]
    refine call_len_slot (n := kvs.length) (da.typeIs hI) PySem.F.slot_dict_len (fun Q' hq => call_len_raw da.low raw (by rw [hn]; exact hq)) (by omega) (by omega) ?_
    exact ⟨.int kvs.length, H, hI.tok _, ⟨_, rfl⟩, q _ _ (o.sc rfl)⟩
theorem cr_abs : CallR X (.builtin "abs") (rBi X.K .abs) := by
  intro pins s σ H xs us Q hI rv hq
  obtain ⟨ds, L, z, o, ez, q⟩ := hq
  obtain ⟨i, rfl⟩ : ∃ i, ds = [.int i] := by
    match ds, ez with
    | [.int i], _ => exact ⟨i, rfl⟩
  obtain ⟨x, rfl⟩ := opd_one o
  obtain ⟨F, h1⟩ := o.one
  have e1 := h1.int; subst e1
  cases ez
  exact call_abs pins s σ H _ us Q hI rv ⟨i, rfl, q _ _ (o.sc rfl)⟩
theorem cr_int : CallR X (.type "int") (rBi X.K .int) := by
  intro pins s σ H xs us Q hI rv hq
  obtain ⟨ds, L, z, o, ez, q⟩ := hq
  match ds, ez with
  | [.int i], ez =>
    obtain ⟨x, rfl⟩ := opd_one o
    obtain ⟨F, h1⟩ := o.one
    have e1 := h1.int; subst e1
    cases ez
    exact call_int1 pins s σ H _ us Q hI rv (.inl ⟨i, rfl, q _ _ (o.sc rfl)⟩)
  | [.bool b], ez =>
    obtain ⟨x, rfl⟩ := opd_one o
    obtain ⟨F, h1⟩ := o.one
    have e1 := h1.bool; subst e1
    cases ez
    exact call_int1 pins s σ H _ us Q hI rv (.inr ⟨b, rfl, q _ _ (o.sc rfl)⟩)
theorem cr_str : CallR X (.type "str") (rBi X.K .str) := by
  intro pins s σ H xs us Q hI rv hq
  obtain ⟨ds, L, z, o, ez, q⟩ := hq
  match ds, ez with
  | [.int i], ez =>
    obtain ⟨x, rfl⟩ := opd_one o
    obtain ⟨F, h1⟩ := o.one
    have e1 := h1.int; subst e1
    simp only [biD] at ez
    obtain ⟨c, rfl⟩ := ite_some ez
    exact call_str_int pins s σ H _ us Q hI rv ⟨i, rfl, of_decide_eq_true c, q _ _ (o.sc rfl)⟩
theorem cr_list (hc : X.calm = true) : CallR X (.type "list") (rBi X.K .list) := by
  intro pins s σ H xs us Q hI rv hq
  obtain ⟨ds, L, z, o, ez, q⟩ := hq
  rcases ds with _ | ⟨d, _ | ⟨e, r⟩⟩
  · cases ez
  case cons.cons => cases d <;> simp [biD] at ez
  case cons.nil =>
    obtain ⟨x, rfl⟩ := opd_one o
    obtain ⟨F, h1⟩ := o.one
    by_cases hdc : ∃ kvs, d = .dict kvs
    · obtain ⟨kvs, rfl⟩ := hdc
      simp only [biD] at ez
      obtain ⟨c, rfl⟩ := ite_some ez
      obtain ⟨a, o', ks, vs, rfl, da, r1, _⟩ := h1.dict
      obtain ⟨es, ep, raw, hn, vk, _, _⟩ := raw_of hI da
      rw [Vals.ref1 rv]
      refine PySem.W.kdl_call (KdlSrc.rawDict da.low) (hI.ok.hd hc) raw (by rw [hn]; exact szOk c) fun h' tk acc c' hk hD hacc => ?_
      have hv : Vals ks acc.toList := by rw [keys_all hacc]; exact vk
      refine ⟨.ref s.heap.objs.size, upd H s.heap.objs.size (.lst ks), hI.laid (t' := tk) hk (Nat.le_refl _) (show ObjOk X.prog X.w _ _ _ (.lst ks) from ⟨?_, acc.toList, c', hv, by rw [Array.toArray_toList]; exact hD⟩), rfl, q _ _ (o.lst (hI.hok.fresh (Nat.le_refl _)) fun F' o' => ?_)⟩
      · rw [r1.length, List.length_map]; exact szOk c
      · obtain ⟨a', o2, ks', vs', e1, da', r1', _⟩ := (paired1 o').dict
        cases e1
        obtain ⟨_, rfl, _⟩ := da.det hI da'
        exact r1'
    cases d <;> first | exact (hdc ⟨_, rfl⟩).elim | simp only [biD, seqD] at ez <;> first | cases ez; done | skip
    · cases ez
      obtain ⟨a, xs, rfl, ha, ra⟩ := h1.list
      refine call_list_of pins s σ H _ us Q hI rv ⟨a, xs, rfl, .inl ha, fun p hp => q _ _ ?_⟩
      refine o.lst hp fun F' o' => ?_
      obtain ⟨a', xs', e1, ha', ra'⟩ := (paired1 o').list
      cases e1
      rw [hI.list_inj ha' ha] at ra'
      exact ra'
    · cases ez
      obtain ⟨a, xs, rfl, ha, ra⟩ := h1.tuple
      refine call_list_of pins s σ H _ us Q hI rv ⟨a, xs, rfl, .inr ha, fun p hp => q _ _ ?_⟩
      refine o.lst hp fun F' o' => ?_
      obtain ⟨a', xs', e1, ha', ra'⟩ := (paired1 o').tuple
      cases e1
      rw [hI.tuple_inj ha' ha] at ra'
      exact ra'
theorem cr_tuple : CallR X (.type "tuple") (rBi X.K .tuple) := by
  intro pins s σ H xs us Q hI rv hq
  obtain ⟨ds, L, z, o, ez, q⟩ := hq
  match ds, ez with
  | [d], ez =>
    obtain ⟨x, rfl⟩ := opd_one o
    obtain ⟨F, h1⟩ := o.one
    cases d <;> simp only [biD, seqD] at ez <;> first | cases ez; done | skip
    · cases ez
      obtain ⟨a, xs, rfl, ha, ra⟩ := h1.list
      refine call_tuple_of pins s σ H _ us Q hI rv ⟨a, xs, rfl, .inl ⟨ha, fun p hp => q _ _ ?_⟩⟩
      refine o.tup hp fun F' o' => ?_
      obtain ⟨a', xs', e1, ha', ra'⟩ := (paired1 o').list
      cases e1
      rw [hI.list_inj ha' ha] at ra'
      exact ra'
    · cases ez
      obtain ⟨a, xs, rfl, ha, ra⟩ := h1.tuple
      refine call_tuple_of pins s σ H _ us Q hI rv ⟨a, xs, rfl, .inr ⟨ha, q _ _ ?_⟩⟩
      refine o.fz fun F' o' => ?_
      have p1 := paired1 o'
      cases p1 with
      | fz p1 => exact p1
theorem cr_sumD (hc : X.calm = true) : CallR X (.builtin "sum") (rBi X.K .sum) := by
  intro pins s σ H xs us Q hI rv hq
  obtain ⟨ds, L, z, o, ez, q⟩ := hq
  match ds, ez with
  | [.list es], ez =>
    obtain ⟨x, rfl⟩ := opd_one o
    obtain ⟨F, h1⟩ := o.one
    simp only [biD] at ez
    cases e1 : intsD es with
    | none => rw [e1] at ez; cases ez
    | some ns =>
      rw [e1] at ez
      cases ez
      obtain ⟨a, xs, rfl, ha, ra⟩ := h1.list
      have := ints_rel ra e1
      subst this
      exact cr_sum hc pins s σ H _ us Q hI rv ⟨a, ns, rfl, ha, q _ _ (o.sc rfl)⟩
  | [.tuple es], ez =>
    obtain ⟨x, rfl⟩ := opd_one o
    obtain ⟨F, h1⟩ := o.one
    simp only [biD] at ez
    cases e1 : intsD es with
    | none => rw [e1] at ez; cases ez
    | some ns =>
      rw [e1] at ez
      cases ez
      obtain ⟨a, xs, rfl, ha, ra⟩ := h1.tuple
      have := ints_rel ra e1
      subst this
      obtain ⟨its, rw', ht, _⟩ := hI.tuple ha
      have hi := rw'.ints
      obtain ⟨ys, hx⟩ := hi.allInts.items
      have hn : numsOf (intItems ys).toList = ns := by rw [← hx]; exact hi.numsOf
      rw [nums_intItems] at hn
      rw [hx] at ht
      rw [Vals.ref1 rv]
      refine PySem.W.ktm_sumG (hI.ok.hd hc) ht fun h' tk t' hk => ?_
      refine ⟨.int ns.sum, H, hI.kept hk, ⟨t', ?_⟩, q _ _ (o.sc rfl)⟩
      rw [preSum_eq, List.take_of_length_le (by simp), hn]
theorem cr_allD (hc : X.calm = true) : CallR X (.builtin "all") (rBi X.K .all) := by
  intro pins s σ H xs us Q hI rv hq
  obtain ⟨ds, L, z, o, ez, q⟩ := hq
  match ds, ez with
  | [.list es], ez =>
    obtain ⟨x, rfl⟩ := opd_one o
    obtain ⟨F, h1⟩ := o.one
    simp only [biD] at ez
    cases e1 : boolsD es with
    | none => rw [e1] at ez; cases ez
    | some ns =>
      rw [e1] at ez
      cases ez
      obtain ⟨a, xs, rfl, ha, ra⟩ := h1.list
      have := bools_rel ra e1
      subst this
      exact cr_all hc pins s σ H _ us Q hI rv ⟨a, ns, rfl, ha, q _ _ (o.sc rfl)⟩
theorem min_args {ds : List D} {z : Vl} (h : biD .min ds = some z ∨ biD .max ds = some z) : (∃ i j, ds = [.int i, .int j]) ∨ (∃ es, ds = [.list es]) ∨ (∃ es, ds = [.tuple es]) ∨ ∃ es fs, ds = [.tuple es, .tuple fs] := by
  rcases ds with _ | ⟨d, _ | ⟨e, _ | ⟨f, ds⟩⟩⟩
  · rcases h with h | h <;> cases h
  · cases d <;> first | exact .inr (.inl ⟨_, rfl⟩) | exact .inr (.inr (.inl ⟨_, rfl⟩)) | (rcases h with h | h <;> cases h)
  · cases d <;> cases e <;> first | exact .inl ⟨_, _, rfl⟩ | exact .inr (.inr (.inr ⟨_, _, rfl⟩)) | (rcases h with h | h <;> cases h)
  · rcases h with h | h <;> (cases d <;> cases e <;> cases h)
theorem RelO.ofTup {K : PySem.W.Frag} {v : V} {ds : List D} (h : RelO K F H v (.tuple ds)) : RelD K F H v (.tuple ds) := by
  cases h with
  | fz h => exact h
theorem cr_minD (hc : X.calm = true) (hu : X.A.units + 100 < cLine) : CallR X (.builtin "min") (rBi X.K .min) := by
  intro pins s σ H xs us Q hI rv hq
  obtain ⟨ds, L, z, o, ez, q⟩ := hq
  rcases min_args (.inl ez) with ⟨i, j, rfl⟩ | ⟨es, rfl⟩ | ⟨es, rfl⟩ | ⟨es, fs, rfl⟩
  · obtain ⟨x, y, rfl⟩ := opd_two o
    obtain ⟨F, h1, h2⟩ := o.pair
    have e1 := h1.int; have e2 := h2.int; subst e1; subst e2
    cases ez
    exact call_min2 hc pins s σ H _ us Q hI rv ⟨i, j, rfl, q _ _ (o.sc rfl)⟩
  · obtain ⟨x, rfl⟩ := opd_one o
    obtain ⟨F, h1⟩ := o.one
    simp only [biD, seqD, Option.bind_some] at ez
    split at ez
    · rename_i c
      obtain ⟨al, dp⟩ := min_ok c
      cases es with
      | nil => cases ez
      | cons e es =>
        cases ez
        obtain ⟨a, ys, rfl, ha, ra⟩ := h1.list
        obtain ⟨its, rw', hl, _⟩ := hI.list ha
        obtain ⟨as, rd⟩ := vals_of_reads hI rw' ra
        rw [Vals.ref1 rv]
        refine PySem.W.min_list_data (hI.ok.hd hc) hl.isList (by simpa using rd) al (by omega) fun i v h' tk bs hv hr hk => ?_
        obtain ⟨w, k1, k2, k3⟩ := item_is hI rw' ra (by simpa using hv) hr hk
        refine ⟨w, H, hI.kept hk, k2, q _ _ (o.fz fun F' o' => ?_)⟩
        obtain ⟨a', ys', e1, ha', ra'⟩ := (paired1 o').list
        cases e1
        rw [hI.list_inj ha' ha] at ra'
        obtain ⟨w', m1, m2⟩ := ra'.getD k3
        rw [k1] at m1; cases m1; exact m2
    · cases ez
  · obtain ⟨x, rfl⟩ := opd_one o
    obtain ⟨F, h1⟩ := o.one
    simp only [biD, seqD, Option.bind_some] at ez
    split at ez
    · rename_i c
      obtain ⟨al, dp⟩ := min_ok c
      cases es with
      | nil => cases ez
      | cons e es =>
        cases ez
        obtain ⟨a, ys, rfl, ha, ra⟩ := h1.tuple
        obtain ⟨its, rw', hl, _⟩ := hI.tuple ha
        obtain ⟨as, rd⟩ := vals_of_reads hI rw' ra
        rw [Vals.ref1 rv]
        refine PySem.W.min_tuple_data (hI.ok.hd hc) hl (by simpa using rd) al (by omega) fun i v h' tk bs hv hr hk => ?_
        obtain ⟨w, k1, k2, k3⟩ := item_is hI rw' ra (by simpa using hv) hr hk
        refine ⟨w, H, hI.kept hk, k2, q _ _ (o.fz fun F' o' => ?_)⟩
        obtain ⟨a', ys', e1, ha', ra'⟩ := (paired1 o').tuple
        cases e1
        rw [hI.tuple_inj ha' ha] at ra'
        obtain ⟨w', m1, m2⟩ := ra'.getD k3
        rw [k1] at m1; cases m1; exact m2
    · cases ez
  · obtain ⟨x, y, rfl⟩ := opd_two o
    obtain ⟨F, h1, h2⟩ := o.pair
    have ez' : (if okMin [.tuple es, .tuple fs] = true then some (Vl.fz (PySem.W.minD (.tuple es) [.tuple fs])) else none) = some z := ez
    obtain ⟨c, rfl⟩ := ite_some ez'
    obtain ⟨al, dp⟩ := min_ok c
    obtain ⟨u, v, rfl, r1, r2⟩ := rv.two
    have ra : RelDs X.K F H [x, y] [.tuple es, .tuple fs] := .cons h1.ofTup (.cons h2.ofTup .nil)
    obtain ⟨as, rd⟩ := vals_of_reads hI (.cons r1 (.cons r2 .nil)) ra
    refine min_two_data (hI.ok.hd hc) rd al (by omega) fun i v' h' tk bs hv hr hk => ?_
    obtain ⟨w, k1, k2, k3⟩ := item_is hI (.cons r1 (.cons r2 .nil)) ra hv hr hk
    refine ⟨w, H, hI.kept hk, k2, q _ _ (o.fz fun F' o' => ?_)⟩
    have ra' : RelDs X.K F' H [x, y] [.tuple es, .tuple fs] := .cons (paired2 o').1.ofTup (.cons (paired2 o').2.ofTup .nil)
    obtain ⟨w', m1, m2⟩ := ra'.getD k3
    rw [k1] at m1; cases m1; exact m2
theorem cr_maxD (hc : X.calm = true) (hu : X.A.units + 100 < cLine) : CallR X (.builtin "max") (rBi X.K .max) := by
  intro pins s σ H xs us Q hI rv hq
  obtain ⟨ds, L, z, o, ez, q⟩ := hq
  rcases min_args (.inr ez) with ⟨i, j, rfl⟩ | ⟨es, rfl⟩ | ⟨es, rfl⟩ | ⟨es, fs, rfl⟩
  · obtain ⟨x, y, rfl⟩ := opd_two o
    obtain ⟨F, h1, h2⟩ := o.pair
    have e1 := h1.int; have e2 := h2.int; subst e1; subst e2
    cases ez
    exact call_max2 hc pins s σ H _ us Q hI rv ⟨i, j, rfl, q _ _ (o.sc rfl)⟩
  · obtain ⟨x, rfl⟩ := opd_one o
    obtain ⟨F, h1⟩ := o.one
    simp only [biD, seqD, Option.bind_some] at ez
    split at ez
    · rename_i c
      obtain ⟨al, dp⟩ := min_ok c
      cases es with
      | nil => cases ez
      | cons e es =>
        cases ez
        obtain ⟨a, ys, rfl, ha, ra⟩ := h1.list
        obtain ⟨its, rw', hl, _⟩ := hI.list ha
        obtain ⟨as, rd⟩ := vals_of_reads hI rw' ra
        rw [Vals.ref1 rv]
        refine PySem.W.max_list_data (hI.ok.hd hc) hl.isList (by simpa using rd) al (by omega) fun i v h' tk bs hv hr hk => ?_
        obtain ⟨w, k1, k2, k3⟩ := item_is hI rw' ra (by simpa using hv) hr hk
        refine ⟨w, H, hI.kept hk, k2, q _ _ (o.fz fun F' o' => ?_)⟩
        obtain ⟨a', ys', e1, ha', ra'⟩ := (paired1 o').list
        cases e1
        rw [hI.list_inj ha' ha] at ra'
        obtain ⟨w', m1, m2⟩ := ra'.getD k3
        rw [k1] at m1; cases m1; exact m2
    · cases ez
  · obtain ⟨x, rfl⟩ := opd_one o
    obtain ⟨F, h1⟩ := o.one
    simp only [biD, seqD, Option.bind_some] at ez
    split at ez
    · rename_i c
      obtain ⟨al, dp⟩ := min_ok c
      cases es with
      | nil => cases ez
      | cons e es =>
        cases ez
        obtain ⟨a, ys, rfl, ha, ra⟩ := h1.tuple
        obtain ⟨its, rw', hl, _⟩ := hI.tuple ha
        obtain ⟨as, rd⟩ := vals_of_reads hI rw' ra
        rw [Vals.ref1 rv]
        refine PySem.W.max_tuple_data (hI.ok.hd hc) hl (by simpa using rd) al (by omega) fun i v h' tk bs hv hr hk => ?_
        obtain ⟨w, k1, k2, k3⟩ := item_is hI rw' ra (by simpa using hv) hr hk
        refine ⟨w, H, hI.kept hk, k2, q _ _ (o.fz fun F' o' => ?_)⟩
        obtain ⟨a', ys', e1, ha', ra'⟩ := (paired1 o').tuple
        cases e1
        rw [hI.tuple_inj ha' ha] at ra'
        obtain ⟨w', m1, m2⟩ := ra'.getD k3
        rw [k1] at m1; cases m1; exact m2
    · cases ez
  · obtain ⟨x, y, rfl⟩ := opd_two o
    obtain ⟨F, h1, h2⟩ := o.pair
    have ez' : (if okMin [.tuple es, .tuple fs] = true then some (Vl.fz (PySem.W.maxD (.tuple es) [.tuple fs])) else none) = some z := ez
    obtain ⟨c, rfl⟩ := ite_some ez'
    obtain ⟨al, dp⟩ := min_ok c
    obtain ⟨u, v, rfl, r1, r2⟩ := rv.two
    have ra : RelDs X.K F H [x, y] [.tuple es, .tuple fs] := .cons h1.ofTup (.cons h2.ofTup .nil)
    obtain ⟨as, rd⟩ := vals_of_reads hI (.cons r1 (.cons r2 .nil)) ra
    refine max_two_data (hI.ok.hd hc) rd al (by omega) fun i v' h' tk bs hv hr hk => ?_
    obtain ⟨w, k1, k2, k3⟩ := item_is hI (.cons r1 (.cons r2 .nil)) ra hv hr hk
    refine ⟨w, H, hI.kept hk, k2, q _ _ (o.fz fun F' o' => ?_)⟩
    have ra' : RelDs X.K F' H [x, y] [.tuple es, .tuple fs] := .cons (paired2 o').1.ofTup (.cons (paired2 o').2.ofTup .nil)
    obtain ⟨w', m1, m2⟩ := ra'.getD k3
    rw [k1] at m1; cases m1; exact m2
theorem sort_ok {xs : List D} (h : okSort xs = true) : PySem.W.AllAlike xs ∧ PySem.W.Sortable xs ∧ xs.length ≤ sizeLine ∧ ∀ d ∈ xs, d.depth ≤ 64 := by
  unfold okSort at h
  simp only [Bool.and_eq_true, Bool.or_eq_true] at h
  refine ⟨alike_all h.1.1.1, ?_, szOk h.1.2, fun d hd => of_decide_eq_true (List.all_eq_true.mp h.2 d hd)⟩
  rcases h.1.1.2 with k | k
  · refine .inl fun d hd => ?_
    have := List.all_eq_true.mp k d hd
    match d, this with
    | .tuple (x :: r), _ => exact ⟨x, r, rfl⟩
  · refine .inr fun d hd => ⟨fun e => ?_, fun ys e => ?_⟩
    · have := List.all_eq_true.mp k d hd
      subst e; cases this
    · have := List.all_eq_true.mp k d hd
      subst e; cases this
theorem cr_sortD (hc : X.calm = true) (hu : X.A.units + 100 < cLine) : CallR X (.builtin "sorted") (rBi X.K .sorted) := by
  intro pins s σ H xs us Q hI rv hq
  obtain ⟨ds, L, z, o, ez, q⟩ := hq
  match ds, ez with
  | [.list es], ez =>
    obtain ⟨x, rfl⟩ := opd_one o
    obtain ⟨F, h1⟩ := o.one
    simp only [biD] at ez
    obtain ⟨c, rfl⟩ := ite_some ez
    obtain ⟨al, so, sz, dp⟩ := sort_ok c
    obtain ⟨a, ys, rfl, ha, ra⟩ := h1.list
    obtain ⟨its, rw', hl, hz⟩ := hI.list ha
    have hlen := ra.length
    have es2 : (ys.zip es).map Prod.snd = es := zip_snd hlen
    have el : (ys.zip es).length = es.length := by rw [List.length_zip, hlen, Nat.min_self]
    rw [Vals.ref1 rv]
    refine PySem.W.sorted_data (R := fun v b => RelV b.1 v ∧ ∃ as, Reads s.heap v b.2 as) (enc := Prod.snd) (bs := ys.zip es) hl.isList ?_ ?_ (by rw [es2]; exact al) (by rw [es2]; exact so) (by rw [el]; exact sz) ?_ fun out ho eo => ?_
    · exact each_zip hlen rw' fun b hb v r => ⟨r, RelD.reads hI b.2 b.1 v (relDs_zip ra b hb) r⟩
    · exact each_zip hlen rw' fun b hb v r => RelD.reads hI b.2 b.1 v (relDs_zip ra b hb) r
    · intro b hb
      have := dp b.2 (by rw [← es2]; exact List.mem_map.mpr ⟨b, hb, rfl⟩)
      omega
    · obtain ⟨ep, he'⟩ := PyProof.Rows.sortedAll_at s.heap its out.toArray
      have hv := each_vals (fun v b h => h.1) eo
      have hlen2 : (((ys.zip es).mergeSort (PySem.W.dataLe false Prod.snd)).map Prod.fst).length ≤ sizeLine := by
        rw [List.length_map, List.length_mergeSort, el]; exact sz
      refine ⟨.ref _, upd H (s.heap.objs.size + 1) (.lst (((ys.zip es).mergeSort (PySem.W.dataLe false Prod.snd)).map Prod.fst)), hI.laid (t' := s.toks) (fun _ _ => PyProof.Rows.sortedAll_old) (Nat.le_succ _) ⟨hlen2, out, ep, hv, he'⟩, rfl, q _ _ ?_⟩
      refine o.lst (hI.hok.fresh (Nat.le_succ _)) fun F' o' => ?_
      obtain ⟨a', ys', e1, ha', ra'⟩ := (paired1 o').list
      cases e1
      rw [hI.list_inj ha' ha] at ra'
      have key : ((ys.zip es).mergeSort (PySem.W.dataLe false Prod.snd)).map Prod.snd = sortD es := by
        unfold sortD
        have mm := List.map_mergeSort (r := PySem.W.dataLe false Prod.snd) (s := PySem.W.dataLe false id) (f := (Prod.snd : V × D → D)) (l := ys.zip es) (fun a _ b _ => rfl)
        rw [mm, es2]
      rw [← key]
      exact relDs_pairs fun b hb => relDs_zip ra' b (List.mem_mergeSort.mp hb)
  | [.dict kvs], ez =>
    obtain ⟨x, rfl⟩ := opd_one o
    obtain ⟨F, h1⟩ := o.one
    simp only [biD] at ez
    obtain ⟨c, rfl⟩ := ite_some ez
    obtain ⟨al, so, sz, dp⟩ := sort_ok c
    obtain ⟨a, o', ks, vs, rfl, da, r1, _⟩ := h1.dict
    obtain ⟨es, ep, raw, hn, vk, _, _⟩ := raw_of hI da
    have hlen := r1.length
    have es2 : (ks.zip (kvs.map Prod.fst)).map Prod.snd = kvs.map Prod.fst := zip_snd hlen
    have el : (ks.zip (kvs.map Prod.fst)).length = (kvs.map Prod.fst).length := by rw [List.length_zip, hlen, Nat.min_self]
    rw [Vals.ref1 rv]
    refine Calls.call_function_entry PyProof.Rows.kind_sorted PyProof.Rows.plain_sorted PyProof.Rows.entry_sorted (PyProof.Rows.args_sorted1 _) ?_
    unfold Builtin.«sorted»
    refine wpAny_bind (m := checkCount "sorted" 1 1 _) (wpAny_pure ?_)
    refine wpAny_bind (PySem.W.kdu_collect (A := X.A.in1) (KdlSrc.rawDict da.low) (hI.ok.hd hc) raw (by rw [hn, ← List.length_map (f := Prod.fst)]; exact sz) fun h' tk acc hk hacc => ?_)
    have ha : acc.toList = es.toList.map (·.key) := keys_all hacc
    have hv : Vals ks acc.toList := by rw [ha]; exact vk
    have I1 : Inv X pins σ H { s with heap := h', toks := tk } := hI.kept hk
    refine wpAny_bind (wpAny_newList ?_ (by rw [← hv.length, hlen]; exact sz))
    have hoL : (h'.push (seqObj "list" acc.toList.toArray 0)).get? h'.objs.size = some (seqObj "list" acc.toList.toArray 0) := Heap.get?_push_size _ rfl
    have rd2 : PySem.W.EachIs (fun v (b : V × D) => ∃ as, Reads (h'.push (seqObj "list" acc.toList.toArray 0)) v b.2 as ∧ h'.objs.size ∉ as) acc.toList (ks.zip (kvs.map Prod.fst)) := each_zip hlen hv fun b hb v r => by
      obtain ⟨as, q1⟩ := RelD.reads I1 b.2 b.1 v (relDs_zip r1 b hb) r
      have q2 := PyProof.Rows.Reads.keeps (fun b o e => Heap.get?_push_of_some (seqObj "list" acc.toList.toArray 0) e) q1
      exact ⟨as, q2, fun hm => by
        obtain ⟨u, hu'⟩ := PyProof.On.reads_mem_get q1 _ hm
        exact absurd (Heap.lt_size hu') (Nat.lt_irrefl _)⟩
    show wpAny _ _ _ _ _ { s with heap := h'.push (seqObj "list" acc.toList.toArray 0), toks := tk }
    refine wpAny_bind (wpAny_holding (PySem.W.list_sort_data (s := { s with heap := h'.push (seqObj "list" acc.toList.toArray 0), toks := tk }) (R := fun v (b : V × D) => RelV b.1 v) (enc := Prod.snd) (bs := ks.zip (kvs.map Prod.fst)) hoL ?_ rd2 (by rw [es2]; exact al) (by rw [es2]; exact so) (by rw [el]; exact sz) ?_ fun out ho eo => ?_))
    · exact each_zip hlen hv fun b hb v r => r
    · intro b hb
      have := dp b.2 (by rw [← es2]; exact List.mem_map.mpr ⟨b, hb, rfl⟩)
      show X.A.units + 1 + 1 + _ < _
      omega
    · obtain ⟨e', he'⟩ := PyProof.Rows.sortedHeap_at (vs := acc.toList) (out := out.toArray) hoL
      have hv2 := each_vals (fun v b h => h) eo
      have hlen2 : (((ks.zip (kvs.map Prod.fst)).mergeSort (PySem.W.dataLe false Prod.snd)).map Prod.fst).length ≤ sizeLine := by
        rw [List.length_map, List.length_mergeSort, el]; exact sz
      refine wpAny_pure ⟨_, rfl, .ref h'.objs.size, upd H h'.objs.size (.lst (((ks.zip (kvs.map Prod.fst)).mergeSort (PySem.W.dataLe false Prod.snd)).map Prod.fst)), I1.laid (t' := tk) (fun b u e => ?_) (Nat.le_refl _)
        (show ObjOk X.prog X.w _ _ _ (.lst _) from ⟨hlen2, out, e', hv2, he'⟩), rfl, q _ _ ?_⟩
      · have hb : b < h'.objs.size := Heap.lt_size e
        rw [PyProof.Rows.sortedHeap_old (Nat.ne_of_lt hb) (by rw [size_push']; exact Nat.lt_succ_of_lt hb)]
        exact Heap.get?_push_of_some _ e
      · refine o.lst (I1.hok.fresh (Nat.le_refl _)) fun F' o'' => ?_
        obtain ⟨a', o2, ks', vs', e1, da', r1', _⟩ := (paired1 o'').dict
        cases e1
        obtain ⟨_, rfl, _⟩ := da.det hI da'
        have key : ((ks.zip (kvs.map Prod.fst)).mergeSort (PySem.W.dataLe false Prod.snd)).map Prod.snd = sortD (kvs.map Prod.fst) := by
          unfold sortD
          have mm := List.map_mergeSort (r := PySem.W.dataLe false Prod.snd) (s := PySem.W.dataLe false id) (f := (Prod.snd : V × D → D)) (l := ks.zip (kvs.map Prod.fst)) (fun a _ b _ => rfl)
          rw [mm, es2]
        have e3 : (kvs.map fun p => p.1) = kvs.map Prod.fst := rfl
        rw [e3, ← key]
        exact relDs_pairs fun b hb => relDs_zip r1' b (List.mem_mergeSort.mp hb)
theorem cr_reprD (hg : X.A.guards = some []) (hu : X.A.units + 100 < cLine) : CallR X (.builtin "repr") (rBi X.K .repr) := by
  intro pins s σ H xs us Q hI rv hq
  obtain ⟨ds, L, z, o, ez, q⟩ := hq
  match ds, ez with
  | [d], ez =>
    obtain ⟨x, rfl⟩ := opd_one o
    obtain ⟨F, h1⟩ := o.one
    simp only [biD] at ez
    obtain ⟨c, rfl⟩ := ite_some ez
    unfold okShow at c
    simp only [Bool.and_eq_true, decide_eq_true_eq, Bool.not_eq_true'] at c
    obtain ⟨⟨⟨c1, c2⟩, c3⟩, c4⟩ := c
    have sz : d.shown.length ≤ sizeLine := by rw [sizeLine_eq]; exact c2
    obtain ⟨u, rfl, rx⟩ := vals1 rv
    obtain ⟨as, rd⟩ := h1.reads hI rx
    cases d with
    | none =>
      have e := h1.none; subst e
      cases (show u = Value.none from rx)
      exact PySem.P.repr_of_none ⟨.str "None", H, hI.tok _, ⟨_, rfl⟩, q _ _ (o.sc rfl)⟩
    | bool b =>
      have e := h1.bool; subst e
      cases (show u = Value.bool b from rx)
      exact PySem.P.repr_of_bool ⟨.str _, H, hI.tok _, ⟨_, rfl⟩, q _ _ (o.sc rfl)⟩
    | int i =>
      have e := h1.int; subst e
      obtain ⟨t, rfl⟩ := rx
      exact PySem.P.repr_of_int (of_decide_eq_true c1) ⟨.str _, H, hI.tok _, ⟨_, rfl⟩, q _ _ (o.sc rfl)⟩
    | str y =>
      have e := h1.str; subst e
      obtain ⟨t, rfl⟩ := rx
      exact PySem.P.repr_of_str ⟨.str _, H, hI.tok _, ⟨_, rfl⟩, q _ _ (o.sc rfl)⟩ sz
    | list es =>
      obtain ⟨a, ys, rfl, ha, ra⟩ := h1.list
      cases rx
      have c3 : (PyData.list es).hasDict = false := by
        cases hd : (PyData.list es).hasDict with
        | false => rfl
        | true => rw [hd] at c3; simp [nlD] at c3
      exact PySem.repr_of_reads' rd c1 (fun h => by rw [c3] at h; cases h) hg (by omega) (fun _ _ e => e) (fun h' u tk hk => ⟨.str _, H, hI.kept hk, ⟨_, rfl⟩, q _ _ (o.sc rfl)⟩) sz
    | tuple es =>
      have hN := h1
      obtain ⟨a, ys, rfl, ha, ra⟩ := h1.tuple
      cases hd : (PyData.tuple es).hasDict with
      | false =>
        cases rx
        exact PySem.repr_of_reads' rd c1 (fun h => by rw [hd] at h; cases h) hg (by omega) (fun _ _ e => e) (fun h' u tk hk => ⟨.str _, H, hI.kept hk, ⟨_, rfl⟩, q _ _ (o.sc rfl)⟩) sz
      | true =>
        have hn : nlD (.tuple es) = true := by rw [hd] at c3; simpa using c3
        cases hN with
        | fz hN =>
          obtain ⟨bs, rb, nb⟩ := RelD.readsN hI _ _ _ hN hn rx
          cases rx
          exact PySem.repr_of_reads' rb c1 (fun _ => nb) hg (by omega) (fun _ _ e => e) (fun h' u tk hk => ⟨.str _, H, hI.kept hk, ⟨_, rfl⟩, q _ _ (o.sc rfl)⟩) sz
    | dict es =>
      have hn : es = [] := by
        cases es with
        | nil => rfl
        | cons _ _ => simp [PyData.hasDict, nlD] at c3
      subst hn
      cases h1 with
      | fz h1 =>
        cases h1 with
        | dct h1 _ _ _ =>
          obtain ⟨rb, nb⟩ := h1.reads0 hI
          cases rx
          exact PySem.repr_of_reads' rb c1 (fun _ => nb) hg (by omega) (fun _ _ e => e) (fun h' u tk hk => ⟨.str _, H, hI.kept hk, ⟨_, rfl⟩, q _ _ (o.sc rfl)⟩) sz
      | od h1 _ _ =>
        obtain ⟨rb, nb⟩ := h1.reads0 hI
        cases rx
        exact PySem.repr_of_reads' rb c1 (fun _ => nb) hg (by omega) (fun _ _ e => e) (fun h' u tk hk => ⟨.str _, H, hI.kept hk, ⟨_, rfl⟩, q _ _ (o.sc rfl)⟩) sz
theorem cr_divmod : CallR X (.builtin "divmod") (rBi X.K .divmod) := by
  intro pins s σ H xs us Q hI r hq
  obtain ⟨ds, L, z, o, ez, q⟩ := hq
  obtain ⟨d, e, rfl⟩ : ∃ d e, ds = [d, e] := by
    match ds, ez with
    | [d, e], _ => exact ⟨d, e, rfl⟩
    | [], ez => cases ez
    | [d], ez => cases d <;> cases ez
    | d :: e :: f :: g, ez => cases d <;> cases e <;> cases ez
  obtain ⟨x, y, rfl⟩ := opd_two o
  obtain ⟨F, h1, h2⟩ := o.pair
  cases d <;> cases e <;> first | cases ez; done | skip
  have e1 := h1.int; have e2 := h2.int; subst e1; subst e2
  rename_i a b
  have ez' : (if decide (0 < b) && decide (b < 1073741824) then some (Vl.fz (.tuple [.int (a / b), .int (a % b)])) else none) = some z := ez
  obtain ⟨c, rfl⟩ := ite_some ez'
  simp only [Bool.and_eq_true, decide_eq_true_eq] at c
  refine call_divmod pins s σ H _ us Q hI r ⟨a, b, rfl, c, fun p hp => q _ _ ?_⟩
  exact o.tup hp fun F' _ => .cons (.int _) (.cons (.int _) .nil)
/-! dict(pairs) -/
theorem merged_new : ∀ (xs acc : List (Int × Value)), (xs.map (·.1)).Nodup → (∀ k ∈ xs.map (·.1), k ∉ acc.map (·.1)) → merged acc xs = acc ++ xs
  | [], acc, _, _ => (List.append_nil acc).symm
  | x :: xs, acc, hn, h => by
    rw [List.map_cons] at hn
    obtain ⟨h1, h2⟩ := List.nodup_cons.mp hn
    have hx := h x.1 (by rw [List.map_cons]; exact List.mem_cons_self)
    have e : stored acc x.1 x.2 = acc ++ [x] := by
      unfold stored
      rw [if_neg]
      intro c
      obtain ⟨y, hy, e⟩ := List.any_eq_true.mp c
      exact hx (List.mem_map.mpr ⟨y, hy, of_decide_eq_true e⟩)
    show merged (stored acc x.1 x.2) xs = _
    rw [e, merged_new xs (acc ++ [x]) h2 (fun k hk z => by
      rw [List.map_append, List.mem_append] at z
      rcases z with z | z
      · exact h k (by rw [List.map_cons]; exact List.mem_cons_of_mem _ hk) z
      · rw [List.map_cons, List.map_nil, List.mem_singleton] at z
        exact h1 (by rw [← z]; exact hk)), List.append_assoc]
    rfl
theorem dp_pairs (hI : Inv X pins σ H s) : ∀ (es : List D) (ys : List V) (its : List Value) (kvs : List (D × D)), RelDs X.K F H ys es → Vals ys its → dpD es = some kvs →
    ∃ (Ts : List Addr) (ps : List (Value × Value)) (xs : List (Int × Value)) (ks vs : List V), its = Ts.map Value.ref ∧ ps.length = Ts.length ∧ (∀ (j : Nat) (k v : Value), ps[j]? = some (k, v) → ∃ T, Ts[j]? = some T ∧ PairAt s.heap T k v) ∧ xs.length = ps.length ∧
      (∀ (j : Nat) (k v : Value), ps[j]? = some (k, v) → ∃ i, xs[j]? = some (i, v) ∧ (nki X).is i k = true) ∧ XI kvs ks vs xs ∧ (∀ F', RelDs X.K F' H ys es → RelDs X.K F' H ks (kvs.map Prod.fst) ∧ RelDs X.K F' H vs (kvs.map Prod.snd))
  | [], ys, its, kvs, r, v, e => by
    cases r
    cases v
    cases e
    exact ⟨[], [], [], [], [], rfl, rfl, fun j k v h => (by simp at h), rfl, fun j k v h => (by simp at h), .nil, fun _ _ => ⟨.nil, .nil⟩⟩
  | d :: es, ys, its, kvs, r, v, e => by
    have hd : ∃ i d', d = .tuple [.int i, d'] ∧ ∃ kv, dpD es = some kv ∧ kvs = (.int i, d') :: kv := by
      unfold dpD at e
      split at e
      · rename_i h; cases h
      · rename_i i d' ds h
        cases h
        obtain ⟨kv, e1, e2⟩ := Option.map_eq_some_iff.mp e
        exact ⟨i, d', rfl, kv, e1, e2.symm⟩
      · cases e
    obtain ⟨i, d', rfl, kv, e1, rfl⟩ := hd
    cases r with
    | cons r1 r2 =>
      cases v with
      | @cons _ u _ _ v1 v2 =>
        obtain ⟨Ts, ps, xs, ks, vs, a1, a2, a3, a4, a5, a6, a7⟩ := dp_pairs hI es _ _ kv r2 v2 e1
        cases r1 with
        | @tup T ws _ h1 h2 =>
          cases v1
          obtain ⟨us, ru, tp, _⟩ := hI.tuple h1.sq
          have h2' := h2
          cases h2 with
          | cons q1 q2 => cases q2 with
            | @cons v0 _ _ _ q3 q4 =>
              cases q4
              cases q1
              cases ru with
              | cons w1 w2 => cases w2 with
                | @cons _ uv _ _ w3 w4 =>
                  cases w4
                  obtain ⟨t, rfl⟩ := w1
                  refine ⟨T :: Ts, (.int i t, uv) :: ps, (i, uv) :: xs, V.int i :: ks, v0 :: vs, by rw [a1]; rfl, by simp [a2], ?_, by simp [a4], ?_, .cons w3 a6, fun F' rF => ?_⟩
                  · intro j k v hj
                    cases j with
                    | zero =>
                      simp at hj
                      obtain ⟨rfl, rfl⟩ := hj
                      obtain ⟨ob, g1, g2, n, g3⟩ := tp
                      exact ⟨T, rfl, .inl ⟨ob, g1, g2, n, by simpa using g3⟩⟩
                    | succ j =>
                      obtain ⟨T', b1, b2⟩ := a3 j k v (by simpa using hj)
                      exact ⟨T', by simpa using b1, b2⟩
                  · intro j k v hj
                    cases j with
                    | zero =>
                      simp at hj
                      obtain ⟨rfl, rfl⟩ := hj
                      exact ⟨i, rfl, int_is.mpr ⟨t, rfl⟩⟩
                    | succ j =>
                      obtain ⟨i', b1, b2⟩ := a5 j k v (by simpa using hj)
                      exact ⟨i', by simpa using b1, b2⟩
                  · cases rF with
                    | cons f1 f2 =>
                      obtain ⟨b1, b2⟩ := a7 F' f2
                      cases f1 with
                      | tup g1 g2 =>
                        rw [hI.tuple_inj g1.sq h1.sq] at g2
                        cases g2 with
                        | cons _ g3 => cases g3 with
                          | cons g4 _ => exact ⟨.cons (.int i) b1, .cons g4 b2⟩
theorem cr_dictD (hc : X.calm = true) : CallR X (.type "dict") (rBi X.K .dict) := by
  intro pins s σ H xs us Q hI rv hq
  obtain ⟨ds, L, z, o, ez, q⟩ := hq
  obtain ⟨es, rfl⟩ : ∃ es, ds = [.list es] := by
    match ds, ez with
    | [.list es], _ => exact ⟨es, rfl⟩
    | [], ez => cases ez
    | [.none], ez => cases ez
    | [.bool _], ez => cases ez
    | [.int _], ez => cases ez
    | [.str _], ez => cases ez
    | [.tuple _], ez => cases ez
    | [.dict _], ez => cases ez
    | d :: e :: r, ez => cases d <;> cases ez
  have ez' : ((dpD es).bind fun kvs => if decide ((kvs.map fun p => nk p.1).Nodup) && okSz kvs.length then some (Vl.od kvs) else none) = some z := ez
  obtain ⟨kvs, e1, e2⟩ := Option.bind_eq_some_iff.mp ez'
  obtain ⟨c, rfl⟩ := ite_some e2
  simp only [Bool.and_eq_true, decide_eq_true_eq] at c
  obtain ⟨x, rfl⟩ := opd_one o
  obtain ⟨F, h1⟩ := o.one
  obtain ⟨a, ys, rfl, ha, ra⟩ := h1.list
  obtain ⟨its, ri, pl, hz⟩ := hI.list ha
  obtain ⟨Ts, ps, zs, ks, vs, a1, a2, a3, a4, a5, a6, a7⟩ := dp_pairs hI es ys its kvs ra ri e1
  rw [Vals.ref1 rv]
  have nd : (zs.map (·.1)).Nodup := by
    have := c.1
    rw [← a6.keys] at this
    exact (List.pairwise_map.mp this).imp fun h e => h (by rw [e])
  have hlen : its.length = ps.length := by rw [a1, List.length_map, a2]
  have items : PairItems s.heap its.toArray (fun j => Ts.getD j 0) ps := by
    refine ⟨by rw [List.size_toArray, hlen], fun j k v hj => ?_⟩
    obtain ⟨T, b1, b2⟩ := a3 j k v hj
    have eT : Ts.getD j 0 = T := by rw [List.getD_eq_getElem?_getD, b1]; rfl
    refine ⟨?_, by show PairAt s.heap (Ts.getD j 0) k v; rw [eT]; exact b2⟩
    show its.toArray[j]? = some (Value.ref (Ts.getD j 0))
    rw [eT, a1]
    simp [b1]
  refine call_dict_pairs (knd := nki X) (kvs := zs) (PairArg.list a its.toArray (fun j => Ts.getD j 0) ps) (hI.ok.hd hc) ⟨pl, items⟩ ⟨a4, fun j k v hj => a5 j k v hj⟩ ?_ fun h' tk dd hk => ?_
  · have := a6.len
    rw [a4] at this
    rw [this]
    exact szOk c.2
  · rw [merged_new zs [] nd (fun k _ z => by cases z), List.nil_append] at dd
    obtain ⟨o', ho', do'⟩ := unkeyedI dd a6
    have low : (s.heap.objs.size == sysModules) = false := beq_eq_false_iff_ne.mpr (Nat.ne_of_gt hI.big)
    refine ⟨.ref s.heap.objs.size, upd H s.heap.objs.size (DcO s.heap.objs.size o'), hI.laid (t' := tk) (fun b o e => hk b o (by simp) e) (Nat.le_refl _) (dc_new ho'), rfl, q _ _ (Opd.dct o (hI.hok.fresh (Nat.le_refl _)) low do' c.1 fun F' oF => ?_)⟩
    obtain ⟨a', ys', e3, ha', ra'⟩ := (paired1 oF).list
    cases e3
    rw [hI.list_inj ha' ha] at ra'
    exact a7 F' ra'
def plainBi : Bi → Bool
  | .isinst _ => false
  | .lrange => false
  | _ => true
theorem cr_biD (b : Bi) (hc : X.calm = true) (hu : X.A.units + 100 < cLine) (hg : X.A.guards = some []) (hb : plainBi b = true) : CallR X (biV b) (rBi X.K b) := by
  cases b with
  | len => exact cr_len
  | abs => exact cr_abs
  | max => exact cr_maxD hc hu
  | min => exact cr_minD hc hu
  | sum => exact cr_sumD hc
  | int => exact cr_int
  | str => exact cr_str
  | repr => exact cr_reprD hg hu
  | list => exact cr_list hc
  | tuple => exact cr_tuple
  | sorted => exact cr_sortD hc hu
  | all => exact cr_allD hc
  | divmod => exact cr_divmod
  | dict => exact cr_dictD hc
  | _ => cases hb
end
end Tr

set_option Elab.async false
set_option linter.all false
set_option maxRecDepth 100000
set_option maxHeartbeats 1000000
/-! A def's promise where no repr is under way around it. -/
namespace Tr
open PySem PySem.Spec PyProof.Rows L2

/-- what a call promises: parameters, heap, the end -/
abbrev SpG := List V → Hp → VK → Prop
structure FnG (P : Program) (w : World) (K : PySem.W.Frag) (mg : Str → Option Value) (base : Heap) (k : Nat) (f : Addr) (fd : FuncData) (ps : List Str) (sp : SpG) : Prop where
  len : ∀ vs H Q, sp vs H Q → vs.length = ps.length
  run : ∀ (A : Around) (outer : List Env) (s : Shared) (H : Hp) (args : Args) (us : List Value) (vs : List V) (Q : VK), Room k A → A.guards = some [] → Env0 P w K mg base A outer s H → BindsTo s fd args (ps.zip us) → Vals vs us → sp vs H Q →
    codeAny (model P w) A (.call (.ref f) args) (CR CX0 outer P w H s Q E0) s
theorem FnG.mono {P : Program} {w : World} {K : PySem.W.Frag} {mg : Str → Option Value} {base : Heap} {j k : Nat} {f : Addr} {fd : FuncData} {ps : List Str} {sp : SpG} (F : FnG P w K mg base j f fd ps sp) (h : j ≤ k) : FnG P w K mg base k f fd ps sp :=
  ⟨F.len, fun A outer s H args us vs Q hr hg e0 hb hv hs => F.run A outer s H args us vs Q (hr.mono h) hg e0 hb hv hs⟩
theorem FnG.imp {P : Program} {w : World} {K : PySem.W.Frag} {mg : Str → Option Value} {base : Heap} {k : Nat} {f : Addr} {fd : FuncData} {ps : List Str} {sp sp' : SpG} (F : FnG P w K mg base k f fd ps sp) (h : ∀ vs H Q, sp' vs H Q → sp vs H Q) : FnG P w K mg base k f fd ps sp' :=
  ⟨fun vs H Q q => F.len vs H Q (h _ _ _ q), fun A outer s H args us vs Q hr hg e0 hb hv hs => F.run A outer s H args us vs Q hr hg e0 hb hv (h _ _ _ hs)⟩
section
variable {P : Program} {w : World} {K : PySem.W.Frag} {mg : Str → Option Value} {base : Heap}
/-- the context of a body -/
abbrev bodyX (P : Program) (w : World) (K : PySem.W.Frag) (mg : Str → Option Value) (base : Heap) (N : List Str) (qual : Str) (scope : Scope) (f : Addr) (cd : Value) (A : Around) (outer : List Env) (s : Shared) (H : Hp) : Cx := (cxOf CX0 P w K mg base N qual scope f cd A outer s H E0).nox
/-- a def by its body -/
theorem fnG_of {x qual : Str} {st : Stmt} {f : Addr} {fd : FuncData} {N ps : List Str} {k : Nat} {sp : SpG} (F : L2.Fun K x qual st f fd) (S : FnScope N ps (defScope st)) (hlen : ∀ vs H Q, sp vs H Q → vs.length = ps.length)
    (hbody : ∀ (cdv : Value) (A : Around) (outer : List Env) (s : Shared) (H : Hp) (vs : List V) (Q : VK), Room k (A.deeper (envOfC qual (defScope st) s.heap.objs.size f cdv)) → A.guards = some [] → sp vs H Q →
      ∃ t, PSs (bodyX P w K mg base N qual (defScope st) f cdv A outer s H) (defBody st) t ∧ t { nx := fun _ H' => Q .non H', rt := Q } (start N vs) H) : FnG P w K mg base (k + 1) f fd ps sp := by
  obtain ⟨oc, od, kV, doc, pm, an, cdv, ct, osl, rfl, lk, hcd⟩ := F.ex
  refine ⟨hlen, fun A outer s H args us vs Q hr hgu e0 hb r hsp => ?_⟩
  have hl := hlen _ _ _ hsp
  have kx : K.In s.heap := e0.mod.kin.keeps fun b o e => (e0.bs b o e).1
  have lim : s.heap.NoLimit := e0.mod.nolimit.keeps fun b o e => (e0.bs b o e).1
  have hkd : ∀ y ∈ ps.zip us, (defScope st).names.lookup y.1 = some .local ∨ ((defScope st).names.lookup y.1 = some .cell ∧ ((cellsFrom (s.heap.objs.size + 1) (defScope st).names []).lookup y.1).isSome = true) := fun ⟨n, v⟩ hy => by
    rcases S.par n (List.of_mem_zip hy).1 with q | q
    · exact .inl q
    · exact .inr ⟨q, PySem.W.cellsFrom_some _ _ _ (.inl q)⟩
  refine codeAny_call_function hr.depth (kx _ _ lk) rfl S.co S.gen rfl (PySem.W.codeRec_of kx hcd) (hb _ _ _ _ ?_)
  refine wpAny_newFunctionEnv_cells S.kind hkd fun env he s1 x => ?_
  subst he
  refine ⟨lim.keeps x.toInCall.keep, codeAny_func ?_⟩
  obtain ⟨t, ht, hq⟩ := hbody cdv A outer s H vs Q (hr.deeper _) hgu hsp
  have I : Inv (cxOf CX0 P w K mg base N qual (defScope st) f cdv A outer s H E0) [] (start N vs) H s1 := inv_start S hr.hd e0 hl r x
  refine wpAny_mono (ht.nox.run [] s1 (start N vs) H _ I hq) (fun fl s' hs => ?_) fun e s' hs => hs
  have fin : ∀ {σ' : St} {H' : Hp} {v : V} {u : Value}, Inv (cxOf CX0 P w K mg base N qual (defScope st) f cdv A outer s H E0) [] σ' H' s' → RelV v u → Q v H' → CE outer P w H s Q u s' :=
    fun {σ' H' v u} J rv q => ⟨v, H', J.os, J.bare, J.base, J.hok, rv, q⟩
  cases fl with
  | next =>
    obtain ⟨σ', H', J, q⟩ := hs
    exact fin (v := V.non) (u := Value.none) J rfl q
  | ret u =>
    obtain ⟨v, σ', H', J, rv, q⟩ := hs
    exact fin J rv q
  | brk =>
    obtain ⟨_, _, _, q⟩ := hs
    exact False.elim q
  | cont =>
    obtain ⟨_, _, _, q⟩ := hs
    exact False.elim q
end
def tCallG (sp : SpG) (t : TA) : TE := fun σ H Q => t σ H fun vs H1 => sp vs H1 Q
section
variable {X : Cx} {k : Nat} {f : Addr} {fd : FuncData} {ps : List Str} {sp : SpG} {x : Str} {p pos : Pos} {e : Expr} {es : List Expr} {t : TA}
theorem run_fnG {pins : List (Addr × Obj)} {σ : St} {H : Hp} {s : Shared} {Q : VK} {us : List Value} {vs : List V} (F : FnG X.prog X.w X.K X.mg X.base k f fd ps sp) (hr : Room k X.A) (hgu : X.A.guards = some []) (hb : Binds X.K fd ps [])
    (I : Inv X pins σ H s) (r : Vals vs us) (h : sp vs H Q) : wpAny (model X.prog X.w) X.A (call (.ref f) us) (EP X pins σ Q) X.xe s := by
  have hl : us.length = ps.length := by rw [← r.length]; exact F.len _ _ _ h
  have hb' := hb s us I.kIn (by rw [List.append_nil]; exact hl)
  rw [List.append_nil] at hb'
  refine wpAny_call (codeAny_mono (F.run X.A X.stack s H ⟨us, []⟩ us vs Q hr hgu I.env0 hb' r h) fun r s' hq => ?_)
  cases r with
  | error e => exact False.elim hq
  | ok fl =>
    cases fl with
    | next => exact False.elim hq
    | ret u => exact I.after hq
    | brk => exact False.elim hq
    | cont => exact False.elim hq
theorem pe_callG (F : FnG X.prog X.w X.K X.mg X.base k f fd ps sp) (hr : Room k X.A) (hgu : X.A.guards = some []) (hg : Gl X x) (hm : X.mg x = some (.ref f)) (hk : PySem.W.keepIn X.K (.ref f) = true) (hb : Binds X.K fd ps [])
    (ha : PA X (e :: es) t) (hdb : (x == ("__debug__" : Str)) = false) (he : starEach (e :: es) X.env = (false, eval e X.env) :: starEach es X.env) (hpl : (backTo pos (starEach es X.env)).any (·.1) = false) :
    PE X (.Call (.Name x p) (e :: es) [] pos) (tCallG sp t) := by
  refine ⟨fun pins s σ H Q I h => ?_⟩
  refine wpAny_Call_Name_kw (ld_glob I hg hm ?_ hdb)
  refine PySem.W.callWith_K (h₀ := X.base) I.ok.mod.kin hk (thn (ha.run pos pins s σ H _ I h) fun us s1 ⟨vs, H1, I1, r, q⟩ => ⟨I1.kIn, ?_⟩) he hpl
  exact run_fnG F hr hgu hb I1 r q
theorem pe_callG0 (F : FnG X.prog X.w X.K X.mg X.base k f fd ps sp) (hr : Room k X.A) (hgu : X.A.guards = some []) (hg : Gl X x) (hm : X.mg x = some (.ref f)) (hk : PySem.W.keepIn X.K (.ref f) = true) (hb : Binds X.K fd ps [])
    (hdb : (x == ("__debug__" : Str)) = false) : PE X (.Call (.Name x p) [] [] pos) (tCallG sp tNil) := by
  refine ⟨fun pins s σ H Q I h => ?_⟩
  refine wpAny_Call_Name_kw (ld_glob I hg hm ?_ hdb)
  exact PySem.W.callWith_K0 I.kIn hk (run_fnG (us := []) F hr hgu hb I .nil h)
end
/-! ### the law's call -/
theorem lawG_call {P : Program} {w : World} {K : PySem.W.Frag} {mg mb : Str → Option Value} {k : Nat} {fa a : Addr} {fd : FuncData} {x : Str} {sp : SpG} {s1 : Shared} {vs : List Value} {ns : List Int}
    (kx : K.In s1.heap) (hns : s1.heap.Ns mainGlobals mg) (hb : s1.heap.Ns builtinsNs mb) (hbb : ∀ y : Str, y ≠ "__name__" → mb y = bootBuiltins y) (hlim : s1.heap.NoLimit) (hg : s1.gens = #[])
    (ha : s1.heap.get? a = some { cls := .type "list", data := .seq vs.toArray }) (hi : IntsAre vs ns) (hl : ns.length ≤ sizeLine) (hr : Room k callerA)
    (F : ∀ base : Heap, K.In base → base.Ns mainGlobals mg → FnG P w K mg base k fa fd [x] sp) (hbind : ∀ (s : Shared) (u : Value), BindsTo s fd ⟨[u], []⟩ [(x, u)])
    (hsp : ∀ H : Hp, StS K (fun _ => False) H a ns → sp [.ref a] H (fun v _ => v = .bl true)) :
    codeAny (model P w) callerA (.call (.ref fa) ⟨[.ref a], []⟩) (fun r s' => r = .ok (.ret (.bool true)) ∧ OldK s1.heap s'.heap ∧ s'.os = s1.os ∧ AllBare s'.gens) s1 := by
  have rv := vals_ints hi
  have lv := hi.length
  have main : ∀ H : Hp, Only H → StS K (fun _ => False) H a ns → HOk P w H s1.heap → (∀ c, H c ≠ none → c = a) → (H a ≠ none → K.lookup a = none) →
      codeAny (model P w) callerA (.call (.ref fa) ⟨[.ref a], []⟩) (fun r s' => r = .ok (.ret (.bool true)) ∧ OldK s1.heap s'.heap ∧ s'.os = s1.os ∧ AllBare s'.gens) s1 := by
    intro H ho hs hok hA hK
    have fromB : ∀ {c : Addr} {o : Obj}, s1.heap.get? c = some o → H c = none → (hidT s1.heap H).get? c = some o := fun e n => hidT_get e n
    have notA : ∀ {c : Addr} {o : Obj} {es : Array DictEntry} {ep : Nat}, s1.heap.get? c = some o → o.data = .dict es ep → H c = none := fun {c o es ep} e d => by
      cases q : H c with
      | none => rfl
      | some u =>
        have ec : c = a := hA c (by rw [q]; simp)
        subst ec
        rw [ha] at e; cases e
        have d' : Data.seq vs.toArray _ = Data.dict es ep := d
        cases d'
    have nsK : ∀ {c : Addr} {m : Str → Option Value}, s1.heap.Ns c m → (hidT s1.heap H).Ns c m := fun {c m} ⟨o, es, ep, e, d, r⟩ => ⟨o, es, ep, fromB e (notA e d), d, r⟩
    have hKb : K.In (hidT s1.heap H) := fun c o e => fromB (kx c o e) (by
      cases q : H c with
      | none => rfl
      | some u =>
        have ec : c = a := hA c (by rw [q]; simp)
        subst ec
        rw [hK (by rw [q]; simp)] at e; cases e)
    have hM : Mod K mg (hidT s1.heap H) := ⟨hKb, nsK hns, ⟨mb, nsK hb, hbb⟩, let ⟨mc, h1, h2⟩ := hlim; ⟨mc, nsK h1, h2⟩⟩
    have e0 : Env0 P w K mg (hidT s1.heap H) callerA [] s1 H := ⟨rfl, hM, fun c o e => of_hidT e, Nat.le_of_eq (hidT_size _ _), trivial, fun c hc => absurd (show c ∈ ([] : List Addr) from hc) (by simp), hok, .of_eq hg⟩
    refine codeAny_mono ((F _ hKb (nsK hns)).run callerA [] s1 H ⟨[.ref a], []⟩ [.ref a] [.ref a] _ hr rfl e0 (hbind s1 (.ref a)) (.cons rfl .nil) (hsp H hs)) fun r s' h => ?_
    cases r with
    | error e => exact False.elim h
    | ok fl =>
      cases fl with
      | next => exact False.elim h
      | brk => exact False.elim h
      | cont => exact False.elim h
      | ret u =>
        obtain ⟨v, H', os, bare, un, hok', r', q⟩ := h
        have q' : v = .bl true := q
        subst q'
        obtain rfl : u = Value.bool true := r'
        refine ⟨rfl, OldK.of_keep fun c o e => ?_, os, bare⟩
        cases q : H c with
        | none => exact un.keep c o e q (by intro z; exact absurd (show c ∈ ([] : List Addr) from z) (by simp)) (by simp)
        | some u =>
          rcases ho c with z | ⟨ob, xs, z⟩
          · rw [q] at z; cases z
          · have z2 := un.frzs c ob _ z
            obtain ⟨e1, _⟩ := hok c _ z
            obtain ⟨e2, _⟩ := hok' c _ z2
            rw [e] at e1; cases e1
            exact e2
  cases hk : K.lookup a with
  | some o =>
    have e := kx a o hk
    rw [ha] at e
    cases e
    refine main (fun _ => none) (fun _ => .inl rfl) (.inr (.inr ⟨_, vs.toArray, _, hk, rfl, rfl, rfl, by rw [List.size_toArray, lv]; exact hl, by simpa using rv⟩)) (fun c u z => by have z' : (none : Option HO) = some u := z; cases z') (fun c z => absurd rfl z) fun z => absurd rfl z
  | none =>
    refine main (fun c => if c = a then some (.frz { cls := .type "list", data := .seq vs.toArray } (.lst (ns.map V.int))) else none) (fun c => ?_) (.inl ⟨{ cls := .type "list", data := .seq vs.toArray }, if_pos rfl, id⟩) (fun c u z => ?_) (fun c z => ?_) fun _ => hk
    · by_cases hc : c = a
      · exact .inr ⟨_, _, if_pos hc⟩
      · exact .inl (if_neg hc)
    · by_cases hc : c = a
      · have z' := (if_pos hc).symm.trans z
        cases z'
        subst hc
        exact ⟨ha, by rw [List.length_map]; exact hl, vs, _, rv, ha⟩
      · have z' := (if_neg hc).symm.trans z
        cases z'
    · by_cases hc : c = a
      · exact hc
      · exact absurd (if_neg hc) z
theorem walkG {l : PySem.W.OpenLaw} {n k : Nat} {q : Program} {loose : List Str} {XP : (Str → Option Value) → Heap → Prop} {YP : World → Heap → Prop} {d : DefRec} {K : Params → PySem.W.Frag} {sp : World → SpG} {x : Str}
    (hn : l.most = some n) (hn2 : n ≤ sizeLine) (hdf : d.params.defaults = []) (hr : Room k callerA)
    (hY : ∀ (w : World) (h : Heap), YP w h → (K w.params).In h)
    (F : ∀ (w : World) (mg : Str → Option Value) (fa : Addr) (h : Heap), (K w.params).In h → h.Ns mainGlobals mg → mg d.name = some (.ref fa) →
      ∃ fd : FuncData, (∀ (s : Shared) (u : Value), BindsTo s fd ⟨[u], []⟩ [(x, u)]) ∧
        ∀ base : Heap, (K w.params).In base → base.Ns mainGlobals mg → FnG l.prog w (K w.params) mg base k fa fd [x] (sp w))
    (hsp : ∀ (w : World) (H : Hp) (a : Addr) (ns : List Int), ns.length ≤ n → (∀ z ∈ ns, Builtin.Int.intBits z ≤ 1048576) → StS (K w.params) (fun _ => False) H a ns → sp w [.ref a] H (fun v _ => v = .bl true)) :
    PySem.W.WalkO q loose XP YP l.row.toRowW d [] (fun f vs => PySem.call f vs) := by
  refine Att.attach_callB hn hdf fun w s0 s1 mg mb fa o pm cd doc a vs ns G Y ho hd hcd hmg hobj hints hlen hbits hg => ?_
  have kx := hY w _ Y
  obtain ⟨fd, hb, hF⟩ := F w mg fa _ kx G.T.g hmg
  exact lawG_call kx G.T.g G.T.b G.T.builtins G.T.nolimit hg hobj hints (Nat.le_trans hlen hn2) hr hF hb fun H hs => hsp w H a ns hlen hbits hs
end Tr
example : L2.Room 30 PySem.callerA := ⟨rfl, by decide, by decide⟩

set_option Elab.async false
set_option linter.all false
set_option maxRecDepth 100000
set_option maxHeartbeats 1000000
/-! The rules: what the interpreter says of an expression is what the model does. -/
namespace Tr
open PySem PySem.Spec PyProof.Rows L2
theorem bnd {α β : Type} {o : Option α} {f : α → Option β} {b : β} (h : o.bind f = some b) : ∃ a, o = some a ∧ f a = some b := Option.bind_eq_some_iff.mp h
theorem mpd {α β : Type} {o : Option α} {f : α → β} {b : β} (h : o.map f = some b) : ∃ a, o = some a ∧ f a = b := Option.map_eq_some_iff.mp h
theorem ite_o {α : Type} {c : Bool} {o : Option α} {b : α} (h : (if c = true then o else Option.none) = some b) : c = true ∧ o = some b := by
  cases c with
  | true => exact ⟨rfl, h⟩
  | false => cases h
section
variable {X : Cx} {G : Fs} {a b c e : Expr} {es : List Expr} {i j k : E} {is : List E} {pos : Pos}
abbrev tE (X : Cx) (G : Fs) (i : E) : TE := tP X.K (ev G i)
abbrev tT (X : Cx) (G : Fs) (i : E) : TT := tB' X.K (tru G i)
theorem bnf (b : Bool) : (b != false) = b := by cases b <;> rfl
theorem bnt (b : Bool) : (b != true) = !b := by cases b <;> rfl
theorem tP_imp {K : PySem.W.Frag} {f : Fm → R Pd} {σ : St} {H : Hp} {Q Q' : VK} (h : tP K f σ H Q) (m : ∀ v H', Q v H' → Q' v H') : tP K f σ H Q' := by
  obtain ⟨fr, L, p, fr', ok, l, ee, q⟩ := h
  exact ⟨fr, L, p, fr', ok, l, ee, fun v H' ok' h' => m _ _ (q v H' ok' h')⟩
theorem hold1 {K : PySem.W.Frag} {σ : St} {fr : Fm} {H : Hp} {v : V} {x : Vl} {L : List (V × Vl)} (l : Live K H ((v, x) :: (slots σ fr ++ L))) : Hold K σ fr H [v] [.st x] L := ⟨.cons trivial .nil, l⟩
theorem s_con {d : D} {v : V} (h : PE X e (tC v)) (hs : scalD d = some v) : PE X e (tE X G (.con d)) := by
  refine pe_mono h fun σ H Q q => ?_
  obtain ⟨fr, L, p, fr', ok, l, ee, q⟩ := q
  unfold ev at ee
  cases ee
  exact q v H ok (hold1 (l.scal hs))
theorem s_glb {d : D} {v : V} (h : PE X e (tC v)) (hs : ∀ F H, RelD X.K F H v d) : PE X e (tE X G (.glb d)) := by
  refine pe_mono h fun σ H Q q => ?_
  obtain ⟨fr, L, p, fr', ok, l, ee, q⟩ := q
  unfold ev at ee
  cases ee
  obtain ⟨fs, nd, r⟩ := l
  exact q v H ok (hold1 ⟨fs, nd, .cons (f := []) (.fz (hs _ _)) r⟩)
theorem s_var {n : Nat} (h : PE X e (tVar n)) : PE X e (tE X G (.var n)) := by
  refine pe_mono h fun σ H Q q => ?_
  obtain ⟨fr, L, p, fr', ok, l, ee, q⟩ := q
  unfold ev at ee
  split at ee
  · rename_i x hx
    cases ee
    obtain ⟨v, hv⟩ := ok.has _ _ hx
    exact ⟨v, hv, q v H ok ⟨.cons hv .nil, l⟩⟩
  · cases ee
/-- two operands, one behind the other -/
theorem two {f g : Fm → R Pd} {σ : St} {H : Hp} {Q : V → V → Hp → Prop} {fr fr1 fr2 : Fm} {L : List (V × Vl)} {p q : Pd} (ok : SlOk σ fr) (l : Live X.K H (slots σ fr ++ L)) (h1 : f fr = some (p, fr1)) (h2 : g fr1 = some (q, fr2))
    (h : ∀ v w H', SlOk σ fr2 → Hold X.K σ fr2 H' [v, w] [p, q] L → Q v w H') : tP X.K f σ H fun x H1 => tP X.K g σ H1 fun y H2 => Q x y H2 := by
  refine ⟨fr, L, p, fr1, ok, l, h1, fun v H1 ok1 o1 => ⟨fr1, pit [v] [p] ++ L, q, fr2, ok1, o1.aside, h2, fun w H2 ok2 o2 => h v w H2 ok2 ?_⟩⟩
  exact Hold.more (ps := [p]) (vs := [v]) o1.1 o2
theorem s_bin {op : Bop} (ha : PE X a (tE X G i)) (hb : PE X b (tE X G j)) : PE X (.BinOp a (bopO op) b pos) (tE X G (.bin op i j)) := by
  refine pe_mono (pe_op (op_binD op) ha hb) fun σ H Q q => ?_
  obtain ⟨fr, L, p, fr', ok, l, ee, q⟩ := q
  unfold ev at ee
  obtain ⟨⟨p1, f1⟩, e1, ee⟩ := bnd ee
  obtain ⟨⟨p2, f2⟩, e2, ee⟩ := bnd ee
  obtain ⟨x, e3, ee⟩ := bnd ee
  obtain ⟨y, e4, ee⟩ := bnd ee
  obtain ⟨z, e5, ee⟩ := mpd ee
  cases ee
  exact two ok l e1 e2 fun v w H2 ok2 o => ⟨x, y, _, z, o.lookM2 e3 e4, e5, fun u H3 l3 => q u H3 ok2 (hold1 l3)⟩
theorem Hold.look2 {K : PySem.W.Frag} {σ : St} {fr : Fm} {H : Hp} {L : List (V × Vl)} {v w : V} {p q : Pd} {d e : D} (h : Hold K σ fr H [v, w] [p, q] L) (e1 : look fr p = some d) (e2 : look fr q = some e) : Opd K H [v, w] [d, e] (slots σ fr ++ L) := h.looks (looks_two e1 e2)
theorem Hold.look1 {K : PySem.W.Frag} {σ : St} {fr : Fm} {H : Hp} {L : List (V × Vl)} {v : V} {p : Pd} {d : D} (h : Hold K σ fr H [v] [p] L) (e1 : look fr p = some d) : Opd K H [v] [d] (slots σ fr ++ L) := h.looks (looks_one e1)
theorem s_neg (ha : PE X a (tE X G i)) : PE X (.UnaryOp .USub a pos) (tE X G (.neg i)) := by
  refine pe_mono (pe_un un_neg ha) fun σ H Q q => ?_
  obtain ⟨fr, L, p, fr', ok, l, ee, q⟩ := q
  unfold ev at ee
  obtain ⟨⟨p1, f1⟩, e1, ee⟩ := bnd ee
  refine ⟨fr, L, p1, f1, ok, l, e1, fun v H1 ok1 o => ?_⟩
  dsimp only at ee
  split at ee
  · rename_i z hz
    cases ee
    obtain ⟨F, h1⟩ := (o.look1 hz).one
    have := h1.int
    subst this
    exact ⟨z, rfl, q _ _ ok1 (hold1 ((o.look1 hz).sc rfl))⟩
  · cases ee
theorem s_cmp {op : Cop} (hu : X.A.units + 70 < cLine) (ha : PE X a (tE X G i)) (hb : PE X b (tE X G j)) (hm : behindInMarks (copO op) b = false) : PE X (.Compare a [copO op] [b] pos) (tE X G (.cmp op i j)) := by
  refine pe_mono (pe_cmpR (op_copD op hu) ha hb hm) fun σ H Q q => ?_
  obtain ⟨fr, L, p, fr', ok, l, ee, q⟩ := q
  unfold ev at ee
  obtain ⟨⟨p1, f1⟩, e1, ee⟩ := bnd ee
  obtain ⟨⟨p2, f2⟩, e2, ee⟩ := bnd ee
  obtain ⟨x, e3, ee⟩ := bnd ee
  obtain ⟨y, e4, ee⟩ := bnd ee
  obtain ⟨z, e5, ee⟩ := mpd ee
  cases ee
  exact two ok l e1 e2 fun v w H2 ok2 o => ⟨x, y, _, z, o.look2 e3 e4, e5, fun H3 l3 => q _ H3 ok2 (hold1 (l3.scal rfl))⟩
theorem t_cmp {op : Cop} (hu : X.A.units + 70 < cLine) (ha : PE X a (tE X G i)) (hb : PE X b (tE X G j)) (hm : behindInMarks (copO op) b = false) : PT X (.Compare a [copO op] [b] pos) (tT X G (.cmp op i j)) := by
  refine pt_mono (pt_cmpR (op_copD op hu) ha hb hm) fun σ H Q q => ?_
  obtain ⟨fr, L, p, fr', ok, l, ee, q⟩ := q
  unfold tru ev at ee
  obtain ⟨r, ee, e6⟩ := bnd ee
  obtain ⟨⟨p1, f1⟩, e1, ee⟩ := bnd ee
  obtain ⟨⟨p2, f2⟩, e2, ee⟩ := bnd ee
  obtain ⟨x, e3, ee⟩ := bnd ee
  obtain ⟨y, e4, ee⟩ := bnd ee
  obtain ⟨z, e5, ee⟩ := mpd ee
  cases ee
  cases e6
  exact two ok l e1 e2 fun v w H2 ok2 o => ⟨x, y, _, z, o.look2 e3 e4, e5, fun H3 l3 => ⟨z, rfl, q H3 ok2 l3⟩⟩
/-- the chain: the middle operand is looked at twice -/
theorem chn_core {op1 op2 : Cop} {Q : VK} {σ : St} {H : Hp} {fr fr' : Fm} {L : List (V × Vl)} {z : Bool} (ok : SlOk σ fr) (l : Live X.K H (slots σ fr ++ L)) (ee : ev G (.chn op1 op2 i j k) fr = some (.st (.fz (.bool z)), fr'))
    (q : ∀ H', SlOk σ fr' → Live X.K H' (slots σ fr' ++ L) → Q (.bl z) H') : tChain (rCop X.K op1) (rCop X.K op2) (tE X G i) (tE X G j) (tE X G k) σ H Q := by
  unfold ev at ee
  obtain ⟨⟨p1, f1⟩, e1, ee⟩ := bnd ee
  obtain ⟨⟨p2, f2⟩, e2, ee⟩ := bnd ee
  obtain ⟨x, e3, ee⟩ := bnd ee
  obtain ⟨y, e4, ee⟩ := bnd ee
  obtain ⟨z1, e5, ee⟩ := bnd ee
  refine two ok l e1 e2 fun v w H2 ok2 o => ?_
  cases z1 with
  | false =>
    cases ee
    exact ⟨x, y, _, _, o.look2 e3 e4, e5, fun H3 l3 => ⟨false, rfl, q H3 ok2 l3⟩⟩
  | true =>
    rw [if_pos rfl] at ee
    obtain ⟨⟨p3, f3⟩, e6, ee⟩ := bnd ee
    obtain ⟨y', e7, ee⟩ := bnd ee
    obtain ⟨t, e8, ee⟩ := bnd ee
    obtain ⟨z2, e9, ee⟩ := mpd ee
    cases ee
    have lo : Opd X.K H2 [v, w] [x, y] (pit [w] [p2] ++ (slots σ f2 ++ L)) := by
      obtain ⟨pk, lv⟩ := o
      cases pk with
      | cons k1 k2 =>
        cases k2 with
        | cons k2 _ =>
          have lv2 : Live X.K H2 (pit [v] [p1] ++ (pit [w] [p2] ++ (slots σ f2 ++ L))) := by
            have : pit [v, w] [p1, p2] = pit [v] [p1] ++ pit [w] [p2] := pit_append (vs := [v]) (ps := [p1]) rfl
            rw [this, List.append_assoc] at lv
            exact lv
          refine Opd.right (L1 := pit [v] [p1]) (Opd.mk lv2 fun fs r => ?_)
          obtain ⟨xx, m, fl⟩ := look_mem (L := L) (A := pit [v] [p1] ++ pit [w] [p2]) k1 e3 fun x ex => by subst ex; exact List.mem_cons_self
          obtain ⟨f, rx⟩ := r.mem (by rw [← List.append_assoc]; exact m)
          obtain ⟨yy, m2, fl2⟩ := look_mem (L := L) (A := pit [v] [p1] ++ pit [w] [p2]) k2 e4 fun x ex => by subst ex; exact List.mem_append_right _ List.mem_cons_self
          obtain ⟨f2, rx2⟩ := r.mem (by rw [← List.append_assoc]; exact m2)
          exact .cons (rx.flat fl) (.cons (rx2.flat fl2) .nil)
    refine ⟨x, y, _, true, lo, e5, fun H3 l3 => ⟨true, rfl, ?_⟩⟩
    rw [if_pos rfl]
    have kw : pok σ [w] [p2] := by
      obtain ⟨pk, _⟩ := o
      cases pk with
      | cons _ k2 => exact k2
    have h3 : Hold X.K σ f2 H3 [w] [p2] L := ⟨kw, l3⟩
    refine ⟨f2, pit [w] [p2] ++ L, p3, f3, ok2, h3.aside, e6, fun u H4 ok4 o4 => ?_⟩
    have o5 : Hold X.K σ f3 H4 [w, u] [p2, p3] L := Hold.more (vs := [w]) (ps := [p2]) kw o4
    exact ⟨y', t, _, _, o5.look2 e7 e8, e9, fun H5 l5 => q H5 ok4 l5⟩
theorem chn_bool {op1 op2 : Cop} {fr fr' : Fm} {p : Pd} (ee : ev G (.chn op1 op2 i j k) fr = some (p, fr')) : ∃ z, p = .st (.fz (.bool z)) := by
  unfold ev at ee
  obtain ⟨⟨p1, f1⟩, e1, ee⟩ := bnd ee
  obtain ⟨⟨p2, f2⟩, e2, ee⟩ := bnd ee
  obtain ⟨x, e3, ee⟩ := bnd ee
  obtain ⟨y, e4, ee⟩ := bnd ee
  obtain ⟨z1, e5, ee⟩ := bnd ee
  cases z1 with
  | false => cases ee; exact ⟨_, rfl⟩
  | true =>
    rw [if_pos rfl] at ee
    obtain ⟨⟨p3, f3⟩, e6, ee⟩ := bnd ee
    obtain ⟨y', e7, ee⟩ := bnd ee
    obtain ⟨t, e8, ee⟩ := bnd ee
    obtain ⟨z2, e9, ee⟩ := mpd ee
    cases ee
    exact ⟨_, rfl⟩
theorem s_chn {op1 op2 : Cop} (hu : X.A.units + 70 < cLine) (ha : PE X a (tE X G i)) (hb : PE X b (tE X G j)) (hc : PE X c (tE X G k)) (hm : lastMarks [copO op1, copO op2] [b, c] = false) : PE X (.Compare a [copO op1, copO op2] [b, c] pos) (tE X G (.chn op1 op2 i j k)) := by
  refine pe_mono (pe_chain (op_copD op1 hu) (op_copD op2 hu) ha hb hc hm) fun σ H Q q => ?_
  obtain ⟨fr, L, p, fr', ok, l, ee, q⟩ := q
  obtain ⟨z, rfl⟩ := chn_bool ee
  exact chn_core ok l ee fun H' ok' l' => q _ H' ok' (hold1 (l'.scal rfl))
theorem t_chn {op1 op2 : Cop} (hu : X.A.units + 70 < cLine) (ha : PE X a (tE X G i)) (hb : PE X b (tE X G j)) (hc : PE X c (tE X G k)) (hm : lastMarks [copO op1, copO op2] [b, c] = false) : PT X (.Compare a [copO op1, copO op2] [b, c] pos) (tT X G (.chn op1 op2 i j k)) := by
  refine pt_mono (pt_chain (op_copD op1 hu) (op_copD op2 hu) ha hb hc hm) fun σ H Q q => ?_
  obtain ⟨fr, L, p, fr', ok, l, ee, q⟩ := q
  unfold tru at ee
  obtain ⟨⟨p1, f1⟩, e1, ee⟩ := bnd ee
  obtain ⟨z, rfl⟩ := chn_bool e1
  cases ee
  exact chn_core ok l e1 fun H' ok' l' => ⟨z, rfl, q H' ok' l'⟩
/-- is None, is not None -/
theorem isN_fin {σ : St} {H : Hp} {Q : VK} (no : Bool) (q : tE X G (.isc i .none no) σ H Q) : tE X G i σ H fun x H1 => Q (.bl (decide (x = .non) != no)) H1 := by
  obtain ⟨fr, L, p, fr', ok, l, ee, q⟩ := q
  unfold ev at ee
  obtain ⟨⟨p1, f1⟩, e1, ee⟩ := bnd ee
  obtain ⟨x, e2, ee⟩ := bnd ee
  refine ⟨fr, L, p1, f1, ok, l, e1, fun v H1 ok1 o => ?_⟩
  have oo := o.look1 e2
  obtain ⟨F, h1⟩ := oo.one
  cases x with
  | none =>
    have := h1.none
    subst this
    cases ee
    have := q (.bl (!no)) H1 ok1 (hold1 (oo.sc rfl))
    cases no <;> exact this
  | _ =>
    have nn : decide (v = .non) = false := by
      refine decide_eq_false fun z => ?_
      subst z
      cases h1 with
      | fz h1 => cases h1
    cases ee
    have := q (.bl no) H1 ok1 (hold1 (oo.sc rfl))
    show Q (.bl (decide (v = .non) != no)) H1
    rw [nn]
    cases no <;> exact this
/-- a test by a value that is a bool -/
theorem tT_bool {σ : St} {H : Hp} {Q : Bool → Hp → Prop} (hi : ∀ fr, tru G i fr = (ev G i fr).bind fun p => (look p.2 p.1).bind fun d => if okTru d then some (truD d, p.2) else none) (hb : ∀ fr p f, ev G i fr = some (p, f) → ∃ z, p = .st (.fz (.bool z)))
    (q : tT X G i σ H Q) : tE X G i σ H fun x H1 => ∃ c, x = .bl c ∧ Q c H1 := by
  obtain ⟨fr, L, z, fr', ok, l, ee, q⟩ := q
  rw [hi] at ee
  obtain ⟨⟨p1, f1⟩, e1, ee⟩ := bnd ee
  obtain ⟨y, rfl⟩ := hb _ _ _ e1
  cases ee
  refine ⟨fr, L, _, f1, ok, l, e1, fun v H1 ok1 o => ?_⟩
  obtain ⟨pk, lv⟩ := o
  have lv : Live X.K H1 ((v, .fz (.bool y)) :: (slots σ f1 ++ L)) := lv
  have : v = .bl y := by
    obtain ⟨fs, nd, r⟩ := lv
    cases r with
    | cons h1 _ => cases h1 with
      | fz h1 => cases h1; rfl
  exact ⟨y, this, q H1 ok1 lv.tail⟩
theorem isc_bool {d : D} {no : Bool} : ∀ fr p f, ev G (.isc i d no) fr = some (p, f) → ∃ z, p = .st (.fz (.bool z)) := by
  intro fr p f h
  unfold ev at h
  obtain ⟨⟨p1, f1⟩, e1, h⟩ := bnd h
  obtain ⟨x, e2, h⟩ := bnd h
  dsimp only at h
  split at h <;> first | (cases h; exact ⟨_, rfl⟩) | cases h
theorem tru_isc {d : D} {no : Bool} : ∀ fr, tru G (.isc i d no) fr = (ev G (.isc i d no) fr).bind fun p => (look p.2 p.1).bind fun d => if okTru d then some (truD d, p.2) else none := fun fr => by
  conv => lhs; unfold tru
theorem s_isN {p2 : Pos} {j2 : Nat} (ha : PE X a (tE X G i)) : PE X (.Compare a [.Is] [.Constant .none j2 p2] pos) (tE X G (.isc i .none false)) :=
  pe_mono (pe_cmp (pc_isN ha)) fun σ H Q q => tP_imp (isN_fin false q) fun v H1 z => by
    have z : Q (.bl (decide (v = .non) != false)) H1 := z
    rw [bnf] at z
    exact z
theorem s_noN {p2 : Pos} {j2 : Nat} (ha : PE X a (tE X G i)) : PE X (.Compare a [.IsNot] [.Constant .none j2 p2] pos) (tE X G (.isc i .none true)) :=
  pe_mono (pe_cmp (pc_notN ha)) fun σ H Q q => tP_imp (isN_fin true q) fun v H1 z => by
    have z : Q (.bl (decide (v = .non) != true)) H1 := z
    rw [bnt] at z
    exact z
theorem t_isN {p2 : Pos} {j2 : Nat} (ha : PE X a (tE X G i)) : PT X (.Compare a [.Is] [.Constant .none j2 p2] pos) (tT X G (.isc i .none false)) :=
  pt_mono (pt_cmp (pc_isN ha)) fun σ H Q q => tP_imp (isN_fin false (tT_bool tru_isc isc_bool q)) fun v H1 z => by
    have z : ∃ c, V.bl (decide (v = .non) != false) = .bl c ∧ Q c H1 := z
    rw [bnf] at z
    exact z
theorem t_noN {p2 : Pos} {j2 : Nat} (ha : PE X a (tE X G i)) : PT X (.Compare a [.IsNot] [.Constant .none j2 p2] pos) (tT X G (.isc i .none true)) :=
  pt_mono (pt_cmp (pc_notN ha)) fun σ H Q q => tP_imp (isN_fin true (tT_bool tru_isc isc_bool q)) fun v H1 z => by
    have z : ∃ c, V.bl (decide (v = .non) != true) = .bl c ∧ Q c H1 := z
    rw [bnt] at z
    exact z
end
end Tr

set_option Elab.async false
set_option linter.all false
set_option maxRecDepth 100000
set_option maxHeartbeats 1000000
namespace Tr
open PySem PySem.Spec PyProof.Rows L2
section
variable {X : Cx} {G : Fs} {a b c e : Expr} {es rest : List Expr} {i j k : E} {is : List E} {pos : Pos}
theorem isB_fin {z : Bool} {σ : St} {H : Hp} {Q : VK} (no : Bool) (q : tE X G (.isc i (.bool z) no) σ H Q) : tE X G i σ H fun x H1 => ∃ y, x = .bl y ∧ Q (.bl ((decide (y = z)) != no)) H1 := by
  obtain ⟨fr, L, p, fr', ok, l, ee, q⟩ := q
  unfold ev at ee
  obtain ⟨⟨p1, f1⟩, e1, ee⟩ := bnd ee
  obtain ⟨x, e2, ee⟩ := bnd ee
  refine ⟨fr, L, p1, f1, ok, l, e1, fun v H1 ok1 o => ?_⟩
  have oo := o.look1 e2
  obtain ⟨F, h1⟩ := oo.one
  cases x with
  | bool y =>
    have := h1.bool
    subst this
    cases ee
    refine ⟨y, rfl, ?_⟩
    have := q (.bl ((z == y) != no)) H1 ok1 (hold1 (oo.sc rfl))
    have e3 : decide (y = z) = (z == y) := by cases y <;> cases z <;> rfl
    rw [e3]
    exact this
  | _ => cases ee
theorem s_isB {p2 : Pos} {j2 : Nat} {z : Bool} (ha : PE X a (tE X G i)) : PE X (.Compare a [.Is] [.Constant (.bool z) j2 p2] pos) (tE X G (.isc i (.bool z) false)) :=
  pe_mono (pe_cmpR op_isBl ha pe_bl rfl) fun σ H Q q => tP_imp (isB_fin false q) fun v H1 ⟨y, e1, z1⟩ => ⟨y, z, e1, rfl, by rw [bnf] at z1; exact z1⟩
theorem s_noB {p2 : Pos} {j2 : Nat} {z : Bool} (ha : PE X a (tE X G i)) : PE X (.Compare a [.IsNot] [.Constant (.bool z) j2 p2] pos) (tE X G (.isc i (.bool z) true)) :=
  pe_mono (pe_cmpR op_notBl ha pe_bl rfl) fun σ H Q q => tP_imp (isB_fin true q) fun v H1 ⟨y, e1, z1⟩ => ⟨y, z, e1, rfl, by rw [bnt] at z1; exact z1⟩
theorem t_isB {p2 : Pos} {j2 : Nat} {z : Bool} (ha : PE X a (tE X G i)) : PT X (.Compare a [.Is] [.Constant (.bool z) j2 p2] pos) (tT X G (.isc i (.bool z) false)) :=
  pt_mono (pt_cmpR op_isBl ha pe_bl rfl) fun σ H Q q => tP_imp (isB_fin false (tT_bool tru_isc isc_bool q)) fun v H1 ⟨y, e1, z1⟩ => ⟨y, z, e1, rfl, by rw [bnf] at z1; exact z1⟩
theorem t_noB {p2 : Pos} {j2 : Nat} {z : Bool} (ha : PE X a (tE X G i)) : PT X (.Compare a [.IsNot] [.Constant (.bool z) j2 p2] pos) (tT X G (.isc i (.bool z) true)) :=
  pt_mono (pt_cmpR op_notBl ha pe_bl rfl) fun σ H Q q => tP_imp (isB_fin true (tT_bool tru_isc isc_bool q)) fun v H1 ⟨y, e1, z1⟩ => ⟨y, z, e1, rfl, by rw [bnt] at z1; exact z1⟩
/-- a test that is a value's truth -/
theorem t_val (h : PE X e (tE X G i)) (he : ∀ whole, isTrue e X.env whole = (do let v ← whole; standAt e.pos; holding [v] (truthy v)))
    (hi : ∀ fr, tru G i fr = (ev G i fr).bind fun p => (look p.2 p.1).bind fun d => if okTru d then some (truD d, p.2) else none) : PT X e (tT X G i) := by
  refine ⟨fun pins s σ H Q I hq => ?_⟩
  obtain ⟨fr, L, z, fr', ok, l, ee, q⟩ := hq
  rw [hi] at ee
  obtain ⟨⟨p1, f1⟩, e1, ee⟩ := bnd ee
  obtain ⟨d, e2, ee⟩ := bnd ee
  obtain ⟨c, ee⟩ := ite_some ee
  cases ee
  refine isTrue_plain (thn (h.run pins s σ H (fun v H1 => rTru X.K v H1 Q) I ⟨fr, L, p1, f1, ok, l, e1, fun v H1 ok1 o => ⟨d, _, o.look1 e2, ?_, fun H2 l2 => q H2 ok1 l2⟩⟩) fun v s1 ⟨x, H1, I1, r1, q1⟩ => tru_truD pins s1 σ H1 x v _ I1 r1 q1) (he _)
  cases d <;> first | trivial | exact c
theorem t_not (ha : PT X a (tT X G i)) : PT X (.UnaryOp .Not a pos) (tT X G (.not i)) := by
  refine pt_mono (pt_not ha) fun σ H Q q => ?_
  obtain ⟨fr, L, z, fr', ok, l, ee, q⟩ := q
  unfold tru at ee
  obtain ⟨⟨b1, f1⟩, e1, ee⟩ := mpd ee
  cases ee
  exact ⟨fr, L, b1, f1, ok, l, e1, fun H1 ok1 l1 => q H1 ok1 l1⟩
theorem s_not (ha : PE X a (tE X G i)) : PE X (.UnaryOp .Not a pos) (tE X G (.not i)) := by
  refine ⟨fun pins s σ H Q I h => ?_⟩
  obtain ⟨fr, L, p, fr', ok, l, ee, q⟩ := h
  unfold ev at ee
  obtain ⟨⟨p1, f1⟩, e1, ee⟩ := bnd ee
  obtain ⟨d, e2, ee⟩ := bnd ee
  obtain ⟨c, ee⟩ := ite_some ee
  cases ee
  refine UnaryOp_ (thn (ha.run pins s σ H (fun v H1 => rTru X.K v H1 fun z H2 => Q (.bl (!z)) H2) I ⟨fr, L, p1, f1, ok, l, e1, fun v H1 ok1 o => ⟨d, _, o.look1 e2, ?_, fun H2 l2 => q _ H2 ok1 (hold1 (l2.scal rfl))⟩⟩) fun v s1 ⟨x, H1, I1, r1, q1⟩ => ?_)
  · cases d <;> first | trivial | exact c
  · exact not_of (thn (tru_truD pins s1 σ H1 x v _ I1 r1 q1) fun z s2 ⟨H2, I2, q2⟩ => ⟨.bl (!z), H2, I2, rfl, q2⟩)
theorem w_and (ha : PT X a (tT X G i)) (hb : PW X (.BoolOp .And (b :: rest) pos) (tT X G j)) : PW X (.BoolOp .And (a :: b :: rest) pos) (tT X G (.and i j)) := by
  refine pw_mono (pw_and ha hb) fun σ H Q q => ?_
  obtain ⟨fr, L, z, fr', ok, l, ee, q⟩ := q
  unfold tru at ee
  obtain ⟨⟨b1, f1⟩, e1, ee⟩ := bnd ee
  refine ⟨fr, L, b1, f1, ok, l, e1, fun H1 ok1 l1 => ?_⟩
  cases b1 with
  | true => exact ⟨f1, L, z, fr', ok1, l1, ee, q⟩
  | false => cases ee; exact q H1 ok1 l1
theorem w_or (ha : PT X a (tT X G i)) (hb : PW X (.BoolOp .Or (b :: rest) pos) (tT X G j)) : PW X (.BoolOp .Or (a :: b :: rest) pos) (tT X G (.or i j)) := by
  refine pw_mono (pw_or ha hb) fun σ H Q q => ?_
  obtain ⟨fr, L, z, fr', ok, l, ee, q⟩ := q
  unfold tru at ee
  obtain ⟨⟨b1, f1⟩, e1, ee⟩ := bnd ee
  refine ⟨fr, L, b1, f1, ok, l, e1, fun H1 ok1 l1 => ?_⟩
  cases b1 with
  | true => cases ee; exact q H1 ok1 l1
  | false => exact ⟨f1, L, z, fr', ok1, l1, ee, q⟩
/-- a forced bool -/
theorem bool_of {K : PySem.W.Frag} {H : Hp} {v : V} {z : Bool} {L : List (V × Vl)} (l : Live K H ((v, .fz (.bool z)) :: L)) : v = .bl z := by
  obtain ⟨fs, nd, r⟩ := l
  cases r with
  | cons h1 h2 =>
    cases h1 with
    | fz h1 => cases h1; rfl
theorem okTru_str {d : D} (h : okTru d = true) : ∀ z, d = .str z → okSz z.length = true := fun z e => by
  subst e; exact h
theorem okTru_nd {d : D} (h : okTru d = true) : ∀ kvs, d ≠ .dict kvs := fun kvs e => by
  subst e; cases h
theorem truV_live {K : PySem.W.Frag} {H : Hp} {v : V} {d : D} {L : List (V × Vl)} (l : Live K H ((v, .fz d) :: L)) (h : okTru d = true) : TruV K v H (truD d) := by
  obtain ⟨fs, nd, r⟩ := l
  cases r with
  | cons h1 h2 =>
    cases h1 with
    | fz h1 => exact truV_of (.fz h1) (okTru_str h) (okTru_nd h)
theorem s_and (ha : PE X a (tE X G i)) (hb : PE X (.BoolOp .And (b :: rest) pos) (tE X G j)) : PE X (.BoolOp .And (a :: b :: rest) pos) (tE X G (.and i j)) := by
  refine pe_mono (pe_andT ha hb) fun σ H Q q => ?_
  obtain ⟨fr, L, p, fr', ok, l, ee, q⟩ := q
  unfold ev at ee
  obtain ⟨⟨p1, f1⟩, e1, ee⟩ := bnd ee
  obtain ⟨⟨x, f2⟩, e2, ee⟩ := bnd ee
  refine ⟨fr, L, p1, f1, ok, l, e1, fun v H1 ok1 o => ?_⟩
  obtain ⟨ok2, l2⟩ := o.force ok1 e2
  dsimp only at ee
  split at ee
  · exact ⟨true, truV_live l2 rfl, ⟨f2, L, p, fr', ok2, l2.tail, ee, q⟩⟩
  · cases ee
    exact ⟨false, truV_live l2 rfl, q _ H1 ok2 (hold1 l2)⟩
  · rename_i d _ _
    obtain ⟨c, ee⟩ := ite_o ee
    refine ⟨truD d, truV_live l2 c, ?_⟩
    cases ht : truD d with
    | true =>
      rw [ht] at ee
      rw [if_pos rfl] at ee ⊢
      exact ⟨f2, L, p, fr', ok2, l2.tail, ee, q⟩
    | false =>
      rw [ht] at ee
      rw [if_neg Bool.false_ne_true] at ee ⊢
      cases ee
      exact q _ H1 ok2 (hold1 l2)
  · cases ee
theorem s_or (ha : PE X a (tE X G i)) (hb : PE X (.BoolOp .Or (b :: rest) pos) (tE X G j)) : PE X (.BoolOp .Or (a :: b :: rest) pos) (tE X G (.or i j)) := by
  refine pe_mono (pe_orT ha hb) fun σ H Q q => ?_
  obtain ⟨fr, L, p, fr', ok, l, ee, q⟩ := q
  unfold ev at ee
  obtain ⟨⟨p1, f1⟩, e1, ee⟩ := bnd ee
  obtain ⟨⟨x, f2⟩, e2, ee⟩ := bnd ee
  refine ⟨fr, L, p1, f1, ok, l, e1, fun v H1 ok1 o => ?_⟩
  obtain ⟨ok2, l2⟩ := o.force ok1 e2
  dsimp only at ee
  split at ee
  · cases ee
    exact ⟨true, truV_live l2 rfl, q _ H1 ok2 (hold1 l2)⟩
  · exact ⟨false, truV_live l2 rfl, ⟨f2, L, p, fr', ok2, l2.tail, ee, q⟩⟩
  · rename_i d _ _
    obtain ⟨c, ee⟩ := ite_o ee
    refine ⟨truD d, truV_live l2 c, ?_⟩
    cases ht : truD d with
    | false =>
      rw [ht] at ee
      rw [if_neg Bool.false_ne_true] at ee ⊢
      exact ⟨f2, L, p, fr', ok2, l2.tail, ee, q⟩
    | true =>
      rw [ht] at ee
      rw [if_pos rfl] at ee ⊢
      cases ee
      exact q _ H1 ok2 (hold1 l2)
  · cases ee
theorem s_ite (hc : PT X c (tT X G i)) (ha : PE X a (tE X G j)) (hb : PE X b (tE X G k)) : PE X (.IfExp c a b pos) (tE X G (.ite i j k)) := by
  refine pe_mono (pe_ifExp hc ha hb) fun σ H Q q => ?_
  obtain ⟨fr, L, p, fr', ok, l, ee, q⟩ := q
  unfold ev at ee
  obtain ⟨⟨b1, f1⟩, e1, ee⟩ := bnd ee
  refine ⟨fr, L, b1, f1, ok, l, e1, fun H1 ok1 l1 => ?_⟩
  cases b1 with
  | true => exact ⟨f1, L, p, fr', ok1, l1, ee, q⟩
  | false => exact ⟨f1, L, p, fr', ok1, l1, ee, q⟩
theorem s_idx (hu : X.A.units + 70 < cLine) (ha : PE X a (tE X G i)) (hb : PE X b (tE X G j)) (hs : PlainIx b) : PE X (.Subscript a b pos) (tE X G (.idx i j)) := by
  refine pe_mono (pe_ix (ix_idxD hu) ha hb hs) fun σ H Q q => ?_
  obtain ⟨fr, L, p, fr', ok, l, ee, q⟩ := q
  unfold ev at ee
  obtain ⟨⟨p1, f1⟩, e1, ee⟩ := bnd ee
  obtain ⟨⟨p2, f2⟩, e2, ee⟩ := bnd ee
  obtain ⟨x, e3, ee⟩ := bnd ee
  obtain ⟨y, e4, ee⟩ := bnd ee
  obtain ⟨z, e5, ee⟩ := mpd ee
  cases ee
  exact two ok l e1 e2 fun v w H2 ok2 o => ⟨x, y, _, z, o.look2 e3 e4, e5, fun u H3 l3 => q u H3 ok2 (hold1 l3)⟩
/-- a slice's part, while an operand waits -/
def tPart' (X : Cx) (G : Fs) (o : Option E) : TO := fun σ H Q => ∃ fr L z fr', SlOk σ fr ∧ Live X.K H (slots σ fr ++ L) ∧ part G o fr = some (z, fr') ∧ ∀ H', SlOk σ fr' → Live X.K H' (slots σ fr' ++ L) → Q z H'
theorem po_mono {o : Option Expr} {t t' : TO} (h : PO X o t) (m : ∀ σ H Q, t' σ H Q → t σ H Q) : PO X o t' := ⟨fun pins s σ H Q hI hq => h.run pins s σ H Q hI (m σ H Q hq)⟩
theorem p_none : PO X none (tPart' X G none) := by
  refine po_mono po_none fun σ H Q q => ?_
  obtain ⟨fr, L, z, fr', ok, l, ee, q⟩ := q
  unfold part at ee
  cases ee
  exact q H ok l
theorem p_some (ha : PE X a (tE X G i)) : PO X (some a) (tPart' X G (some i)) := by
  refine po_mono (po_some ha) fun σ H Q q => ?_
  obtain ⟨fr, L, z, fr', ok, l, ee, q⟩ := q
  unfold part at ee
  obtain ⟨⟨p1, f1⟩, e1, ee⟩ := bnd ee
  refine ⟨fr, L, p1, f1, ok, l, e1, fun v H1 ok1 o => ?_⟩
  dsimp only at ee
  split at ee
  · rename_i n hn
    cases ee
    obtain ⟨F, h1⟩ := (o.look1 hn).one
    exact ⟨n, h1.int, q H1 ok1 o.live⟩
  · cases ee
theorem s_slc {lo hi : Option Expr} {lo' hi' : Option E} {p2 : Pos} (ha : PE X a (tE X G i)) (hl : PO X lo (tPart' X G lo')) (hh : PO X hi (tPart' X G hi')) : PE X (.Subscript a (.Slice lo hi none p2) pos) (tE X G (.slc i lo' hi' false)) := by
  refine pe_mono (pe_slice sl_slcD ha hl hh) fun σ H Q q => ?_
  obtain ⟨fr, L, p, fr', ok, l, ee, q⟩ := q
  unfold ev at ee
  obtain ⟨⟨p1, f1⟩, e1, ee⟩ := bnd ee
  obtain ⟨⟨o1, f2⟩, e2, ee⟩ := bnd ee
  obtain ⟨⟨o2, f3⟩, e3, ee⟩ := bnd ee
  obtain ⟨x, e4, ee⟩ := bnd ee
  obtain ⟨z, e5, ee⟩ := mpd ee
  cases ee
  refine ⟨fr, L, p1, f1, ok, l, e1, fun v H1 ok1 o => ?_⟩
  refine ⟨f1, pit [v] [p1] ++ L, o1, f2, ok1, o.aside, e2, fun H2 ok2 l2 => ?_⟩
  refine ⟨f2, pit [v] [p1] ++ L, o2, f3, ok2, l2, e3, fun H3 ok3 l3 => ?_⟩
  have o3 : Hold X.K σ f3 H3 [v] [p1] L := ⟨o.1, l3.perm (perm_mid _ _ _)⟩
  exact ⟨x, _, z, o3.look1 e4, e5, fun u H4 l4 => q u H4 ok3 (hold1 l4)⟩
theorem s_rev {k : Nat} {p1 p2 p3 : Pos} (ha : PE X a (tE X G i)) : PE X (.Subscript a (.Slice none none (some (.UnaryOp .USub (.Constant (.int 1) k p1) p2)) p3) pos) (tE X G (.slc i none none true)) := by
  refine pe_mono (pe_revA (r := rRv X.K) (fun pins s σ H x Q I => rev_of I) ha) fun σ H Q q => ?_
  obtain ⟨fr, L, p, fr', ok, l, ee, q⟩ := q
  unfold ev at ee
  obtain ⟨⟨pp, f1⟩, e1, ee⟩ := bnd ee
  obtain ⟨⟨o1, f2⟩, e2, ee⟩ := bnd ee
  obtain ⟨⟨o2, f3⟩, e3, ee⟩ := bnd ee
  obtain ⟨x, e4, ee⟩ := bnd ee
  obtain ⟨z, e5, ee⟩ := mpd ee
  cases ee
  unfold part at e2 e3
  cases e2
  cases e3
  refine ⟨fr, L, pp, f1, ok, l, e1, fun v H1 ok1 o => ?_⟩
  exact ⟨x, _, z, o.look1 e4, e5, fun u H4 l4 => q u H4 ok1 (hold1 l4)⟩
/-! ### argument lists -/
abbrev tAs (X : Cx) (G : Fs) (is : List E) : TA := tPs X.K (evs G is)
abbrev tGs (X : Cx) (G : Fs) (is : List E) : TA := tXs X.K (gens G is)
theorem a_nil : PA X [] (tAs X G []) := by
  refine pa_mono pa_nil fun σ H Q q => ?_
  obtain ⟨fr, L, ps, fr', ok, l, ee, q⟩ := q
  unfold evs at ee
  cases ee
  exact q [] H ok ⟨.nil, l⟩
theorem a_cons (ha : PE X a (tE X G i)) (hr : PA X es (tAs X G is)) (hs : starEach (a :: es) X.env = (false, eval a X.env) :: starEach es X.env) : PA X (a :: es) (tAs X G (i :: is)) := by
  refine pa_mono (pa_cons ha hr hs) fun σ H Q q => ?_
  obtain ⟨fr, L, ps, fr', ok, l, ee, q⟩ := q
  unfold evs at ee
  obtain ⟨⟨p1, f1⟩, e1, ee⟩ := bnd ee
  obtain ⟨⟨ps2, f2⟩, e2, ee⟩ := mpd ee
  cases ee
  refine ⟨fr, L, p1, f1, ok, l, e1, fun v H1 ok1 o => ⟨f1, pit [v] [p1] ++ L, ps2, f2, ok1, o.aside, e2, fun vs H2 ok2 o2 => q (v :: vs) H2 ok2 ?_⟩⟩
  exact Hold.more (vs := [v]) (ps := [p1]) o.1 o2
theorem g_nil : PA X [] (tGs X G []) := by
  refine pa_mono pa_nil fun σ H Q q => ?_
  obtain ⟨fr, L, ps, fr', ok, l, ee, q⟩ := q
  unfold gens at ee
  cases ee
  exact q [] H ok rfl l
theorem g_cons (ha : PE X a (tE X G i)) (hr : PA X es (tGs X G is)) (hs : starEach (a :: es) X.env = (false, eval a X.env) :: starEach es X.env) : PA X (a :: es) (tGs X G (i :: is)) := by
  refine pa_mono (pa_cons ha hr hs) fun σ H Q q => ?_
  obtain ⟨fr, L, xs, fr', ok, l, ee, q⟩ := q
  unfold gens at ee
  obtain ⟨⟨p1, f1⟩, e1, ee⟩ := bnd ee
  obtain ⟨⟨x, f2⟩, e2, ee⟩ := bnd ee
  obtain ⟨⟨xs2, f3⟩, e3, ee⟩ := mpd ee
  cases ee
  refine ⟨fr, L, p1, f1, ok, l, e1, fun v H1 ok1 o => ?_⟩
  obtain ⟨ok2, l2⟩ := o.force ok1 e2
  have l3 : Live X.K H1 (slots σ f2 ++ ((v, x) :: L)) := l2.perm (perm_mid [(v, x)] _ _)
  refine ⟨f2, (v, x) :: L, xs2, f3, ok2, l3, e3, fun vs H2 ok3 hl l4 => q (v :: vs) H2 ok3 (by simp [hl]) ?_⟩
  rw [List.zip_cons_cons]
  refine l4.perm ?_
  have e1 : vs.zip xs2 ++ (slots σ f3 ++ (v, x) :: L) = (vs.zip xs2 ++ slots σ f3) ++ ((v, x) :: L) := (List.append_assoc _ _ _).symm
  have e2 : (v, x) :: vs.zip xs2 ++ (slots σ f3 ++ L) = (v, x) :: ((vs.zip xs2 ++ slots σ f3) ++ L) := by rw [List.cons_append, List.append_assoc]
  rw [e1, e2]
  exact List.perm_middle
end
end Tr

set_option Elab.async false
set_option linter.all false
set_option maxRecDepth 100000
set_option maxHeartbeats 1000000
namespace Tr
open PySem PySem.Spec PyProof.Rows L2
section
variable {K : PySem.W.Frag} {F : Addr → Prop} {H : Hp} {L : List (V × Vl)}
theorem LRel.fzs : ∀ {ws : List V} {es : List D} {g : List Addr}, ws.length = es.length → LRel K F H (ws.zip (es.map Vl.fz)) g → RelDs K F H ws es ∧ g = []
  | [], [], _, _, q => by cases q; exact ⟨.nil, rfl⟩
  | _ :: _, [], _, e, _ => by cases e
  | [], _ :: _, _, e, _ => by cases e
  | w :: ws, d :: es, _, e, q => by
    cases q with
    | cons q1 q2 =>
      obtain ⟨h1, h2⟩ := LRel.fzs (by simpa using e) q2
      cases q1 with
      | fz q1 => exact ⟨.cons q1 h1, by rw [h2]; rfl⟩
theorem zip_perm_mid {α : Type} (p : α) (A B : List α) : (p :: (A ++ B)).Perm (A ++ (p :: B)) := List.perm_middle.symm
/-- all of them frozen -/
theorem Live.freezeAll : ∀ {vs : List V} {xs : List Vl} {L : List (V × Vl)}, vs.length = xs.length → (∀ x ∈ xs, x.own = true) → Live K H (vs.zip xs ++ L) → Live K H (vs.zip ((froz xs).map Vl.fz) ++ L)
  | [], [], _, _, _, l => l
  | _ :: _, [], _, e, _, _ => by cases e
  | [], _ :: _, _, e, _, _ => by cases e
  | v :: vs, x :: xs, L, e, ho, l => by
    have l1 : Live K H ((v, x) :: (vs.zip xs ++ L)) := l
    have l2 := l1.freeze (ho x List.mem_cons_self)
    have l3 : Live K H (vs.zip xs ++ ((v, .fz x.strip) :: L)) := l2.perm (zip_perm_mid _ _ _)
    have l4 := Live.freezeAll (by simpa using e) (fun y hy => ho y (List.mem_cons_of_mem _ hy)) l3
    exact l4.perm (zip_perm_mid _ _ _).symm
theorem Live.newTup {vs : List V} {ds : List D} {p : Addr} (hl : vs.length = ds.length) (l : Live K H (vs.zip (ds.map Vl.fz) ++ L)) (hp : H p = none) : Live K (upd H p (.tup vs)) ((.ref p, .fz (.tuple ds)) :: L) := by
  obtain ⟨fs, nd, r⟩ := l
  obtain ⟨f1, f2, rfl, r1, r2⟩ := r.split
  obtain ⟨rd, rfl⟩ := r1.fzs hl
  have np : p ∉ f2 := fun q => by obtain ⟨xs, e⟩ := r2.owned p q; rw [hp] at e; cases e
  have k : Kp (· ∈ [] ++ f2) (· ∈ f2) H (upd H p (.tup vs)) := Kp.new hp fun a q => .inl q
  exact ⟨f2, nd, .cons (f := []) (.fz (.tup (.inl ⟨.inl upd_same, np⟩) (RelDs.kp k _ _ rd))) (r2.kp k fun a q => upd_ne fun z => np (z ▸ q))⟩
theorem Live.newLst {vs : List V} {ds : List D} {p : Addr} (hl : vs.length = ds.length) (l : Live K H (vs.zip (ds.map Vl.fz) ++ L)) (hp : H p = none) : Live K (upd H p (.lst vs)) ((.ref p, .ol ds) :: L) := by
  obtain ⟨fs, nd, r⟩ := l
  obtain ⟨f1, f2, rfl, r1, r2⟩ := r.split
  obtain ⟨rd, rfl⟩ := r1.fzs hl
  have np : p ∉ f2 := fun q => by obtain ⟨xs, e⟩ := r2.owned p q; rw [hp] at e; cases e
  have k : Kp (· ∈ [] ++ f2) (· ∈ p :: f2) H (upd H p (.lst vs)) := Kp.new hp fun a q => (List.mem_cons.mp q).elim .inr .inl
  exact ⟨p :: f2, List.nodup_cons.mpr ⟨np, nd⟩, .cons (f := [p]) (.ol upd_same (RelDs.kp k _ _ rd)) (r2.kp k fun a q => upd_ne fun z => np (z ▸ q))⟩
/-- a value that owns nothing stands once more -/
theorem Live.again0 {v : V} {x : Vl} (h : Live K H L) (m : (v, x) ∈ L) (hx : x.isFz = true) : Live K H ((v, x) :: L) := by
  obtain ⟨fs, nd, r⟩ := h
  obtain ⟨f, q⟩ := r.mem m
  cases q with
  | fz q => exact ⟨fs, nd, .cons (f := []) (.fz q) r⟩
  | scr q => exact ⟨fs, nd, .cons (f := []) (.scr q) r⟩
  | ol _ _ => cases hx
  | oo _ _ => cases hx
  | od _ _ _ => cases hx
  | pinD _ _ => cases hx
  | pinL _ => cases hx
  | pinT _ => cases hx
end
section
variable {X : Cx} {G : Fs} {a b c e : Expr} {es rest : List Expr} {i j k : E} {is : List E} {pos : Pos}
theorem gens_own : ∀ {is : List E} {fr fr' : Fm} {xs : List Vl}, gens G is fr = some (xs, fr') → ∀ x ∈ xs, x.own = true
  | [], _, _, _, h => by unfold gens at h; cases h; intro x hx; cases hx
  | i :: is, _, _, _, h => by
    unfold gens at h
    obtain ⟨⟨p1, f1⟩, e1, h⟩ := bnd h
    obtain ⟨⟨x, f2⟩, e2, h⟩ := bnd h
    obtain ⟨⟨xs2, f3⟩, e3, h⟩ := mpd h
    cases h
    intro y hy
    rcases List.mem_cons.mp hy with rfl | hy
    · exact force_own e2
    · exact gens_own e3 y hy
theorem froz_len (xs : List Vl) : (froz xs).length = xs.length := List.length_map _
theorem s_tup {n : Nat} (ha : PA X es (tGs X G is)) : PE X (.Tuple es n pos) (tE X G (.tup is)) := by
  refine pe_mono (pe_tup ha) fun σ H Q q => ?_
  obtain ⟨fr, L, p, fr', ok, l, ee, q⟩ := q
  unfold ev at ee
  obtain ⟨⟨xs, f1⟩, e1, ee⟩ := bnd ee
  obtain ⟨c, ee⟩ := ite_some ee
  cases ee
  refine ⟨fr, L, xs, f1, ok, l, e1, fun vs H1 ok1 hl l1 => ⟨by rw [hl]; exact szOk c, fun p hp => q _ _ ok1 (hold1 ?_)⟩⟩
  exact Live.newTup (by rw [hl, froz_len]) (Live.freezeAll hl (gens_own e1) l1) hp
theorem s_lst (ha : PA X es (tGs X G is)) : PE X (.List es pos) (tE X G (.lst is)) := by
  refine pe_mono (pe_lst ha) fun σ H Q q => ?_
  obtain ⟨fr, L, p, fr', ok, l, ee, q⟩ := q
  unfold ev at ee
  obtain ⟨⟨xs, f1⟩, e1, ee⟩ := bnd ee
  obtain ⟨c, ee⟩ := ite_some ee
  cases ee
  refine ⟨fr, L, xs, f1, ok, l, e1, fun vs H1 ok1 hl l1 => ⟨by rw [hl]; exact szOk c, fun p hp => q _ _ ok1 (hold1 ?_)⟩⟩
  exact Live.newLst (by rw [hl, froz_len]) (Live.freezeAll hl (gens_own e1) l1) hp

/-! ### calls -/
/-- arguments are lent -/
theorem lend_ok {K : PySem.W.Frag} {σ : St} {H : Hp} : ∀ {ps : List Pd} {vs : List V} {fr fr1 : Fm} {xs : List Vl} {L : List (V × Vl)}, SlOk σ fr → pok σ vs ps → Live K H (pit vs ps ++ (slots σ fr ++ L)) → lend ps fr = some (xs, fr1) →
    vs.length = xs.length ∧ SlOk σ fr1 ∧ Live K H (vs.zip xs ++ (slots σ fr1 ++ L))
  | [], _, fr, _, _, L, ok, pk, l, e => by
    cases pk
    unfold lend at e
    cases e
    exact ⟨rfl, ok, l⟩
  | .st x :: ps, v :: vs, fr, _, _, L, ok, pk, l, e => by
    cases pk with
    | cons p1 p2 =>
      unfold lend at e
      obtain ⟨⟨xs2, f2⟩, e1, e⟩ := mpd e
      cases e
      have l1 : Live K H (pit vs ps ++ (slots σ fr ++ ((v, x) :: L))) := by
        have l0 : Live K H ((v, x) :: (pit vs ps ++ (slots σ fr ++ L))) := l
        refine l0.perm ((zip_perm_mid _ _ _).trans (List.Perm.append_left _ (zip_perm_mid _ _ _)))
      obtain ⟨q1, q2, q3⟩ := lend_ok ok p2 l1 e1
      refine ⟨by simp [q1], q2, ?_⟩
      rw [List.zip_cons_cons]
      exact q3.perm ((List.Perm.append_left _ (zip_perm_mid _ _ _).symm).trans (zip_perm_mid _ _ _).symm)
  | .sl i :: ps, v :: vs, fr, _, _, L, ok, pk, l, e => by
    cases pk with
    | cons p1 p2 =>
      have p1 : σ[i]? = some (some v) := p1
      have l0 : Live K H (pit vs ps ++ (slots σ fr ++ L)) := l
      have fin : ∀ (x : Vl) (f1 : Fm) (xs2 : List Vl) (f2 : Fm), SlOk σ f1 → Live K H (pit vs ps ++ (slots σ f1 ++ ((v, x) :: L))) → lend ps f1 = some (xs2, f2) → (v :: vs).length = (x :: xs2).length ∧ SlOk σ f2 ∧ Live K H ((v :: vs).zip (x :: xs2) ++ (slots σ f2 ++ L)) := fun x f1 xs2 f2 ok1 l1 e1 => by
        obtain ⟨q1, q2, q3⟩ := lend_ok ok1 p2 l1 e1
        refine ⟨by simp [q1], q2, ?_⟩
        rw [List.zip_cons_cons]
        exact q3.perm ((List.Perm.append_left _ (zip_perm_mid _ _ _).symm).trans (zip_perm_mid _ _ _).symm)
      have dupl : ∀ x : Vl, fr[i]? = some (some x) → x.isFz = true → Live K H (pit vs ps ++ (slots σ fr ++ ((v, x) :: L))) := fun x hx hz => by
        have m : (v, x) ∈ pit vs ps ++ (slots σ fr ++ L) := List.mem_append_right _ (List.mem_append_left _ (slots_mem p1 hx))
        exact (l0.again0 m hz).perm ((zip_perm_mid _ _ _).trans (List.Perm.append_left _ (zip_perm_mid _ _ _)))
      unfold lend at e
      split at e
      · rename_i d hd
        obtain ⟨⟨xs2, f2⟩, e1, e⟩ := mpd e
        cases e
        exact fin _ _ _ _ ok (dupl _ hd rfl) e1
      · rename_i d hd
        obtain ⟨⟨xs2, f2⟩, e1, e⟩ := mpd e
        cases e
        exact fin _ _ _ _ ok (dupl _ hd rfl) e1
      · rename_i x _ _ hx
        obtain ⟨⟨xs2, f2⟩, e1, e⟩ := mpd e
        cases e
        refine fin _ _ _ _ (ok.drop i) (l0.perm (List.Perm.append_left _ ?_)) e1
        exact (List.Perm.append_right L (slots_at p1 hx)).trans (zip_perm_mid _ _ _)
      · cases e
/-- what was lent comes back -/
theorem giv0 {xs : List Vl} {fr : Fm} : give [] xs fr = fr := by cases xs <;> simp only [give]
theorem giv1 {ps : List Pd} {fr : Fm} : give ps [] fr = fr := by
  cases ps with
  | nil => exact giv0
  | cons p ps => cases p <;> simp only [give]
theorem giv2 {x y : Vl} {ps : List Pd} {xs : List Vl} {fr : Fm} : give (.st x :: ps) (y :: xs) fr = give ps xs fr := by simp only [give]
theorem giv3 {i : Nat} {y : Vl} {ps : List Pd} {xs : List Vl} {fr : Fm} : give (.sl i :: ps) (y :: xs) fr = give ps xs (match fr[i]? with
    | some none => fr.set i (some y)
    | _ => fr) := by
  conv => lhs; unfold give
  first | done | congr 1
theorem give_ok {K : PySem.W.Frag} {σ : St} {H : Hp} {ps : List Pd} {vs : List V} {xs : List Vl} {fr : Fm} {L : List (V × Vl)} (ok : SlOk σ fr) (pk : pok σ vs ps) (l : Live K H (vs.zip xs ++ (slots σ fr ++ L))) :
    SlOk σ (give ps xs fr) ∧ Live K H (slots σ (give ps xs fr) ++ L) := by
  induction pk generalizing xs fr L with
  | nil =>
    rw [giv0]
    exact ⟨ok, l⟩
  | @cons v p vs ps p1 p2 ih =>
    cases xs with
    | nil =>
      rw [giv1]
      exact ⟨ok, l⟩
    | cons y xs =>
      have l0 : Live K H ((v, y) :: (vs.zip xs ++ (slots σ fr ++ L))) := l
      cases p with
      | st x =>
        rw [giv2]
        exact ih ok l0.tail
      | sl i =>
        have p1 : σ[i]? = some (some v) := p1
        rw [giv3]
        split
        · rename_i hn
          have hi : i < fr.length := (List.getElem?_eq_some_iff.mp hn).1
          refine ih (ok.put p1) (l0.perm ((zip_perm_mid _ _ _).trans (List.Perm.append_left _ ?_)))
          show ((v, y) :: slots σ fr ++ L).Perm _
          refine List.Perm.append_right L ?_
          have := slots_put (fr := fr) (x := y) p1 hi
          rw [slots_none hn] at this
          exact this.symm
        · exact ih ok l0.tail
def spOf (K : PySem.W.Frag) (g : List Vl → Option (Vl × List Vl)) : SpG := fun vs H Q => ∃ xs L a ps, vs.length = xs.length ∧ Live K H (vs.zip xs ++ L) ∧ g xs = some (a, ps) ∧ ∀ v H', Live K H' ((v, a) :: (vs.zip ps ++ L)) → Q v H'
theorem call_core {f : Nat} {e : Expr} (h : PE X e (tCallG (spOf X.K (G f)) (tAs X G is))) : PE X e (tE X G (.call f is)) := by
  refine pe_mono h fun σ H Q q => ?_
  obtain ⟨fr, L, p, fr', ok, l, ee, q⟩ := q
  unfold ev at ee
  obtain ⟨⟨ps, f1⟩, e1, ee⟩ := bnd ee
  obtain ⟨⟨xs, f2⟩, e2, ee⟩ := bnd ee
  obtain ⟨⟨x, ys⟩, e3, ee⟩ := mpd ee
  cases ee
  refine ⟨fr, L, ps, f1, ok, l, e1, fun vs H1 ok1 o => ?_⟩
  obtain ⟨q1, q2, q3⟩ := lend_ok ok1 o.1 o.2 e2
  refine ⟨xs, _, x, ys, q1, q3, e3, fun v H2 l2 => ?_⟩
  have l3 : Live X.K H2 (vs.zip ys ++ (slots σ f2 ++ ((v, x) :: L))) := l2.perm ((zip_perm_mid _ _ _).trans (List.Perm.append_left _ (zip_perm_mid _ _ _)))
  obtain ⟨g1, g2⟩ := give_ok q2 o.1 l3
  exact q v H2 g1 (hold1 (g2.perm (zip_perm_mid _ _ _).symm))

/-! ### built-in functions -/
theorem bi_core {bb : Bi} {e : Expr} (h : PE X e (tCB (rBi X.K bb) (tAs X G is))) : PE X e (tE X G (.bi bb is)) := by
  refine pe_mono h fun σ H Q q => ?_
  obtain ⟨fr, L, p, fr', ok, l, ee, q⟩ := q
  unfold ev at ee
  obtain ⟨⟨ps, f1⟩, e1, ee⟩ := bnd ee
  obtain ⟨ds, e2, ee⟩ := bnd ee
  obtain ⟨z, e3, ee⟩ := mpd ee
  cases ee
  exact ⟨fr, L, ps, f1, ok, l, e1, fun vs H1 ok1 o => ⟨ds, _, z, o.looks e2, e3, fun v H2 l2 => q v H2 ok1 (hold1 l2)⟩⟩
/-- isinstance -/
def tyS : Ty → String
  | .int => "int"
  | .bool => "bool"
  | .tuple => "tuple"
  | .str => "str"
def tyD : D → String
  | .none => "NoneType"
  | .bool _ => "bool"
  | .int _ => "int"
  | .str _ => "str"
  | .list _ => "list"
  | .tuple _ => "tuple"
  | .dict _ => "dict"
def TyQ (K : PySem.W.Frag) (H : Hp) (x : V) (t : Value) : Prop := TyX K H x t ∨ (t = .type "dict" ∧ ∃ a o, x = .ref a ∧ H a = some (DcO a o) ∧ o.cls = .type "dict")
def rIsiQ (K : PySem.W.Frag) : List V → Hp → VK → Prop := fun xs H Q => ∃ (x c : V) (t u : Value) (b : Bool), xs = [x, c] ∧ ClsV c u ∧ TyQ K H x t ∧ PySem.W.kitOne K t u = some b ∧ Q (.bl b) H
theorem call_isiQ {X : Cx} : CallR X (.builtin "isinstance") (rIsiQ X.K) := by
  intro pins s σ H xs us Q I r h
  obtain ⟨x, c, t, u, b, rfl, k, ty, e, q⟩ := h
  rcases ty with ty | ⟨rfl, a, o, rfl, ha, hc⟩
  · exact call_isi pins s σ H _ us Q I r ⟨x, c, t, u, b, rfl, k, ty, e, q⟩
  · obtain ⟨u1, u2, rfl, r1, r2⟩ := vals2 r
    have e2 := k.eq r2
    subst e2
    cases (show u1 = Value.ref a from r1)
    have h1 : ObjOk X.prog X.w H s.heap a (DcO a o) := I.hok a _ ha
    exact PySem.W.kia_one PySem.W.kitx_dict I.kIn ⟨o, h1.1, hc⟩ e (fun z => nomatch z) fun tk => ⟨.bl b, H, I.tok tk, rfl, q⟩
theorem ty_of {K : PySem.W.Frag} {F : Addr → Prop} {H : Hp} {v : V} {d : D} (h : RelO K F H v d) : TyQ K H v (.type (tyD d)) := by
  by_cases hdc : ∃ kvs, d = .dict kvs
  · obtain ⟨kvs, rfl⟩ := hdc
    obtain ⟨a, o, ks, vs, rfl, da, _, _⟩ := h.dict
    exact .inr ⟨rfl, a, o, rfl, da.at_, da.is_.1.1⟩
  refine .inl ?_
  cases d with
  | none => have := h.none; subst this; exact .base .non
  | bool b => have := h.bool; subst this; exact .base (.bl b)
  | int n => have := h.int; subst this; exact .base (.int n)
  | str z => have := h.str; subst this; exact .base (.str z)
  | list ds =>
    have kk : ∀ {a : Addr} {xs : List V}, SqL K H a xs → TyX K H (.ref a) (.type "list") := fun {a xs} q => by
      rcases q with (q | ⟨o, q⟩) | ⟨o, its, n, q1, q2, _⟩
      · exact .base (.lst q)
      · exact .base (.frz q)
      · exact .kList q1 q2
    obtain ⟨a, xs, rfl, q, _⟩ := h.list
    exact kk q
  | tuple ds =>
    obtain ⟨a, xs, rfl, q, _⟩ := h.tuple
    rcases q with (q | ⟨o, q⟩) | ⟨o, its, n, q1, q2, _⟩
    · exact .base (.tup q)
    · exact .fTuple q
    · exact .kTuple q1 q2
  | dict _ => exact (hdc ⟨_, rfl⟩).elim
end
end Tr

set_option Elab.async false
set_option linter.all false
set_option maxRecDepth 100000
set_option maxHeartbeats 2000000
/-! enumerate of a tuple. -/
namespace Tr
open PySem PySem.Spec PyProof.Rows L2
theorem enum_new1 {v : Value} {o : Obj} {Hh : Heap → Prop} (B : PySem.Begins v o Hh) :
    Meets (Builtin.«enumerate.__new__» ⟨[.type "enumerate", v], []⟩) (fun _ R s => Hh s.heap ∧
      R (.ok (.ret (.ref (s.heap.push o).objs.size))) { s with heap := (s.heap.push o).push { cls := .type "enumerate", data := .fields #[.none, .bool false, .ref s.heap.objs.size, rawInt 0, .none, .none] } }) :=
  .of_wp fun prog w A R s h => by
    obtain ⟨hp, g, d, tk, os⟩ := s; obtain ⟨h1, h⟩ := h
    have hsub := sub_enumerate
    have q1 : ∀ {A1 : Around} {E1 : Value → Shared → Prop} {Q1 : Value → Shared → Prop}, Q1 (.ref hp.objs.size) ⟨hp.push o, g, d, tk, os⟩ → wpAny (model prog w) A1 (pyIter v) Q1 E1 ⟨hp, g, d, tk, os⟩ :=
      fun q => B.iter prog w _ _ ⟨hp, g, d, tk, os⟩ _ h1 q
    wp_walk using q1
    refine wpAny_stack_any fun st => wpAny_pure ?_
    split
    · rename_i c _ _ _ _ _
      cases (c == Value.type "enumerate") <;> (wp_walk using q1; exact ⟨_, rfl, h⟩)
    · wp_walk using q1
      exact ⟨_, rfl, h⟩
theorem enum_begin1 {prog : Program} {w : World} {A : Around} {E : Value → Shared → Prop} {s : Shared} {v : Value} {o : Obj} {Hh : Heap → Prop} {Q : Value → Shared → Prop} (B : PySem.Begins v o Hh) (h1 : Hh s.heap)
    (h : ∀ h', IsEnum h' (s.heap.objs.size + 1) s.heap.objs.size 0 .none → h'.get? s.heap.objs.size = some o → h'.objs.size = s.heap.objs.size + 2 →
      (∀ b u, s.heap.get? b = some u → h'.get? b = some u) → Q (.ref (s.heap.objs.size + 1)) { s with heap := h' }) :
    wpAny (model prog w) A (call (.type "enumerate") [v]) Q E s := by
  refine callType_new F.called_enumerate (by decide) (F.typeCall_enumerate_1 _) (F.newCall_enumerate_1 _) (fun obj => F.args_object_init_2 obj _) F.entry_enumerate_new (enum_new1 B) ⟨h1, ?_⟩
  have hz : (s.heap.push o).objs.size = s.heap.objs.size + 1 := Heap.size_push ..
  show _ ∧ _
  rw [hz]
  have he : IsEnum ((s.heap.push o).push { cls := .type "enumerate", data := .fields #[.none, .bool false, .ref s.heap.objs.size, rawInt 0, .none, .none] }) (s.heap.objs.size + 1) s.heap.objs.size 0 .none := by
    have := Heap.get?_push_size (s.heap.push o) (o := { cls := .type "enumerate", data := .fields #[.none, .bool false, .ref s.heap.objs.size, rawInt 0, .none, .none] }) rfl
    rw [hz] at this; exact this
  refine ⟨⟨_, he, rfl⟩, h _ he (Heap.get?_push_of_some _ (Heap.get?_push_size _ B.free)) (by rw [Heap.size_push, hz]) fun b u x => Heap.get?_push_of_some _ (Heap.get?_push_of_some _ x)⟩
/-- the tuple at a, each item in a new pair -/
def IteT (K : PySem.W.Frag) (a : Addr) : L2.It :=
  ⟨fun i H => ∃ (xs : List V) (x : V), SqT K H a xs ∧ xs[i]? = some x, fun i H v H' => ∃ T x, v = .ref T ∧ H T = none ∧ H' = upd H T (.tup [.int (i : Nat), x]) ∧ ∀ xs, SqT K H a xs → xs[i]? = some x, fun i H => ∃ xs : List V, SqT K H a xs ∧ xs.length = i⟩
theorem turn_enumT {P : Program} {w : World} {K : PySem.W.Frag} {elts : List Expr} {kk : Nat} {tpos : Pos} (a e it : Addr) (hai : a ≠ it) (hae : a ≠ e) :
    Turn P w K (.Tuple elts kk tpos) (IteT K a) [e, it] e (fun i h => (∃ old, IsEnum h e it ((i : Nat) : Int) old) ∧ h.IsTupleIter it a i ∧ e ≠ it) where
  mem := by simp
  obj := fun i h st b hb => by
    obtain ⟨⟨old, he⟩, ⟨o, ho, hc, hd⟩, _⟩ := st
    have e' : b = e ∨ b = it := by simpa using hb
    rcases e' with z | z
    · rw [z]; exact ⟨_, he, fun v q => nomatch q⟩
    · rw [z]; exact ⟨o, ho, fun v q => by rw [hd] at q; cases q⟩
  keep := fun i h h' st k => let ⟨⟨old, he⟩, hi, hne⟩ := st; ⟨⟨old, k e (by simp) _ he⟩, hi.at fun o q => k it (by simp) o q, hne⟩
  item := by
    intro X hP hw hK hc i pins s σ H E I hf st hg
    subst hP hw hK
    obtain ⟨⟨old, he⟩, hit, hne⟩ := st
    obtain ⟨xs, x, hq, hx⟩ := hg
    obtain ⟨its, rv, p, hz⟩ := I.tuple hq
    have hel : e < s.heap.objs.size := Heap.lt_size he
    have hil : it < s.heap.objs.size := by obtain ⟨_, q, _⟩ := hit; exact Heap.lt_size q
    have hlen := rv.length
    have hi : i < its.toArray.size := by
      have := (List.getElem?_eq_some_iff.mp hx).1
      simp only [List.size_toArray]; omega
    have hef : e ∉ [it, a] := by
      intro q
      rcases List.mem_cons.mp q with q | q
      · exact hne q
      · exact hae (List.mem_singleton.mp q).symm
    refine wpAny_pyNext_enum_itemD (Draws.tuple (A := X.A.in1) (show X.A.in1.handled = none from I.ok.hd hc) it a hai its.toArray) he ⟨hit, (show s.heap.IsTuple a its.toArray from p)⟩ hi hne hef fun u h' tk hu ho st' hT hsz hk => ?_
    obtain ⟨x', hx', ru⟩ := paired_at rv (y := u) (i := i) (by simpa using hu)
    rw [hx] at hx'
    cases hx'
    refine ⟨_, rfl, wpAny_letOwnedTupleGo_enum (s := { s with heap := h', toks := tk + 1 }) ho fun h'' he' sb => ?_⟩
    have hT2 : h''.get? s.heap.objs.size = some { cls := .type "tuple", data := .seq #[.int i tk, u] } := (sb.2 _ (Nat.ne_of_gt hel)).trans hT
    have new : ObjOk X.prog X.w (upd H s.heap.objs.size (.tup [.int (i : Nat), x])) h'' s.heap.objs.size (.tup [.int (i : Nat), x]) :=
      ⟨by show 2 ≤ sizeLine; decide, [.int i tk, u], .cons ⟨_, rfl⟩ (.cons ru .nil), ⟨_, hT2, rfl, _, rfl⟩⟩
    have I1 : Inv X pins σ (upd H s.heap.objs.size (.tup [.int (i : Nat), x])) { s with heap := h'', toks := tk + 1 } :=
      I.turnedNew (ch := [e, it]) (fun b ob hb q => (sb.2 b (fun z => hb (by simp [z]))).trans (hk b ob (fun z => hb (by simp [z])) (fun z => hb (by simp [z])) q)) hf (Nat.le_refl _) new
    refine ⟨.ref s.heap.objs.size, _, I1, rfl, ⟨_, x, rfl, I.hok.fresh (Nat.le_refl _), rfl, fun ys hy => by rw [I.tuple_inj hy hq]; exact hx⟩, ⟨⟨u, ?_⟩, st'.1.at fun o q => (sb.2 it (Ne.symm hne)).trans q, hne⟩, fun b hb => ?_⟩
    · have e1 : ((i + 1 : Nat) : Int) = (i : Int) + 1 := by omega
      rw [e1]; exact he'
    · have hb' : b < s.heap.objs.size := by
        have e' : b = e ∨ b = it := by simpa using hb
        rcases e' with z | z
        · rw [z]; exact hel
        · rw [z]; exact hil
      rw [upd_ne (Nat.ne_of_lt hb')]
      exact (hf b hb).1
  done := by
    intro X hP hw hK hc i pins s σ H E I hf st hg
    subst hP hw hK
    obtain ⟨⟨old, he⟩, hit, hne⟩ := st
    obtain ⟨xs, hq, hx⟩ := hg
    obtain ⟨its, rv, p, hz⟩ := I.tuple hq
    obtain ⟨f0, f1, f2, f3, f4, f5⟩ := hf it (by simp)
    have hl := rv.length
    have ei : i = its.toArray.size := by simp only [List.size_toArray]; omega
    refine wpAny_pyNext_enum_endD (Draws.tuple (A := X.A.in1) (show X.A.in1.handled = none from I.ok.hd hc) it a hai its.toArray) he ⟨?_, (show s.heap.IsTuple a its.toArray from p)⟩ fun h' eb => ⟨rfl, I.turned (t' := s.toks) (fun b o hb q => eb b o hb q) f0 f1 f3 f4 f5⟩
    rw [← ei]
    exact hit
  self := fun A i s Q E st h => let ⟨⟨_, he⟩, _⟩ := st; wpAny_pyIter_enum he h
def iEnumT (K : PySem.W.Frag) (ta : TA) : TI := fun σ H R => ta σ H fun vs H1 => ∃ a xs, vs = [.ref a] ∧ SqT K H1 a xs ∧ R (IteT K a) H1
theorem pi_enumT {X : Cx} {e : Expr} {ta : TA} {p pos tpos : Pos} {elts : List Expr} {kk : Nat} (hg : Gl X "enumerate") (hm : X.mg "enumerate" = none) (ha : PA X [e] ta) (hs : starEach [e] X.env = [(false, eval e X.env)]) :
    PI X (.Tuple elts kk tpos) (.Call (.Name "enumerate" p) [e] [] pos) (iEnumT X.K ta) := by
  refine ⟨fun pins s σ H R I h => ?_⟩
  refine Call_ (ld_blt I hg hm boot_enumerate (PyProof.Rows.callWith_type1 (thn (ha.run pos pins s σ H _ I h) fun us s1 ⟨vs, H1, I1, r1, q1⟩ => ?_) hs rfl))
  obtain ⟨a, xs, ex, hq, q⟩ := q1
  subst ex
  cases r1 with
  | cons r rr =>
    cases rr
    cases r
    obtain ⟨its, rv, p', hz⟩ := I1.tuple hq
    have hal : a < s1.heap.objs.size := by obtain ⟨_, q, _⟩ := id p'; exact Heap.lt_size q
    refine enum_begin1 (PySem.begins_tuple a its.toArray) (show s1.heap.IsTuple a its.toArray from p') fun h' he hit hsz hk => wpAny_pyIter_enum he ?_
    have I2 : Inv X pins σ H1 { s1 with heap := h' } := I1.kept (t' := s1.toks) hk
    refine ⟨s1.heap.objs.size + 1, [s1.heap.objs.size + 1, s1.heap.objs.size], _, _, H1, rfl, I2, turn_enumT a (s1.heap.objs.size + 1) s1.heap.objs.size (Nat.ne_of_lt hal) (Nat.ne_of_lt (Nat.lt_succ_of_lt hal)), ⟨⟨.none, he⟩, ⟨_, hit, rfl, rfl⟩, Nat.succ_ne_self _⟩, fun b hb => ?_, q⟩
    have e' : b = s1.heap.objs.size + 1 ∨ b = s1.heap.objs.size := by simpa using hb
    have hle : s1.heap.objs.size ≤ b := by
      rcases e' with z | z
      · rw [z]; exact Nat.le_add_right _ _
      · rw [z]; exact Nat.le_refl _
    exact I1.fpOk hle (I1.hok.fresh hle)
end Tr

set_option Elab.async false
set_option linter.all false
set_option maxRecDepth 100000
set_option maxHeartbeats 2000000
/-! zip of a list, a tuple, either way. -/
namespace Tr
open PySem PySem.Spec PyProof.Rows L2
/-- a tuple (true), a list by its items -/
def sqB (t : Bool) (K : PySem.W.Frag) (H : Hp) (a : Addr) (xs : List V) : Prop := match t with
  | true => SqT K H a xs
  | false => SqL K H a xs
def itB (t : Bool) (h : Heap) (i a : Addr) (k : Nat) : Prop := match t with
  | true => h.IsTupleIter i a k
  | false => h.IsListIter i a k
def isB (t : Bool) (h : Heap) (a : Addr) (its : Array Value) : Prop := match t with
  | true => h.IsTuple a its
  | false => h.IsList a its
def obB (t : Bool) (a : Addr) : Obj := match t with
  | true => { cls := .type "tuple_iterator", data := .fields #[.ref a, .int 0 0] }
  | false => { cls := .type "list_iterator", data := .fields #[.ref a, .int 0 0] }
theorem begB (t : Bool) (a : Addr) (its : Array Value) : PySem.Begins (.ref a) (obB t a) fun h => isB t h a its := by
  cases t
  · exact PySem.begins_list a its
  · exact PySem.begins_tuple a its
theorem drawB {prog : Program} {w : World} {A : Around} (hh : A.handled = none) (t : Bool) (it a : Addr) (hne : a ≠ it) (its : Array Value) :
    Draws prog w A it [it, a] its.size (fun i v => its[i]? = some v) (fun i h => itB t h it a i ∧ isB t h a its) := by
  cases t
  · exact Draws.list hh it a hne its
  · exact Draws.tuple hh it a hne its
theorem itB_keep {t : Bool} {h h' : Heap} {i a : Addr} {k : Nat} (x : itB t h i a k) (e : ∀ o, h.get? i = some o → h'.get? i = some o) : itB t h' i a k := by
  cases t
  · exact Heap.IsListIter.at x e
  · exact Heap.IsTupleIter.at x e
theorem itB_obj {t : Bool} {h : Heap} {i a : Addr} {k : Nat} (x : itB t h i a k) : ∃ o, h.get? i = some o ∧ ∀ v, o.data ≠ .cell v := by
  cases t
  · obtain ⟨o, e, _, d⟩ := x
    exact ⟨o, e, fun v q => by rw [d] at q; cases q⟩
  · obtain ⟨o, e, _, d⟩ := x
    exact ⟨o, e, fun v q => by rw [d] at q; cases q⟩
theorem itB_new {t : Bool} {h : Heap} {i a : Addr} (e : h.get? i = some (obB t a)) : itB t h i a 0 := by
  cases t
  · exact ⟨_, e, rfl, rfl⟩
  · exact ⟨_, e, rfl, rfl⟩
section
variable {X : Cx} {pins : List (Addr × Obj)} {σ : L2.St} {H : Hp} {s : Shared}
theorem sqB_get (I : Inv X pins σ H s) {t : Bool} {a : Addr} {xs : List V} (h : sqB t X.K H a xs) : ∃ its, Vals xs its ∧ isB t s.heap a its.toArray ∧ a < s.heap.objs.size := by
  cases t
  · obtain ⟨its, rv, p, _⟩ := I.list h
    exact ⟨its, rv, p.isList, p.lt⟩
  · obtain ⟨its, rv, p, _⟩ := I.tuple h
    obtain ⟨_, q, _⟩ := id p
    exact ⟨its, rv, p, Heap.lt_size q⟩
theorem sqB_inj (I : Inv X pins σ H s) {t : Bool} {a : Addr} {xs ys : List V} (h : sqB t X.K H a xs) (h2 : sqB t X.K H a ys) : xs = ys := by
  cases t
  · exact I.list_inj h h2
  · exact I.tuple_inj h h2
end
def ItzM (K : PySem.W.Frag) (t u : Bool) (a b : Addr) : L2.It :=
  ⟨fun i H => ∃ (xs ys : List V) (x y : V), sqB t K H a xs ∧ sqB u K H b ys ∧ xs[i]? = some x ∧ ys[i]? = some y,
    fun i H v H' => ∃ T x y, v = .ref T ∧ H T = none ∧ H' = upd H T (.tup [x, y]) ∧ (∀ xs, sqB t K H a xs → xs[i]? = some x) ∧ ∀ ys, sqB u K H b ys → ys[i]? = some y,
    fun i H => ∃ xs ys : List V, sqB t K H a xs ∧ sqB u K H b ys ∧ i ≤ xs.length ∧ i ≤ ys.length ∧ (xs.length = i ∨ ys.length = i)⟩
theorem turn_zipM {P : Program} {w : World} {K : PySem.W.Frag} {elts : List Expr} {kk : Nat} {tpos : Pos} (t u : Bool) {a b z TI TO i1 i2 : Addr} (S : PySem.ZipSep2 z TI TO i1 i2 [i1, a] [i2, b]) (ha : a ≠ i1) (hb : b ≠ i2) :
    Turn P w K (.Tuple elts kk tpos) (ItzM K t u a b) [z, TI, TO, i1, i2] z (fun i h => IsZip h z TI TO .none ∧ IsTupOf2 h TI (.ref i1) (.ref i2) ∧ (∃ x y, IsTupOf2 h TO x y) ∧ itB t h i1 a i ∧ itB u h i2 b i) where
  mem := by simp
  obj := fun i h st c hc => by
    obtain ⟨hz, hTI, ⟨x, y, hTO⟩, h1, h2⟩ := st
    have e' : c = z ∨ c = TI ∨ c = TO ∨ c = i1 ∨ c = i2 := by simpa using hc
    rcases e' with q | q | q | q | q
    · rw [q]; exact ⟨_, hz, fun v q => nomatch q⟩
    · rw [q]; exact ⟨_, hTI, fun v q => nomatch q⟩
    · rw [q]; exact ⟨_, hTO, fun v q => nomatch q⟩
    · rw [q]; exact itB_obj h1
    · rw [q]; exact itB_obj h2
  keep := fun i h h' st k => by
    obtain ⟨hz, hTI, ⟨x, y, hTO⟩, h1, h2⟩ := st
    exact ⟨k z (by simp) _ hz, k TI (by simp) _ hTI, ⟨x, y, k TO (by simp) _ hTO⟩, itB_keep h1 fun o q => k i1 (by simp) o q, itB_keep h2 fun o q => k i2 (by simp) o q⟩
  item := by
    intro X hP hw hK hc i pins s σ H E I hf st hg
    subst hP hw hK
    obtain ⟨hz, hTI, ⟨x0, y0, hTO⟩, h1, h2⟩ := st
    obtain ⟨xs, ys, x, y, hqx, hqy, hx, hy⟩ := hg
    obtain ⟨its, rv, p, _⟩ := sqB_get I hqx
    obtain ⟨its2, rv2, p2, _⟩ := sqB_get I hqy
    obtain ⟨v1, hu, ru⟩ := rv.get hx
    obtain ⟨v2, hu2, ru2⟩ := rv2.get hy
    have hzl : z < s.heap.objs.size := Heap.lt_size hz
    have hd : X.A.in1.handled = none := I.ok.hd hc
    have hlt1 : i < its.toArray.size := by
      have := (List.getElem?_eq_some_iff.mp hu).1
      simpa using this
    have hlt2 : i < its2.toArray.size := by
      have := (List.getElem?_eq_some_iff.mp hu2).1
      simpa using this
    refine PySem.wpAny_pyNext_zipD2_item S (drawB hd t i1 a ha its.toArray) (drawB hd u i2 b hb its2.toArray) hz hTI hTO ⟨h1, p⟩ ⟨h2, p2⟩ hlt1 hlt2 fun w1 w2 h' tk e1 e2 z' TO' st1 st2 hT hsz hk => ?_
    have ew1 : w1 = v1 := by
      have e1 : its.toArray[i]? = some w1 := e1
      rw [List.getElem?_toArray, hu] at e1
      exact (Option.some.inj e1).symm
    have ew2 : w2 = v2 := by
      have e2 : its2.toArray[i]? = some w2 := e2
      rw [List.getElem?_toArray, hu2] at e2
      exact (Option.some.inj e2).symm
    subst ew1 ew2
    refine ⟨_, rfl, wpAny_letOwnedTupleGo_zip (s := { s with heap := h', toks := tk }) z' fun h'' z'' sb => ?_⟩
    have hT2 : h''.get? s.heap.objs.size = some { cls := .type "tuple", data := .seq #[w1, w2] } := (sb.2 _ (Nat.ne_of_gt hzl)).trans hT
    have new : ObjOk X.prog X.w (upd H s.heap.objs.size (.tup [x, y])) h'' s.heap.objs.size (.tup [x, y]) :=
      ⟨by show 2 ≤ sizeLine; decide, [w1, w2], .cons ru (.cons ru2 .nil), ⟨_, hT2, rfl, _, rfl⟩⟩
    have I1 : Inv X pins σ (upd H s.heap.objs.size (.tup [x, y])) { s with heap := h'', toks := tk } :=
      I.turnedNew (t' := tk) (ch := [z, TI, TO, i1, i2]) (fun c o hb q => (sb.2 c (fun q' => hb (by simp [q']))).trans (hk c o (fun q' => hb (by simp [q'])) (fun q' => hb (by simp [q'])) (fun q' => hb (by simp [q'])) (fun q' => hb (by simp [q'])) q)) hf (Nat.le_refl _) new
    refine ⟨.ref s.heap.objs.size, _, I1, rfl, ⟨_, x, y, rfl, I.hok.fresh (Nat.le_refl _), rfl, fun l hl => by rw [sqB_inj I hl hqx]; exact hx, fun l hl => by rw [sqB_inj I hl hqy]; exact hy⟩, ⟨z'', ?_, ⟨w1, w2, ?_⟩, ?_, ?_⟩, fun c hcm => ?_⟩
    · exact (sb.2 _ S.TIz).trans (hk _ _ S.TIz S.TITO S.TIi1 S.TIi2 hTI)
    · exact (sb.2 _ S.TOz).trans TO'
    · exact itB_keep st1.1 fun o q => (sb.2 _ (Ne.symm S.zi1)).trans q
    · exact itB_keep st2.1 fun o q => (sb.2 _ (Ne.symm S.zi2)).trans q
    · have hlt : c < s.heap.objs.size := by
        have e' : c = z ∨ c = TI ∨ c = TO ∨ c = i1 ∨ c = i2 := by simpa using hcm
        rcases e' with q | q | q | q | q
        · rw [q]; exact hzl
        · rw [q]; exact Heap.lt_size hTI
        · rw [q]; exact Heap.lt_size hTO
        · rw [q]; obtain ⟨_, e1, _⟩ := itB_obj h1; exact Heap.lt_size e1
        · rw [q]; obtain ⟨_, e2, _⟩ := itB_obj h2; exact Heap.lt_size e2
      rw [upd_ne (Nat.ne_of_lt hlt)]
      exact (hf c hcm).1
  done := by
    intro X hP hw hK hc i pins s σ H E I hf st hg
    subst hP hw hK
    obtain ⟨hz, hTI, ⟨x0, y0, hTO⟩, h1, h2⟩ := st
    obtain ⟨xs, ys, hqx, hqy, g1, g2, hend⟩ := hg
    obtain ⟨its, rv, p, _⟩ := sqB_get I hqx
    obtain ⟨its2, rv2, p2, _⟩ := sqB_get I hqy
    have l1 := rv.length
    have l2 := rv2.length
    have hd : X.A.in1.handled = none := I.ok.hd hc
    have s1 : its.toArray.size = xs.length := by rw [List.size_toArray, l1]
    have s2 : its2.toArray.size = ys.length := by rw [List.size_toArray, l2]
    refine PySem.wpAny_pyNext_zipD2_end S (drawB hd t i1 a ha its.toArray) (drawB hd u i2 b hb its2.toArray) hz hTI hTO ⟨h1, p⟩ ⟨h2, p2⟩ (by omega) (by omega) (by omega) fun h' tk hk => ⟨rfl, I.turnedL (t' := tk) (ch := [z, TI, TO, i1, i2]) (fun c o hb q =>
      hk c o (fun q' => hb (by simp [q'])) (fun q' => hb (by simp [q'])) (fun q' => hb (by simp [q'])) (fun q' => hb (by simp [q'])) q) hf⟩
  self := fun A i s Q E st h => wpAny_pyIter_zip st.1 h
theorem zip_sep (n a b : Nat) (ha : a < n) (hb : b < n) : PySem.ZipSep2 (n + 4) (n + 2) (n + 3) n (n + 1) [n, a] [n + 1, b] := by
  have two : ∀ x y z : Nat, x ≠ y → x ≠ z → x ∉ [y, z] := fun x y z h1 h2 h => by
    rcases List.mem_cons.mp h with e | h
    · exact h1 e
    · rcases List.mem_cons.mp h with e | h
      · exact h2 e
      · cases h
  exact {
    TIz := (show (n + 2 : Nat) ≠ n + 4 by omega)
    TOz := (show (n + 3 : Nat) ≠ n + 4 by omega)
    TITO := (show (n + 2 : Nat) ≠ n + 3 by omega)
    TIi1 := (show (n + 2 : Nat) ≠ n by omega)
    mem1 := List.mem_cons_self
    zf1 := two _ _ _ (by omega) (by omega)
    Tf1 := two _ _ _ (by omega) (by omega)
    TIi2 := (show (n + 2 : Nat) ≠ n + 1 by omega)
    mem2 := List.mem_cons_self
    zf2 := two _ _ _ (by omega) (by omega)
    Tf2 := two _ _ _ (by omega) (by omega)
    sep1_2 := two _ _ _ (by omega) (by omega)
    sep2_1 := two _ _ _ (by omega) (by omega) }
def iZipM (K : PySem.W.Frag) (ta : TA) : TI := fun σ H R => ta σ H fun vs H1 => ∃ (t u : Bool) (a b : Addr) (xs ys : List V), vs = [.ref a, .ref b] ∧ sqB t K H1 a xs ∧ sqB u K H1 b ys ∧ R (ItzM K t u a b) H1
theorem pi_zipM {X : Cx} {e e2 : Expr} {ta : TA} {p pos tpos : Pos} {elts : List Expr} {kk : Nat} (hg : Gl X "zip") (hm : X.mg "zip" = none) (ha : PA X [e, e2] ta)
    (hs : starEach [e, e2] X.env = (false, eval e X.env) :: starEach [e2] X.env) (hpl : (backTo pos (starEach [e2] X.env)).any (·.1) = false) :
    PI X (.Tuple elts kk tpos) (.Call (.Name "zip" p) [e, e2] [] pos) (iZipM X.K ta) := by
  refine ⟨fun pins s σ H R I h => ?_⟩
  refine Call_ (ld_blt I hg hm PyProof.Rows.boot_zip (PyProof.Rows.callWith_type1 (thn (ha.run pos pins s σ H _ I h) fun us s1 ⟨vs, H1, I1, r1, q1⟩ => ?_) hs hpl))
  obtain ⟨t, u, a, b, xs, ys, ex, hqx, hqy, q⟩ := q1
  subst ex
  cases r1 with
  | cons r rr =>
    cases rr with
    | cons r' rr =>
      cases rr
      cases r
      cases r'
      have fresh5 : ∀ c, c ∈ [s1.heap.objs.size + 4, s1.heap.objs.size + 2, s1.heap.objs.size + 3, s1.heap.objs.size, s1.heap.objs.size + 1] → FpOk X pins H1 c := fun c hcm => by
        have e' : c = s1.heap.objs.size + 4 ∨ c = s1.heap.objs.size + 2 ∨ c = s1.heap.objs.size + 3 ∨ c = s1.heap.objs.size ∨ c = s1.heap.objs.size + 1 := by simpa using hcm
        have hle : s1.heap.objs.size ≤ c := by
          rcases e' with z | z | z | z | z
          · rw [z]; exact Nat.le_add_right _ _
          · rw [z]; exact Nat.le_add_right _ _
          · rw [z]; exact Nat.le_add_right _ _
          · rw [z]; exact Nat.le_refl _
          · rw [z]; exact Nat.le_add_right _ _
        exact I1.fpOk hle (I1.hok.fresh hle)
      obtain ⟨its, rv, p1, la⟩ := sqB_get I1 hqx
      obtain ⟨its2, rv2, p2, lb⟩ := sqB_get I1 hqy
      refine PySem.zip_begins2 (begB t a its.toArray) (begB u b its2.toArray) p1 p2 fun h' hz hTI hTO h1 h2 hsz hk => wpAny_pyIter_zip hz ?_
      have I2 : Inv X pins σ H1 { s1 with heap := h' } := I1.kept (t' := s1.toks) hk
      have la' : @LT.lt Nat instLTNat a s1.heap.objs.size := la
      have lb' : @LT.lt Nat instLTNat b s1.heap.objs.size := lb
      have S := zip_sep s1.heap.objs.size a b la' lb'
      exact ⟨s1.heap.objs.size + 4, [s1.heap.objs.size + 4, s1.heap.objs.size + 2, s1.heap.objs.size + 3, s1.heap.objs.size, s1.heap.objs.size + 1], _, _, H1, rfl, I2, turn_zipM t u S (Nat.ne_of_lt la') (Nat.ne_of_lt (Nat.lt_succ_of_lt lb')), ⟨hz, hTI, ⟨_, _, hTO⟩, itB_new h1, itB_new h2⟩, fresh5, q⟩
end Tr

set_option Elab.async false
set_option linter.all false
set_option maxRecDepth 100000
set_option maxHeartbeats 2000000
/-! A dict walked: its keys, its items. -/
namespace Tr
open PySem PySem.Spec PyProof.Rows L2
/-- the keys of the dict that stands at d, just the object o -/
def ItkD (d : Addr) (o : Obj) (ks : List V) : L2.It := ⟨fun i H => H d = some (DcO d o) ∧ i < ks.length, fun i H x H' => H' = H ∧ ks[i]? = some x, fun i H => H d = some (DcO d o) ∧ ks.length ≤ i⟩
def ItiD (d : Addr) (o : Obj) (ks vs : List V) : L2.It :=
  ⟨fun i H => H d = some (DcO d o) ∧ i < ks.length, fun i H x H' => ∃ T k v, ks[i]? = some k ∧ vs[i]? = some v ∧ x = .ref T ∧ H T = none ∧ H' = upd H T (.tup [k, v]), fun i H => H d = some (DcO d o) ∧ ks.length ≤ i⟩
section
variable {P : Program} {w : World} {K : PySem.W.Frag} {tg : Expr} {d : Addr} {o : Obj} {es : Array DictEntry} {ep : Nat} {ks vs : List V}
theorem turn_keysD (it : Addr) (hod : o.data = .dict es ep) (hv : Vals ks (es.toList.map (·.key))) : Turn P w K tg (ItkD d o ks) [it] it (fun i h => h.IsKeyIter it d i es.size ep) where
  mem := by simp
  obj := fun i h st b hb => by
    have e : b = it := by simpa using hb
    subst e
    obtain ⟨oi, e, c, dd⟩ := st
    exact ⟨oi, e, fun v z => by rw [dd] at z; cases z⟩
  keep := fun i h h' st k => st.at fun oi e => k it (by simp) oi e
  item := by
    intro X hP hw hK hc i pins s σ H E I hf st hg
    subst hP hw hK
    obtain ⟨hd, hi⟩ := hg
    obtain ⟨f0, f1, f2, f3, f4, f5⟩ := hf it (by simp)
    have hgd : s.heap.get? d = some o := (show ObjOk X.prog X.w H s.heap d (DcO d o) from I.hok d _ hd).1
    have hk : ks[i]? = some ks[i] := List.getElem?_eq_getElem hi
    obtain ⟨u, hu, ru⟩ := hv.get hk
    rw [List.getElem?_map] at hu
    obtain ⟨en, hen, rfl⟩ := Option.map_eq_some_iff.mp hu
    rw [Array.getElem?_toList] at hen
    refine next_key_item st hgd hod rfl hen fun h' st' sb => ?_
    have I1 : Inv X pins σ H { s with heap := h' } := I.turned (t' := s.toks) (fun b ob hb e => (sb.2 b hb).trans e) f0 f1 f3 f4 f5
    obtain ⟨oi, e, c, dd⟩ := id st'
    exact ⟨en.key, rfl, go_of (s := { s with heap := h' }) e c dd (by decide) ⟨ks[i], H, I1, ru, ⟨rfl, hk⟩, st', fun b hb => (hf b hb).1⟩⟩
  done := by
    intro X hP hw hK hc i pins s σ H E I hf st hg
    subst hP hw hK
    obtain ⟨hd, hi⟩ := hg
    obtain ⟨f0, f1, f2, f3, f4, f5⟩ := hf it (by simp)
    have hgd : s.heap.get? d = some o := (show ObjOk X.prog X.w H s.heap d (DcO d o) from I.hok d _ hd).1
    have hl : ks.length = es.size := by simpa using hv.length
    exact next_key_end (I.ok.hd hc) st hgd hod rfl (by omega) fun h' eb => ⟨rfl, I.turned (t' := s.toks) (fun b ob hb e => eb b ob hb e) f0 f1 f3 f4 f5⟩
  self := fun A i s Q E st h => by
    refine wpAny_pyIter_slot st.typeIs F.slot_dict_keyiterator_iter (wpAny_call_entry F.slot_dict_keyiterator_iter st.typeIs F.entry_dict_keyiterator_iter ?_ (F.args_dict_keyiterator_iter_1 _))
    show wpAny _ _ (ret (.ref it)) _ _ s
    exact wpAny_pure ⟨_, rfl, "dict_keyiterator", _, st.typeIs, F.slot_dict_keyiterator_next.lookup, h⟩
theorem turn_itemsD {elts : List Expr} {kk : Nat} {tpos : Pos} (it : Addr) (hx : o.ExactDict) (hod : o.data = .dict es ep) (hv : Vals ks (es.toList.map (·.key))) (hw' : Vals vs (es.toList.map (·.val))) :
    Turn P w K (.Tuple elts kk tpos) (ItiD d o ks vs) [it] it (fun i h => ∃ ok ov, IsItemIter h it d i es.size ep ok ov) where
  mem := by simp
  obj := fun i h st b hb => by
    have e : b = it := by simpa using hb
    subst e
    obtain ⟨ok, ov, e⟩ := st
    exact ⟨_, e, fun v z => nomatch z⟩
  keep := fun i h h' st k => let ⟨ok, ov, e⟩ := st; ⟨ok, ov, k it (by simp) _ e⟩
  item := by
    intro X hP hw hK hc i pins s σ H E I hf st hg
    subst hP hw hK
    obtain ⟨hd, hi⟩ := hg
    have hgd : s.heap.get? d = some o := (show ObjOk X.prog X.w H s.heap d (DcO d o) from I.hok d _ hd).1
    have hk : ks[i]? = some ks[i] := List.getElem?_eq_getElem hi
    obtain ⟨u, hu, ru⟩ := hv.get hk
    rw [List.getElem?_map] at hu
    obtain ⟨en, hen, rfl⟩ := Option.map_eq_some_iff.mp hu
    rw [Array.getElem?_toList] at hen
    obtain ⟨hi2, een⟩ := Array.getElem?_eq_some_iff.mp hen
    have hl2 : vs.length = es.size := by simpa using hw'.length
    have hkv : vs[i]? = some (vs[i]'(by omega)) := List.getElem?_eq_getElem (by omega)
    obtain ⟨u2, hu2, ru2⟩ := hw'.get hkv
    rw [List.getElem?_map, Array.getElem?_toList, hen] at hu2
    cases hu2
    obtain ⟨ok, ov, he⟩ := st
    have hlt : it < s.heap.objs.size := Heap.lt_size he
    refine wpAny_pyNext_items_item_raw he ⟨o, hgd, hx, hod⟩ hi2 fun h' ho hT hz hk' => ?_
    rw [een] at ho hT
    refine ⟨_, rfl, wpAny_letOwnedTupleGo_items (s := { s with heap := h' }) ho fun h'' he' sb => ?_⟩
    have hT2 : h''.get? s.heap.objs.size = some { cls := .type "tuple", data := .seq #[en.key, en.val] } := (sb.2 _ (Nat.ne_of_gt hlt)).trans hT
    have new : ObjOk X.prog X.w (upd H s.heap.objs.size (.tup [ks[i], vs[i]'(by omega)])) h'' s.heap.objs.size (.tup [ks[i], vs[i]'(by omega)]) :=
      ⟨by show 2 ≤ sizeLine; decide, [en.key, en.val], .cons ru (.cons ru2 .nil), ⟨_, hT2, rfl, _, rfl⟩⟩
    have I1 : Inv X pins σ (upd H s.heap.objs.size (.tup [ks[i], vs[i]'(by omega)])) { s with heap := h'' } :=
      I.turnedNew (t' := s.toks) (ch := [it]) (fun b ob hb e => (sb.2 b (by simpa using hb)).trans (hk' b ob (by simpa using hb) e)) hf (Nat.le_refl _) new
    refine ⟨.ref s.heap.objs.size, _, I1, rfl, ⟨_, _, _, hk, hkv, rfl, I.hok.fresh (Nat.le_refl _), rfl⟩, ⟨en.key, en.val, he'⟩, fun b hb => ?_⟩
    have e : b = it := by simpa using hb
    rw [e, upd_ne (Nat.ne_of_lt hlt)]
    exact (hf it (by simp)).1
  done := by
    intro X hP hw hK hc i pins s σ H E I hf st hg
    subst hP hw hK
    obtain ⟨hd, hi⟩ := hg
    obtain ⟨f0, f1, f2, f3, f4, f5⟩ := hf it (by simp)
    have hgd : s.heap.get? d = some o := (show ObjOk X.prog X.w H s.heap d (DcO d o) from I.hok d _ hd).1
    have hl : ks.length = es.size := by simpa using hv.length
    obtain ⟨ok, ov, he⟩ := st
    exact wpAny_pyNext_items_end_raw (I.ok.hd hc) he ⟨o, hgd, hx, hod⟩ (by omega) fun h' eb => ⟨rfl, I.turned (t' := s.toks) (fun b ob hb e => eb b ob hb e) f0 f1 f3 f4 f5⟩
  self := fun A i s Q E st h => let ⟨_, _, e⟩ := st; PySem.W.kcp_self e h
end
/-- the walks: for k in d; for k, v in d.items() -/
def iKeysD (td : TE) : TI := fun σ H R => td σ H fun x H1 => ∃ d o kvs ks vs, x = .ref d ∧ DAt H1 d o kvs ks vs ∧ R (ItkD d o ks) H1
def iItemsD (td : TE) : TI := fun σ H R => td σ H fun x H1 => ∃ d o kvs ks vs, x = .ref d ∧ DAt H1 d o kvs ks vs ∧ R (ItiD d o ks vs) H1
section
variable {X : Cx} {tg e : Expr} {td : TE} {apos cpos : Pos}
theorem pi_keysD (he : PE X e td) : PI X tg e (iKeysD td) := by
  refine ⟨fun pins s σ H R I h => ?_⟩
  refine thn (he.run pins s σ H _ I h) fun u s1 ⟨x, H1, I1, rx, d, o, kvs, ks, vs, ex, da, q⟩ => ?_
  subst ex
  obtain rfl : u = Value.ref d := rx
  obtain ⟨hx, es, ep, hd, en⟩ := da.is_
  obtain ⟨v1, v2, v3⟩ := en.vals
  exact iter_keys da.low (da.obj I1) hx hd (pi_one (tk := s1.toks) I1 _ (turn_keysD _ hd v1) ⟨_, Heap.get?_push_size _ rfl, rfl, rfl⟩ q)
theorem pi_itemsD {elts : List Expr} {kk : Nat} {tpos : Pos} (he : PE X e td) (hbase : attributeBase e "items" X.env (eval e X.env) = eval e X.env) (hline : (apos.endLine == cpos.line) = true) :
    PI X (.Tuple elts kk tpos) (.Call (.Attribute e "items" apos) [] [] cpos) (iItemsD td) := by
  refine ⟨fun pins s σ H R I h => ?_⟩
  refine wpAny_Call_method (T := "dict") (id := "dict.items") hbase rfl hline F.plainAttrs_dict F.slot_dict_items F.type_dict_items (thn (he.run pins s σ H _ I h) fun u s1 ⟨x, H1, I1, rx, d, o, kvs, ks, vs, ex, da, q⟩ => ?_)
  subst ex
  obtain rfl : u = Value.ref d := rx
  obtain ⟨hx, es, ep, hd, en⟩ := da.is_
  obtain ⟨v1, v2, v3⟩ := en.vals
  have raw : s1.heap.DictRaw d es ep := ⟨o, da.obj I1, hx, hd⟩
  refine ⟨da.typeIs I1, fun b z => by cases z; exact ⟨o, da.obj I1, hx.2.1⟩, ?_⟩
  have I2 : Inv X pins σ H1 { s1 with heap := s1.heap.push { cls := .type "dict_items", data := .fields #[.ref d] } } := I1.kept (t' := s1.toks) fun b ob q => Heap.get?_push_of_some _ q
  have fin : wpAny (model X.prog X.w) X.A (pyIter (.ref s1.heap.objs.size)) (PIE X pins σ (.Tuple elts kk tpos) R) X.xe { s1 with heap := s1.heap.push { cls := .type "dict_items", data := .fields #[.ref d] } } := by
    refine wpAny_pyIter_items_raw (d := d) ⟨_, Heap.get?_push_size _ rfl, rfl, rfl⟩ (raw.at fun o e => Heap.get?_push_of_some _ e) (pi_one (tk := s1.toks) I2 _ (turn_itemsD _ hx hd v1 v2) ⟨.none, .none, ?_⟩ q)
    exact Heap.get?_push_size _ rfl
  show wpAny _ _ (callWith cpos (.builtin "dict.items") [.ref d] [] []) _ X.xe s1
  exact method_meetsIn F.slot_dict_items F.entry_dict_items rfl (PySem.evalArgs_none ⟨rfl, da.typeIs I1, F.args_dict_items_1 _, _, meets_dict_items_raw d da.low, ⟨es, ep, raw⟩, fin⟩)
end
end Tr

set_option Elab.async false
set_option linter.all false
set_option maxRecDepth 100000
set_option maxHeartbeats 1000000
/-! What is walked: iterators, targets. -/
namespace Tr
open PySem PySem.Spec PyProof.Rows L2
/-- while the items A are live the iterator goes through ds -/
structure Wk (K : PySem.W.Frag) (J : L2.It) (ds : List D) (A : List (V × Vl)) : Prop where
  go : ∀ i H L, i < ds.length → Live K H (A ++ L) → J.go i H
  stop : ∀ H L, Live K H (A ++ L) → J.stop ds.length H
  yld : ∀ i H x H' L d, ds[i]? = some d → Live K H (A ++ L) → J.yld i H x H' → Live K H' ((x, .fz d) :: (A ++ L))
section
variable {K : PySem.W.Frag}
theorem zip_get {xs : List V} {ds : List D} (hl : xs.length = ds.length) {i : Nat} {d : D} (e : ds[i]? = some d) : ∃ x, xs[i]? = some x ∧ (x, Vl.fz d) ∈ xs.zip (ds.map Vl.fz) := by
  have hi : i < xs.length := by rw [hl]; exact (List.getElem?_eq_some_iff.mp e).1
  refine ⟨xs[i], List.getElem?_eq_getElem hi, ?_⟩
  refine List.mem_iff_getElem?.mpr ⟨i, ?_⟩
  rw [List.getElem?_zip_eq_some]
  exact ⟨List.getElem?_eq_getElem hi, by rw [List.getElem?_map, e]; rfl⟩
abbrev AL (a : Addr) (xs : List V) (ds : List D) : List (V × Vl) := (.ref a, .pinL xs) :: xs.zip (ds.map Vl.fz)
abbrev AT (a : Addr) (xs : List V) (ds : List D) : List (V × Vl) := (.ref a, .pinT xs) :: xs.zip (ds.map Vl.fz)
theorem al_at {a : Addr} {xs : List V} {ds : List D} {H : Hp} {L : List (V × Vl)} (l : Live K H (AL a xs ds ++ L)) : SqL K H a xs := l.pinnedL (List.mem_append_left _ List.mem_cons_self)
theorem at_at {a : Addr} {xs : List V} {ds : List D} {H : Hp} {L : List (V × Vl)} (l : Live K H (AT a xs ds ++ L)) : SqT K H a xs := l.pinnedT (List.mem_append_left _ List.mem_cons_self)
theorem wk_list {a : Addr} {xs : List V} {ds : List D} (hl : xs.length = ds.length) : Wk K (Itl K a) ds (AL a xs ds) where
  go := fun i H L hi l => ⟨xs, xs[i]'(by omega), al_at l, List.getElem?_eq_getElem (by omega)⟩
  stop := fun H L l => ⟨xs, al_at l, by omega⟩
  yld := fun i H x H' L d e l y => by
    obtain ⟨rfl, y⟩ := y
    obtain ⟨x', hx, m⟩ := zip_get hl e
    have := y xs (al_at l)
    rw [hx] at this; cases this
    exact l.again (List.mem_append_left _ (List.mem_cons_of_mem _ m))
theorem wk_tup {a : Addr} {xs : List V} {ds : List D} (hl : xs.length = ds.length) : Wk K (Itt K a) ds (AT a xs ds) where
  go := fun i H L hi l => ⟨xs, xs[i]'(by omega), at_at l, List.getElem?_eq_getElem (by omega)⟩
  stop := fun H L l => ⟨xs, at_at l, by omega⟩
  yld := fun i H x H' L d e l y => by
    obtain ⟨rfl, y⟩ := y
    obtain ⟨x', hx, m⟩ := zip_get hl e
    have := y xs (at_at l)
    rw [hx] at this; cases this
    exact l.again (List.mem_append_left _ (List.mem_cons_of_mem _ m))
theorem rangeD_len (a b : Int) : (rangeD a b).length = (b - a).toNat := by unfold rangeD; rw [List.length_map, List.length_range]
theorem wk_range {a b : Int} : Wk K (Itr a (b - a).toNat) (rangeD a b) [] where
  go := fun i H L hi l => by rw [rangeD_len] at hi; exact hi
  stop := fun H L l => by show _ ≤ _; rw [rangeD_len]; exact Nat.le_refl _
  yld := fun i H x H' L d e l y => by
    obtain ⟨rfl, rfl⟩ := y
    have hi := (List.getElem?_eq_some_iff.mp e).1
    rw [rangeD_len] at hi
    unfold rangeD at e
    rw [List.getElem?_map, List.getElem?_range hi] at e
    cases e
    exact Live.scal (L := L) l rfl
theorem live_pair {H : Hp} {L : List (V × Vl)} {T : Addr} {x y : V} {d e : D} (l : Live K H ((x, .fz d) :: (y, .fz e) :: L)) (hT : H T = none) : Live K (upd H T (.tup [x, y])) ((.ref T, .fz (.tuple [d, e])) :: L) :=
  Live.newTup (vs := [x, y]) (ds := [d, e]) rfl l hT
/-- a fresh address keeps what is live -/
theorem live_fresh {H : Hp} {L : List (V × Vl)} {T : Addr} {o : HO} (l : Live K H L) (hT : H T = none) : Live K (upd H T o) L := l.same (same_new hT)
theorem pairs_get : ∀ {xs ys : List D} {i : Nat} {d : D}, (pairs xs ys)[i]? = some d → ∃ x y, xs[i]? = some x ∧ ys[i]? = some y ∧ d = .tuple [x, y]
  | [], _, _, _, e => by simp [pairs] at e
  | _ :: _, [], _, _, e => by simp [pairs] at e
  | x :: xs, y :: ys, 0, d, e => by
    unfold pairs at e
    simp at e
    subst e
    exact ⟨x, y, rfl, rfl, rfl⟩
  | x :: xs, y :: ys, i + 1, d, e => by
    unfold pairs at e
    obtain ⟨x', y', q1, q2, q3⟩ := pairs_get (i := i) (d := d) (by simpa using e)
    exact ⟨x', y', by simpa using q1, by simpa using q2, q3⟩
theorem pairs_len : ∀ (xs ys : List D), (pairs xs ys).length = min xs.length ys.length
  | [], _ => by simp [pairs]
  | _ :: _, [] => by simp [pairs]
  | x :: xs, y :: ys => by
    unfold pairs
    rw [List.length_cons, pairs_len xs ys, List.length_cons, List.length_cons]
    omega
theorem enumD_len (ds : List D) : (enumD ds).length = ds.length := by
  unfold enumD
  rw [pairs_len, List.length_map, List.length_range, Nat.min_self]
theorem enumD_get {ds : List D} {i : Nat} {d : D} (e : (enumD ds)[i]? = some d) : ∃ y, ds[i]? = some y ∧ d = .tuple [.int (i : Nat), y] := by
  unfold enumD at e
  obtain ⟨x, y, q1, q2, q3⟩ := pairs_get e
  have hi := (List.getElem?_eq_some_iff.mp q2).1
  rw [List.getElem?_map, List.getElem?_range hi] at q1
  cases q1
  exact ⟨y, q2, q3⟩
theorem wk_enum {a : Addr} {xs : List V} {ds : List D} (hl : xs.length = ds.length) : Wk K (Ite K a) (enumD ds) (AL a xs ds) where
  go := fun i H L hi l => by rw [enumD_len] at hi; exact ⟨xs, xs[i]'(by omega), al_at l, List.getElem?_eq_getElem (by omega)⟩
  stop := fun H L l => ⟨xs, al_at l, by rw [enumD_len]; omega⟩
  yld := fun i H v H' L d e l y => by
    obtain ⟨T, x, rfl, hT, rfl, y⟩ := y
    obtain ⟨z, e1, rfl⟩ := enumD_get e
    obtain ⟨x', hx, m⟩ := zip_get hl e1
    have := y xs (al_at l)
    rw [hx] at this; cases this
    exact live_pair ((l.again (List.mem_append_left _ (List.mem_cons_of_mem _ m))).scal rfl) hT
theorem wk_enumT {a : Addr} {xs : List V} {ds : List D} (hl : xs.length = ds.length) : Wk K (IteT K a) (enumD ds) (AT a xs ds) where
  go := fun i H L hi l => by rw [enumD_len] at hi; exact ⟨xs, xs[i]'(by omega), at_at l, List.getElem?_eq_getElem (by omega)⟩
  stop := fun H L l => ⟨xs, at_at l, by rw [enumD_len]; omega⟩
  yld := fun i H v H' L d e l y => by
    obtain ⟨T, x, rfl, hT, rfl, y⟩ := y
    obtain ⟨z, e1, rfl⟩ := enumD_get e
    obtain ⟨x', hx, m⟩ := zip_get hl e1
    have := y xs (at_at l)
    rw [hx] at this; cases this
    exact live_pair ((l.again (List.mem_append_left _ (List.mem_cons_of_mem _ m))).scal rfl) hT
abbrev AB (t : Bool) (a : Addr) (xs : List V) (ds : List D) : List (V × Vl) := (.ref a, if t then .pinT xs else .pinL xs) :: xs.zip (ds.map Vl.fz)
theorem ab_at {t : Bool} {a : Addr} {xs : List V} {H : Hp} {L : List (V × Vl)} (l : Live K H L) (m : (.ref a, if t then Vl.pinT xs else Vl.pinL xs) ∈ L) : sqB t K H a xs := by
  cases t
  · exact l.pinnedL m
  · exact l.pinnedT m
theorem wk_zipM {t u : Bool} {a b : Addr} {xs ys : List V} {ds es : List D} (hl : xs.length = ds.length) (hl2 : ys.length = es.length) : Wk K (ItzM K t u a b) (pairs ds es) (AB t a xs ds ++ AB u b ys es) where
  go := fun i H L hi l => by
    rw [pairs_len] at hi
    have q1 : sqB t K H a xs := ab_at l (by simp)
    have q2 : sqB u K H b ys := ab_at l (by simp)
    exact ⟨xs, ys, xs[i]'(by omega), ys[i]'(by omega), q1, q2, List.getElem?_eq_getElem (by omega), List.getElem?_eq_getElem (by omega)⟩
  stop := fun H L l => by
    have q1 : sqB t K H a xs := ab_at l (by simp)
    have q2 : sqB u K H b ys := ab_at l (by simp)
    refine ⟨xs, ys, q1, q2, ?_⟩
    rw [pairs_len]
    omega
  yld := fun i H v H' L d e l y => by
    obtain ⟨T, x, y', rfl, hT, rfl, y1, y2⟩ := y
    have q1 : sqB t K H a xs := ab_at l (by simp)
    have q2 : sqB u K H b ys := ab_at l (by simp)
    obtain ⟨d1, d2, e1, e2, rfl⟩ := pairs_get e
    obtain ⟨x1, hx1, m1⟩ := zip_get hl e1
    obtain ⟨x2, hx2, m2⟩ := zip_get hl2 e2
    have := y1 xs q1
    rw [hx1] at this; cases this
    have := y2 ys q2
    rw [hx2] at this; cases this
    have l1 := l.again (d := d2) (List.mem_append_left _ (List.mem_append_right _ (List.mem_cons_of_mem _ m2)))
    exact live_pair (l1.again (d := d1) (List.mem_cons_of_mem _ (List.mem_append_left _ (List.mem_append_left _ (List.mem_cons_of_mem _ m1))))) hT
end

/-! ### what is walked -/
def tI (X : Cx) (G : Fs) (it : It) : TI := fun σ H R => ∃ fr L ds fr', SlOk σ fr ∧ Live X.K H (slots σ fr ++ L) ∧ its G it fr = some (ds, fr') ∧
  ∀ J H' A, SlOk σ fr' → Live X.K H' (A ++ (slots σ fr' ++ L)) → Wk X.K J ds A → R J H'
section
variable {X : Cx} {G : Fs} {tg a b e : Expr} {i j : E} {pos p : Pos}
theorem pi_mono {t t' : TI} (h : PI X tg e t) (m : ∀ σ H R, t' σ H R → t σ H R) : PI X tg e t' := ⟨fun pins s σ H R hI hq => h.run pins s σ H R hI (m σ H R hq)⟩
theorem asD {x : Vl} {H : Hp} {v : V} {L : List (V × Vl)} {K : PySem.W.Frag} (hx : x.own = true) (l : Live K H ((v, x) :: L)) : Live K H ((v, .fz x.strip) :: L) := l.freeze hx
theorem pin_list {K : PySem.W.Frag} {H : Hp} {v : V} {ds : List D} {L : List (V × Vl)} (l : Live K H ((v, .fz (.list ds)) :: L)) : ∃ a xs, v = .ref a ∧ xs.length = ds.length ∧ SqL K H a xs ∧ Live K H (AL a xs ds ++ L) := by
  obtain ⟨a, xs, rfl, h1, h2⟩ := l.pinL
  exact ⟨a, xs, rfl, h1, h2.pinnedL List.mem_cons_self, h2⟩
theorem pin_tup {K : PySem.W.Frag} {H : Hp} {v : V} {ds : List D} {L : List (V × Vl)} (l : Live K H ((v, .fz (.tuple ds)) :: L)) : ∃ a xs, v = .ref a ∧ xs.length = ds.length ∧ SqT K H a xs ∧ Live K H (AT a xs ds ++ L) := by
  obtain ⟨a, xs, rfl, h1, h2⟩ := l.pinT
  exact ⟨a, xs, rfl, h1, h2.pinnedT List.mem_cons_self, h2⟩
def seqT (t : Bool) (ds : List D) : D := if t then .tuple ds else .list ds
theorem pin_B {K : PySem.W.Frag} {H : Hp} {v : V} {t : Bool} {ds : List D} {L : List (V × Vl)} (l : Live K H ((v, .fz (seqT t ds)) :: L)) : ∃ a xs, v = .ref a ∧ xs.length = ds.length ∧ sqB t K H a xs ∧ Live K H (AB t a xs ds ++ L) := by
  cases t
  · exact pin_list l
  · exact pin_tup l
abbrev AD (a : Addr) (o : Obj) (kvs : List (D × D)) (ks vs : List V) : List (V × Vl) := (.ref a, .pinD o kvs ks vs) :: (ks.zip ((kvs.map Prod.fst).map Vl.fz) ++ vs.zip ((kvs.map Prod.snd).map Vl.fz))
theorem pin_dct {K : PySem.W.Frag} {H : Hp} {v : V} {kvs : List (D × D)} {L : List (V × Vl)} (l : Live K H ((v, .fz (.dict kvs)) :: L)) : ∃ a o ks vs, v = .ref a ∧ ks.length = kvs.length ∧ vs.length = kvs.length ∧ DAt H a o kvs ks vs ∧ Live K H (AD a o kvs ks vs ++ L) := by
  obtain ⟨a, o, ks, vs, rfl, h1, h2, h3⟩ := l.pinD
  refine ⟨a, o, ks, vs, rfl, h1, h2, h3.pinnedD List.mem_cons_self, ?_⟩
  show Live K H ((.ref a, .pinD o kvs ks vs) :: (ks.zip ((kvs.map Prod.fst).map Vl.fz) ++ vs.zip ((kvs.map Prod.snd).map Vl.fz) ++ L))
  rw [List.append_assoc]
  exact h3
theorem ad_at {K : PySem.W.Frag} {a : Addr} {o : Obj} {kvs : List (D × D)} {ks vs : List V} {H : Hp} {L : List (V × Vl)} (l : Live K H (AD a o kvs ks vs ++ L)) : DAt H a o kvs ks vs := l.pinnedD (List.mem_append_left _ List.mem_cons_self)
theorem wk_keysD {K : PySem.W.Frag} {a : Addr} {o : Obj} {kvs : List (D × D)} {ks vs : List V} (hl : ks.length = kvs.length) : Wk K (ItkD a o ks) (kvs.map (·.1)) (AD a o kvs ks vs) where
  go := fun i H L hi l => ⟨(ad_at l).at_, by rw [List.length_map] at hi; omega⟩
  stop := fun H L l => ⟨(ad_at l).at_, by rw [List.length_map]; omega⟩
  yld := fun i H x H' L d e l y => by
    obtain ⟨rfl, y⟩ := y
    obtain ⟨x', hx, m⟩ := zip_get (xs := ks) (ds := kvs.map Prod.fst) (by rw [List.length_map]; exact hl) e
    rw [hx] at y; cases y
    exact l.again (List.mem_append_left _ (List.mem_cons_of_mem _ (List.mem_append_left _ m)))
theorem wk_itemsD {K : PySem.W.Frag} {a : Addr} {o : Obj} {kvs : List (D × D)} {ks vs : List V} (hl : ks.length = kvs.length) (hl2 : vs.length = kvs.length) : Wk K (ItiD a o ks vs) (kvs.map fun p => .tuple [p.1, p.2]) (AD a o kvs ks vs) where
  go := fun i H L hi l => ⟨(ad_at l).at_, by rw [List.length_map] at hi; omega⟩
  stop := fun H L l => ⟨(ad_at l).at_, by rw [List.length_map]; omega⟩
  yld := fun i H x H' L d e l y => by
    obtain ⟨T, k, v, y1, y2, rfl, hT, rfl⟩ := y
    rw [List.getElem?_map] at e
    obtain ⟨p, hp, rfl⟩ := Option.map_eq_some_iff.mp e
    obtain ⟨x1, hx1, m1⟩ := zip_get (xs := ks) (ds := kvs.map Prod.fst) (i := i) (d := p.1) (by rw [List.length_map]; exact hl) (by rw [List.getElem?_map, hp]; rfl)
    obtain ⟨x2, hx2, m2⟩ := zip_get (xs := vs) (ds := kvs.map Prod.snd) (i := i) (d := p.2) (by rw [List.length_map]; exact hl2) (by rw [List.getElem?_map, hp]; rfl)
    rw [hx1] at y1; cases y1
    rw [hx2] at y2; cases y2
    have l1 := l.again (List.mem_append_left _ (List.mem_cons_of_mem _ (List.mem_append_right _ m2)))
    have l2 := l1.again (List.mem_cons_of_mem _ (List.mem_append_left _ (List.mem_cons_of_mem _ (List.mem_append_left _ m1))))
    exact live_pair l2 hT
theorem i_im {elts : List Expr} {kk : Nat} {tpos apos cpos : Pos} (he : PE X e (tE X G i)) (hbase : attributeBase e "items" X.env (eval e X.env) = eval e X.env) (hline : (apos.endLine == cpos.line) = true) :
    PI X (.Tuple elts kk tpos) (.Call (.Attribute e "items" apos) [] [] cpos) (tI X G (.im i)) := by
  refine pi_mono (pi_itemsD he hbase hline) fun σ H R h => ?_
  obtain ⟨fr, L, ds, fr', ok, l, ee, q⟩ := h
  unfold its at ee
  obtain ⟨⟨p1, f1⟩, e1, ee⟩ := bnd ee
  obtain ⟨⟨x, f2⟩, e2, ee⟩ := bnd ee
  refine ⟨fr, L, p1, f1, ok, l, e1, fun v H1 ok1 o => ?_⟩
  obtain ⟨ok2, l2⟩ := o.force ok1 e2
  have l3 := asD (force_own e2) l2
  dsimp only at ee
  split at ee
  · rename_i kvs hk
    cases ee
    rw [hk] at l3
    obtain ⟨a, ob, ks, vs, rfl, h1, h2, da, l4⟩ := pin_dct l3
    exact ⟨a, ob, kvs, ks, vs, rfl, da, q _ _ _ ok2 l4 (wk_itemsD h1 h2)⟩
  · cases ee
theorem i_li (he : PE X e (tE X G i)) : PI X tg e (tI X G (.li i)) := by
  refine ⟨fun pins s σ H R I h => ?_⟩
  obtain ⟨fr, L, ds, fr', ok, l, ee, q⟩ := h
  unfold its at ee
  obtain ⟨⟨p1, f1⟩, e1, ee⟩ := bnd ee
  obtain ⟨⟨x, f2⟩, e2, ee⟩ := bnd ee
  have goL : ∀ ds : List D, x.strip = .list ds → (∀ J H' A, SlOk σ f2 → Live X.K H' (A ++ (slots σ f2 ++ L)) → Wk X.K J ds A → R J H') → wpAny (model X.prog X.w) X.A (eval e X.env) (fun v s1 => wpAny (model X.prog X.w) X.A (pyIter v) (PIE X pins σ tg R) X.xe s1) X.xe s := fun ds hx q => by
    refine (pi_list he).run pins s σ H R I ⟨fr, L, p1, f1, ok, l, e1, fun v H1 ok1 o => ?_⟩
    obtain ⟨ok2, l2⟩ := o.force ok1 e2
    have l3 := asD (force_own e2) l2
    rw [hx] at l3
    obtain ⟨a, xs, rfl, hl, sq, l4⟩ := pin_list l3
    exact ⟨a, rfl, ⟨xs, sq⟩, q _ _ _ ok2 l4 (wk_list hl)⟩
  dsimp only at ee
  split at ee
  · cases ee
    exact goL _ rfl q
  · cases ee
    refine (pi_tup he).run pins s σ H R I ⟨fr, L, p1, f1, ok, l, e1, fun v H1 ok1 o => ?_⟩
    obtain ⟨ok2, l2⟩ := o.force ok1 e2
    obtain ⟨a, xs, rfl, hl, sq, l4⟩ := pin_tup l2
    exact ⟨a, rfl, ⟨xs, sq⟩, q _ _ _ ok2 l4 (wk_tup hl)⟩
  · cases ee
    refine (pi_keysD he).run pins s σ H R I ⟨fr, L, p1, f1, ok, l, e1, fun v H1 ok1 o => ?_⟩
    obtain ⟨ok2, l2⟩ := o.force ok1 e2
    obtain ⟨a, ob, ks, vs, rfl, h1, h2, da, l4⟩ := pin_dct l2
    exact ⟨a, ob, _, ks, vs, rfl, da, q _ _ _ ok2 l4 (wk_keysD h1)⟩
  · cases ee
    exact goL _ rfl q
  · cases ee
/-- one operand, handed on -/
theorem one_as {σ : St} {H : Hp} {Q : List V → Hp → Prop} {fr f1 f2 : Fm} {L : List (V × Vl)} {p : Pd} {x : Vl} (ok : SlOk σ fr) (l : Live X.K H (slots σ fr ++ L)) (e1 : ev G i fr = some (p, f1)) (e2 : force p f1 = some (x, f2))
    (q : ∀ v H', SlOk σ f2 → Live X.K H' ((v, x) :: (slots σ f2 ++ L)) → Q [v] H') : tAs X G [i] σ H Q := by
  refine ⟨fr, L, [p], f1, ok, l, ?_, fun vs H1 ok1 o => ?_⟩
  · unfold evs evs
    rw [e1]
    rfl
  · obtain ⟨pk, lv⟩ := o
    cases pk with
    | cons k1 k2 =>
      cases k2
      have o1 : Hold X.K σ f1 H1 _ [p] L := ⟨.cons k1 .nil, lv⟩
      obtain ⟨ok2, l2⟩ := o1.force ok1 e2
      exact q _ H1 ok2 l2
theorem smallI_iff {n : Int} (h : smallI n = true) : -(2 ^ 62) ≤ n ∧ n < 2 ^ 62 := by
  unfold smallI at h
  simp only [Bool.and_eq_true, decide_eq_true_eq] at h
  exact h
theorem i_rg1 (hg : Gl X "range") (hm : X.mg "range" = none) (ha : PE X a (tE X G i)) (hs : starEach [a] X.env = [(false, eval a X.env)]) : PI X tg (.Call (.Name "range" p) [a] [] pos) (tI X G (.rg1 i)) := by
  refine ⟨fun pins s σ H R I h => ?_⟩
  obtain ⟨fr, L, ds, fr', ok, l, ee, q⟩ := h
  unfold its at ee
  obtain ⟨⟨p1, f1⟩, e1, ee⟩ := bnd ee
  refine (pi_range1 hg hm (a_cons ha a_nil hs) hs).run pins s σ H R I ⟨fr, L, [p1], f1, ok, l, by unfold evs evs; rw [e1]; rfl, fun vs H1 ok1 o => ?_⟩
  dsimp only at ee
  split at ee
  · rename_i n hn
    obtain ⟨c, ee⟩ := ite_some ee
    cases ee
    obtain ⟨pk, lv⟩ := o
    cases pk with
    | cons k1 k2 =>
      cases k2
      obtain ⟨F, h1⟩ := (Hold.look1 ⟨.cons k1 .nil, lv⟩ hn).one
      obtain ⟨c1, c2⟩ := smallI_iff c
      refine ⟨n, by rw [h1.int], c1, c2, ?_⟩
      have wk := wk_range (K := X.K) (a := 0) (b := n)
      rw [Int.sub_zero] at wk
      exact q _ H1 [] ok1 (Hold.live ⟨.cons k1 .nil, lv⟩) wk
  · cases ee
theorem evs_two {fr f1 f2 : Fm} {p1 p2 : Pd} (e1 : ev G i fr = some (p1, f1)) (e2 : ev G j f1 = some (p2, f2)) : evs G [i, j] fr = some ([p1, p2], f2) := by
  unfold evs evs evs
  rw [e1]
  show ((ev G j f1).bind _).map _ = _
  rw [e2]
  rfl
theorem i_rg2 (hg : Gl X "range") (hm : X.mg "range" = none) (ha : PE X a (tE X G i)) (hb : PE X b (tE X G j)) (hs : starEach [a, b] X.env = [(false, eval a X.env), (false, eval b X.env)]) (hs2 : starEach [b] X.env = [(false, eval b X.env)]) :
    PI X tg (.Call (.Name "range" p) [a, b] [] pos) (tI X G (.rg2 i j)) := by
  refine ⟨fun pins s σ H R I h => ?_⟩
  obtain ⟨fr, L, ds, fr', ok, l, ee, q⟩ := h
  unfold its at ee
  obtain ⟨⟨p1, f1⟩, e1, ee⟩ := bnd ee
  obtain ⟨⟨p2, f2⟩, e2, ee⟩ := bnd ee
  refine (pi_range2 hg hm (a_cons ha (a_cons hb a_nil hs2) (by rw [hs, hs2])) hs hs2).run pins s σ H R I ⟨fr, L, [p1, p2], f2, ok, l, evs_two e1 e2, fun vs H1 ok1 o => ?_⟩
  dsimp only at ee
  split at ee
  · rename_i m n hn1 hn2
    obtain ⟨c, ee⟩ := ite_some ee
    cases ee
    simp only [Bool.and_eq_true] at c
    obtain ⟨pk, lv⟩ := o
    cases pk with
    | cons k1 k2 =>
      cases k2 with
      | cons k2 k3 =>
        cases k3
        have o' : Hold X.K σ fr' H1 _ [p1, p2] L := ⟨.cons k1 (.cons k2 .nil), lv⟩
        obtain ⟨F, h1, h2⟩ := (o'.look2 hn1 hn2).pair
        obtain ⟨c1, c2⟩ := smallI_iff c.1
        obtain ⟨c3, c4⟩ := smallI_iff c.2
        exact ⟨m, n, by rw [h1.int, h2.int], ⟨c1, c2, c3, c4⟩, q _ H1 [] ok1 o'.live wk_range⟩
  · cases ee
theorem i_en {elts : List Expr} {kk : Nat} {tpos : Pos} (hg : Gl X "enumerate") (hm : X.mg "enumerate" = none) (ha : PE X a (tE X G i)) (hs : starEach [a] X.env = [(false, eval a X.env)]) : PI X (.Tuple elts kk tpos) (.Call (.Name "enumerate" p) [a] [] pos) (tI X G (.en i)) := by
  refine ⟨fun pins s σ H R I h => ?_⟩
  obtain ⟨fr, L, ds, fr', ok, l, ee, q⟩ := h
  unfold its at ee
  obtain ⟨⟨p1, f1⟩, e1, ee⟩ := bnd ee
  obtain ⟨⟨x, f2⟩, e2, ee⟩ := bnd ee
  have goL : ∀ es : List D, x.strip = .list es → (∀ J H' A, SlOk σ f2 → Live X.K H' (A ++ (slots σ f2 ++ L)) → Wk X.K J (enumD es) A → R J H') →
      wpAny (model X.prog X.w) X.A (eval (.Call (.Name "enumerate" p) [a] [] pos) X.env) (fun v s1 => wpAny (model X.prog X.w) X.A (pyIter v) (PIE X pins σ (.Tuple elts kk tpos) R) X.xe s1) X.xe s := fun es hx q => by
    refine (pi_enum hg hm (a_cons ha a_nil hs) hs).run pins s σ H R I (one_as ok l e1 e2 fun v H1 ok1 l1 => ?_)
    have l3 := asD (force_own e2) l1
    rw [hx] at l3
    obtain ⟨b, xs, rfl, hl, sq, l4⟩ := pin_list l3
    exact ⟨b, xs, rfl, sq, q _ _ _ ok1 l4 (wk_enum hl)⟩
  dsimp only at ee
  split at ee
  · cases ee
    exact goL _ rfl q
  · cases ee
    refine (pi_enumT hg hm (a_cons ha a_nil hs) hs).run pins s σ H R I (one_as ok l e1 e2 fun v H1 ok1 l1 => ?_)
    obtain ⟨b, xs, rfl, hl, sq, l4⟩ := pin_tup l1
    exact ⟨b, xs, rfl, sq, q _ _ _ ok1 l4 (wk_enumT hl)⟩
  · cases ee
    exact goL _ rfl q
  · cases ee
theorem i_zp {elts : List Expr} {kk : Nat} {tpos : Pos} (hg : Gl X "zip") (hm : X.mg "zip" = none) (ha : PE X a (tE X G i)) (hb : PE X b (tE X G j)) (hs : starEach [a, b] X.env = (false, eval a X.env) :: starEach [b] X.env) (hs2 : starEach [b] X.env = [(false, eval b X.env)])
    (hpl : (backTo pos (starEach [b] X.env)).any (·.1) = false) : PI X (.Tuple elts kk tpos) (.Call (.Name "zip" p) [a, b] [] pos) (tI X G (.zp i j)) := by
  refine pi_mono (pi_zipM hg hm (g_cons ha (g_cons hb g_nil hs2) hs) hs hpl) fun σ H R h => ?_
  obtain ⟨fr, L, ds, fr', ok, l, ee, q⟩ := h
  unfold its at ee
  obtain ⟨⟨p1, f1⟩, e1, ee⟩ := bnd ee
  obtain ⟨⟨x, f2⟩, e2, ee⟩ := bnd ee
  obtain ⟨⟨p2, f3⟩, e3, ee⟩ := bnd ee
  obtain ⟨⟨y, f4⟩, e4, ee⟩ := bnd ee
  refine ⟨fr, L, [x, y], f4, ok, l, ?_, fun vs H1 ok1 hl l1 => ?_⟩
  · unfold gens
    rw [e1]
    show ((force p1 f1).bind _) = _
    rw [e2]
    show ((gens G [j] f2).map _) = _
    unfold gens gens
    rw [e3]
    show (((force p2 f3).bind _)).map _ = _
    rw [e4]
    rfl
  · match vs, hl with
    | [v, w], _ =>
      have l1 : Live X.K H1 ((v, x) :: (w, y) :: (slots σ f4 ++ L)) := l1
      have l2 := l1.freeze (force_own e2)
      have l3 : Live X.K H1 ((w, y) :: (v, .fz x.strip) :: (slots σ f4 ++ L)) := l2.perm (List.Perm.swap _ _ _)
      have l4 := l3.freeze (force_own e4)
      have key : ∀ (t u : Bool) (xs ys : List D), x.strip = seqT t xs → y.strip = seqT u ys → ds = pairs xs ys → fr' = f4 → ∃ (t u : Bool) (a b : Addr) (zs ws : List V), [v, w] = [.ref a, .ref b] ∧ sqB t X.K H1 a zs ∧ sqB u X.K H1 b ws ∧ R (ItzM X.K t u a b) H1 := by
        intro t u xs ys hx hy hd hf
        subst hd hf
        rw [hx, hy] at l4
        obtain ⟨b1, ws, rfl, hl1, sq1, l5⟩ := pin_B l4
        have l6 : Live X.K H1 ((v, .fz (seqT t xs)) :: (AB u b1 ws ys ++ (slots σ fr' ++ L))) := l5.perm (zip_perm_mid _ _ _).symm
        obtain ⟨a1, zs, rfl, hl2, sq2, l7⟩ := pin_B l6
        refine ⟨t, u, a1, b1, zs, ws, rfl, sq2, sq1, q _ _ _ ok1 ?_ (wk_zipM hl2 hl1)⟩
        rw [List.append_assoc]
        exact l7
      dsimp only at ee
      split at ee
      · rename_i xs ys hx hy
        cases ee
        exact key false false xs ys hx hy rfl rfl
      · rename_i xs ys hx hy
        cases ee
        exact key true true xs ys hx hy rfl rfl
      · rename_i xs ys hx hy
        cases ee
        exact key true false xs ys hx hy rfl rfl
      · rename_i xs ys hx hy
        cases ee
        exact key false true xs ys hx hy rfl rfl
      · cases ee
end
end Tr

set_option Elab.async false
set_option linter.all false
set_option maxRecDepth 100000
set_option maxHeartbeats 1000000
/-! Targets, comprehensions. -/
namespace Tr
open PySem PySem.Spec PyProof.Rows L2
mutual
def Tg.ixs : Tg → List Nat
  | .n i => [i]
  | .t ts => ixsL ts
def ixsL : List Tg → List Nat
  | [] => []
  | t :: ts => t.ixs ++ ixsL ts
end
/-- what a store leaves as it was -/
def Keep (lk ix : List Nat) (σ σ' : St) : Prop := (∀ i, i ∉ ix → σ'[i]? = σ[i]?) ∧ ∀ i ∈ lk, σ'[i]? = σ[i]?
theorem Keep.refl {lk ix : List Nat} {σ : St} : Keep lk ix σ σ := ⟨fun _ _ => rfl, fun _ _ => rfl⟩
theorem Keep.trans {lk ix ix2 : List Nat} {σ σ1 σ2 : St} (h : Keep lk ix σ σ1) (h2 : Keep lk ix2 σ1 σ2) : Keep lk (ix ++ ix2) σ σ2 :=
  ⟨fun i hi => by rw [List.mem_append, not_or] at hi; exact (h2.1 i hi.2).trans (h.1 i hi.1), fun i hi => (h2.2 i hi).trans (h.2 i hi)⟩
def gT (K : PySem.W.Frag) (lk : List Nat) (t : Tg) : TG := fun v σ H Q => ∃ fr L x fr', SlOk σ fr ∧ Live K H ((v, x) :: (slots σ fr ++ L)) ∧ putTg lk t x fr = some fr' ∧
  ∀ σ', SlOk σ' fr' → Keep lk t.ixs σ σ' → Live K H (slots σ' fr' ++ L) → Q σ' H
def gTs (K : PySem.W.Frag) (lk : List Nat) (ts : List Tg) : TGs := fun vs σ H Q => ∃ fr L ds fr', vs.length = ds.length ∧ SlOk σ fr ∧ Live K H (vs.zip (ds.map Vl.fz) ++ (slots σ fr ++ L)) ∧ putTgs lk ts ds fr = some fr' ∧
  ∀ σ', SlOk σ' fr' → Keep lk (ixsL ts) σ σ' → Live K H (slots σ' fr' ++ L) → Q σ' H
section
variable {X : Cx} {G : Fs} {tg : Expr} {es : List Expr} {pos : Pos} {lk : List Nat}
theorem pg_mono {t t' : TG} (h : PG X tg t) (m : ∀ v σ H Q, t' v σ H Q → t v σ H Q) : PG X tg t' := ⟨fun pins s σ H v u Q hI r hq => h.run pins s σ H v u Q hI r (m v σ H Q hq)⟩
theorem pgs_mono {t t' : TGs} (h : PGs X es t) (m : ∀ v σ H Q, t' v σ H Q → t v σ H Q) : PGs X es t' := ⟨fun pins s σ H v u Q hI r hq => h.run pins s σ H v u Q hI r (m v σ H Q hq)⟩
theorem putTg_len {lk : List Nat} {i : Nat} {x : Vl} {fr fr' : Fm} (h : putTg lk (.n i) x fr = some fr') : i ∉ lk ∧ i < fr.length ∧ fr' = fr.set i (some x) := by
  unfold putTg at h
  split at h
  · cases h
  · rename_i c
    cases h
    simp only [Bool.or_eq_true, decide_eq_true_eq, not_or, List.contains_iff_mem] at c
    exact ⟨c.1, by omega, rfl⟩
theorem set_slots {K : PySem.W.Frag} {σ : St} {fr : Fm} {H : Hp} {L : List (V × Vl)} {v : V} {x : Vl} {i : Nat} (ok : SlOk σ fr) (hi : i < fr.length) (l : Live K H ((v, x) :: (slots σ fr ++ L))) : Live K H (slots (σ.set i (some v)) (fr.set i (some x)) ++ L) := by
  have h2 : Live K H ((v, x) :: (slots σ (fr.set i none) ++ L)) := by
    by_cases e : ∃ y, fr[i]? = some (some y)
    · obtain ⟨y, hy⟩ := e
      obtain ⟨w, hw⟩ := ok.has i y hy
      have l1 : Live K H ((w, y) :: ((v, x) :: (slots σ (fr.set i none) ++ L))) := by
        refine l.perm ?_
        refine (List.Perm.cons _ (List.Perm.append_right L (slots_at hw hy))).trans ?_
        exact List.Perm.swap _ _ _
      exact l1.tail
    · have hn : fr[i]? = some none := by
        have hg := List.getElem?_eq_getElem hi
        cases hc : fr[i] with
        | none => rw [hg, hc]
        | some y => exact (e ⟨y, by rw [hg, hc]⟩).elim
      rw [slots_none hn]
      exact l
  refine h2.perm ?_
  have := slots_set (σ := σ) (fr := fr) (v := v) (x := x) ok.len hi
  exact (List.Perm.append_right L this).symm
theorem g_n {i : Nat} (h : PG X tg (gName i)) : PG X tg (gT X.K lk (.n i)) := by
  refine pg_mono h fun v σ H Q q => ?_
  obtain ⟨fr, L, x, fr', ok, l, e, q⟩ := q
  obtain ⟨h1, h2, rfl⟩ := putTg_len e
  refine q _ (ok.set h2) ⟨fun j hj => ?_, fun j hj => ?_⟩ (set_slots ok h2 l)
  · have : i ≠ j := fun z => hj (by subst z; unfold Tg.ixs; exact List.mem_cons_self)
    rw [List.getElem?_set_ne this]
  · have : i ≠ j := fun z => h1 (z ▸ hj)
    rw [List.getElem?_set_ne this]
theorem gs_nil : PGs X [] (gTs X.K lk []) := by
  refine pgs_mono pgs_nil fun vs σ H Q q => ?_
  obtain ⟨fr, L, ds, fr', hl, ok, l, e, q⟩ := q
  cases ds with
  | nil =>
    cases vs with
    | nil =>
      unfold putTgs at e
      cases e
      exact ⟨rfl, q σ ok Keep.refl l⟩
    | cons _ _ => cases hl
  | cons _ _ => unfold putTgs at e; cases e
theorem gs_cons {t : Tg} {ts : List Tg} (h1 : PG X tg (gT X.K lk t)) (h2 : PGs X es (gTs X.K lk ts)) (hs : (assignEach (tg :: es) X.env).map (·.2) = assign tg X.env :: (assignEach es X.env).map (·.2)) : PGs X (tg :: es) (gTs X.K lk (t :: ts)) := by
  refine pgs_mono (pgs_cons h1 h2 hs) fun vs σ H Q q => ?_
  obtain ⟨fr, L, ds, fr', hl, ok, l, e, q⟩ := q
  cases ds with
  | nil => unfold putTgs at e; cases e
  | cons d ds =>
    cases vs with
    | nil => cases hl
    | cons v vs =>
      unfold putTgs at e
      obtain ⟨f1, e1, e2⟩ := bnd e
      refine ⟨v, vs, rfl, ?_⟩
      refine ⟨fr, vs.zip (ds.map Vl.fz) ++ L, .fz d, f1, ok, ?_, e1, fun σ1 ok1 k1 l1 => ?_⟩
      · have l0 : Live X.K H ((v, .fz d) :: (vs.zip (ds.map Vl.fz) ++ (slots σ fr ++ L))) := l
        exact l0.perm (List.Perm.cons _ (perm_mid _ _ _))
      · refine ⟨f1, L, ds, fr', by simpa using hl, ok1, l1.perm (perm_mid _ _ _), e2, fun σ2 ok2 k2 l2 => q σ2 ok2 ?_ l2⟩
        have := k1.trans k2
        unfold ixsL
        exact this
theorem g_t {ts : List Tg} {k : Nat} (hc : X.calm = true) (h : PGs X es (gTs X.K lk ts)) (hlen : es.length = ts.length) (hn : (assignEach es X.env).length = es.length) (hst : (assignEach es X.env).findIdx? (·.1) = none) : PG X (.Tuple es k pos) (gT X.K lk (.t ts)) := by
  refine pg_mono (pg_tup hc h hn hst) fun v σ H Q q => ?_
  obtain ⟨fr, L, x, fr', ok, l, e, q⟩ := q
  have e' : ∃ ds, x = .fz (.tuple ds) ∧ putTgs lk ts ds fr = some fr' := by
    cases x with
    | fz d =>
      cases d with
      | tuple ds => exact ⟨ds, rfl, by unfold putTg at e; exact e⟩
      | _ => unfold putTg at e; cases e
    | _ => unfold putTg at e; cases e
  obtain ⟨ds, rfl, e⟩ := e'
  obtain ⟨a, xs, rfl, hl, sq, l1⟩ := pin_tup l
  have plen : ∀ {ts : List Tg} {ds : List D} {fr fr' : Fm}, putTgs lk ts ds fr = some fr' → ts.length = ds.length := by
    intro ts
    induction ts with
    | nil =>
      intro ds fr fr' h
      cases ds with
      | nil => rfl
      | cons _ _ => unfold putTgs at h; cases h
    | cons t ts ih =>
      intro ds fr fr' h
      cases ds with
      | nil => unfold putTgs at h; cases h
      | cons d ds =>
        unfold putTgs at h
        obtain ⟨f1, e1, e2⟩ := bnd h
        rw [List.length_cons, List.length_cons, ih e2]
  refine ⟨a, xs, rfl, sq, by rw [hl, hlen, plen e], ?_⟩
  exact ⟨fr, L, ds, fr', hl, ok, l1.tail, e, fun σ' ok' k' l' => q σ' ok' (by unfold Tg.ixs at *; exact k') l'⟩

/-! ### the block's slots -/
theorem wipe_at {σ : St} {vs : List Nat} {i : Nat} : (L2.wipe σ vs)[i]? = if vs.contains i then σ[i]?.map (fun _ => none) else σ[i]? := by
  induction vs with
  | nil => simp [L2.wipe]
  | cons v vs ih =>
    unfold L2.wipe
    by_cases e : v = i
    · subst e
      have hc : (v :: vs).contains v = true := by simp
      rw [hc, if_pos rfl]
      by_cases hv : v < σ.length
      · rw [List.getElem?_set_self (by rw [wipe_length]; exact hv), List.getElem?_eq_getElem hv]
        rfl
      · rw [List.getElem?_eq_none (by rw [List.length_set, wipe_length]; omega), List.getElem?_eq_none (by omega)]
        rfl
    · rw [List.getElem?_set_ne e, ih]
      have : (v :: vs).contains i = vs.contains i := by
        rw [List.contains_cons]
        have : (i == v) = false := by simp; exact fun z => e z.symm
        rw [this, Bool.false_or]
      rw [this]
theorem wipeP_at {α : Type} {ws : List Nat} : ∀ {xs : List (Option α)} {k i : Nat}, (wipeP ws k xs)[i]? = if ws.contains (k + i) then xs[i]?.map (fun _ => none) else xs[i]?
  | [], k, i => by simp [wipeP]
  | x :: xs, k, 0 => by
    unfold wipeP
    simp only [List.getElem?_cons_zero, Nat.add_zero]
    cases ws.contains k <;> rfl
  | x :: xs, k, i + 1 => by
    unfold wipeP
    simp only [List.getElem?_cons_succ]
    rw [wipeP_at (xs := xs) (k := k + 1) (i := i)]
    have : k + 1 + i = k + (i + 1) := by omega
    rw [this]
theorem wipe_eq {σ : St} {vs : List Nat} : L2.wipe σ vs = wipeP vs 0 σ := by
  refine List.ext_getElem? fun i => ?_
  rw [wipe_at, wipeP_at, Nat.zero_add]
theorem mix_self {α : Type} {ws : List Nat} : ∀ {xs : List (Option α)} {k : Nat}, mixP ws k xs xs = xs
  | [], _ => rfl
  | x :: xs, k => by
    unfold mixP
    rw [mix_self]
    split <;> rfl
theorem slots_mix {ws : List Nat} : ∀ {σ : St} {old g : Fm} {k : Nat}, old.length = g.length → (slots σ (mixP ws k old g)).Perm (slots σ (keepP ws k old) ++ slots (wipeP ws k σ) (wipeP ws k g))
  | [], old, g, k, _ => by
    cases old <;> cases g <;> simp [slots, mixP, keepP, wipeP]
  | s :: σ, [], [], k, _ => by simp [slots, mixP, keepP, wipeP]
  | s :: σ, [], _ :: _, k, e => by cases e
  | s :: σ, _ :: _, [], k, e => by cases e
  | s :: σ, a :: old, b :: g, k, e => by
    have ih := slots_mix (ws := ws) (σ := σ) (old := old) (g := g) (k := k + 1) (by simpa using e)
    unfold mixP keepP wipeP
    cases ws.contains k with
    | true =>
      cases s with
      | none =>
        cases a <;> cases b <;> simpa [slots] using ih
      | some v =>
        cases a with
        | none => cases b <;> simpa [slots] using ih
        | some x => cases b <;> simpa [slots] using ih.cons (v, x)
    | false =>
      cases s with
      | none => cases a <;> cases b <;> simpa [slots] using ih
      | some v =>
        cases b with
        | none => cases a <;> simpa [slots] using ih
        | some y =>
          have := (ih.cons (v, y)).trans List.perm_middle.symm
          cases a <;> simpa [slots] using this
theorem wipeP_len {α : Type} {ws : List Nat} : ∀ {xs : List (Option α)} {k : Nat}, (wipeP ws k xs).length = xs.length
  | [], _ => rfl
  | x :: xs, k => by unfold wipeP; rw [List.length_cons, List.length_cons, wipeP_len]
theorem mixP_len {α : Type} {ws : List Nat} : ∀ {xs ys : List (Option α)} {k : Nat}, xs.length = ys.length → (mixP ws k xs ys).length = ys.length
  | [], [], _, _ => rfl
  | [], _ :: _, _, e => by cases e
  | _ :: _, [], _, e => by cases e
  | x :: xs, y :: ys, k, e => by unfold mixP; rw [List.length_cons, List.length_cons, mixP_len (by simpa using e)]
theorem mixP_at {α : Type} {ws : List Nat} : ∀ {xs ys : List (Option α)} {k i : Nat}, xs.length = ys.length → (mixP ws k xs ys)[i]? = if ws.contains (k + i) then xs[i]? else ys[i]?
  | [], [], k, i, _ => by simp [mixP]
  | [], _ :: _, _, _, e => by cases e
  | _ :: _, [], _, _, e => by cases e
  | x :: xs, y :: ys, k, 0, e => by
    unfold mixP
    simp only [List.getElem?_cons_zero, Nat.add_zero]
    cases ws.contains k <;> rfl
  | x :: xs, y :: ys, k, i + 1, e => by
    unfold mixP
    simp only [List.getElem?_cons_succ]
    rw [mixP_at (by simpa using e)]
    have : k + 1 + i = k + (i + 1) := by omega
    rw [this]
theorem SlOk.wipe {σ : St} {fr : Fm} (h : SlOk σ fr) (ws : List Nat) : SlOk (L2.wipe σ ws) (wipeF fr ws) := by
  rw [wipe_eq]
  refine ⟨by unfold wipeF; rw [wipeP_len, wipeP_len]; exact h.len, fun i x e => ?_⟩
  unfold wipeF at e
  rw [wipeP_at] at e ⊢
  split at e
  · rename_i hc
    rw [Option.map_eq_some_iff] at e
    obtain ⟨_, _, e⟩ := e
    cases e
  · rename_i hc
    rw [if_neg hc]
    exact h.has i x e
theorem SlOk.unwipe {σ : St} {fr g : Fm} {ws : List Nat} (h : SlOk σ fr) (h2 : SlOk (L2.wipe σ ws) (wipeF g ws)) (hl : fr.length = g.length) : SlOk σ (Tr.unwipe fr g ws) := by
  rw [wipe_eq] at h2
  refine ⟨by unfold Tr.unwipe; rw [mixP_len hl, h.len, hl], fun i x e => ?_⟩
  unfold Tr.unwipe at e
  rw [mixP_at hl, Nat.zero_add] at e
  split at e
  · exact h.has i x e
  · rename_i hc
    have := h2.has i x (by unfold wipeF; rw [wipeP_at, Nat.zero_add, if_neg hc]; exact e)
    obtain ⟨v, hv⟩ := this
    rw [wipeP_at, Nat.zero_add, if_neg hc] at hv
    exact ⟨v, hv⟩
theorem slots_split {σ : St} {fr : Fm} (ws : List Nat) : (slots σ fr).Perm (slots σ (keepP ws 0 fr) ++ slots (L2.wipe σ ws) (wipeF fr ws)) := by
  have := slots_mix (ws := ws) (σ := σ) (old := fr) (g := fr) (k := 0) rfl
  rw [mix_self] at this
  rw [wipe_eq]
  exact this
theorem slots_unwipe {σ : St} {fr g : Fm} (ws : List Nat) (hl : fr.length = g.length) : (slots σ (Tr.unwipe fr g ws)).Perm (slots σ (keepP ws 0 fr) ++ slots (L2.wipe σ ws) (wipeF g ws)) := by
  rw [wipe_eq]
  exact slots_mix hl
end
end Tr

set_option Elab.async false
set_option linter.all false
set_option maxRecDepth 100000
set_option maxHeartbeats 1000000
/-! Comprehensions. -/
namespace Tr
open PySem PySem.Spec PyProof.Rows L2
theorem putTg_flen : ∀ {n : Nat} {lk : List Nat}, (∀ {t : Tg} {x : Vl} {fr fr' : Fm}, sizeOf t ≤ n → putTg lk t x fr = some fr' → fr'.length = fr.length) ∧ (∀ {ts : List Tg} {ds : List D} {fr fr' : Fm}, sizeOf ts ≤ n → putTgs lk ts ds fr = some fr' → fr'.length = fr.length) := by
  intro n lk
  induction n with
  | zero =>
    refine ⟨fun {t x fr fr'} hs h => ?_, fun {ts ds fr fr'} hs h => ?_⟩
    · cases t <;> simp at hs
    · cases ts <;> simp at hs
  | succ n ih =>
    obtain ⟨ih1, ih2⟩ := ih
    refine ⟨fun {t x fr fr'} hs h => ?_, fun {ts ds fr fr'} hs h => ?_⟩
    · cases t with
      | n i =>
        obtain ⟨_, _, rfl⟩ := putTg_len h
        exact List.length_set
      | t ts =>
        simp at hs
        cases x with
        | fz d =>
          cases d with
          | tuple ds => unfold putTg at h; exact ih2 (by omega) h
          | _ => unfold putTg at h; cases h
        | _ => unfold putTg at h; cases h
    · cases ts with
      | nil =>
        cases ds with
        | nil => unfold putTgs at h; cases h; rfl
        | cons _ _ => unfold putTgs at h; cases h
      | cons t ts =>
        simp at hs
        cases ds with
        | nil => unfold putTgs at h; cases h
        | cons d ds =>
          unfold putTgs at h
          obtain ⟨f1, e1, e2⟩ := bnd h
          rw [ih2 (by omega) e2, ih1 (by omega) e1]
def turnC (G : Fs) (elt : E) (tg : Tg) (cond : Option E) (ws : List Nat) : D → Fm → R (Option Vl) := fun d fr1 =>
  (putTg [] tg (.fz d) (wipeF fr1 ws)).bind fun fr2 => (truO G cond fr2).bind fun t => if t.1 then (ev G elt t.2).bind fun p => (force p.1 p.2).map fun x => (some x.1, x.2) else some (none, t.2)
theorem ev_comp {G : Fs} {elt : E} {tg : Tg} {it : It} {cond : Option E} {ws : List Nat} {fr fr' : Fm} {p : Pd} (h : ev G (.comp elt tg it cond ws false) fr = some (p, fr')) :
    ∃ ds f1 xs f2, its G it fr = some (ds, f1) ∧ compN (turnC G elt tg cond ws) ds f1 = some (xs, f2) ∧ okSz xs.length = true ∧ p = .st (.ol (froz xs)) ∧ fr' = unwipe f1 f2 ws := by
  unfold ev at h
  obtain ⟨⟨ds, f1⟩, e1, h⟩ := bnd h
  obtain ⟨⟨xs, f2⟩, e2, h⟩ := bnd h
  obtain ⟨c, h⟩ := ite_o h
  rw [if_neg (by decide)] at h
  cases h
  exact ⟨ds, f1, xs, f2, e1, e2, c, rfl, rfl⟩
section
variable {X : Cx} {G : Fs} {e' : E} {tg' : Tg} {it : It} {cond : Option E} {ws : List Nat}
theorem comp_core {σ : St} {H : Hp} {Q : VK} (hws : ∀ i ∈ tg'.ixs, i ∈ ws) (h : tE X G (.comp e' tg' it cond ws false) σ H Q) : tLc (tI X G it) (gT X.K [] tg') (tB' X.K (truO G cond)) (tP X.K (ev G e')) ws σ H Q := by
  obtain ⟨fr, L, p, fr', ok, l, ee, q⟩ := h
  obtain ⟨ds, f1, xs, f2, e1, e2, sz, rfl, rfl⟩ := ev_comp ee
  refine ⟨fr, L, ds, f1, ok, l, e1, fun J H1 A ok1 l1 wk D hD => ?_⟩
  let SW : Fm → List (V × Vl) := fun g => slots (L2.wipe σ ws) (wipeF g ws)
  let W0 := slots σ (keepP ws 0 f1)
  let Pv : Nat → Hp → Prop := fun i H => ∃ (fi : Fm) (acc rest : List Vl), fi.length = f1.length ∧ SlOk (L2.wipe σ ws) (wipeF fi ws) ∧ Live X.K H ((.ref D, .ol (froz acc)) :: (A ++ (SW fi ++ (W0 ++ L)))) ∧
    compN (turnC G e' tg' cond ws) (ds.drop i) fi = some (rest, f2) ∧ xs = acc ++ rest
  refine ⟨fun i m H => m = ds.length - i ∧ i ≤ ds.length ∧ Pv i H, ⟨ds.length, by simp, Nat.zero_le _, f1, [], xs, rfl, ok1.wipe ws, ?_, e2, rfl⟩, ?_⟩
  · refine Live.newLst (vs := []) (ds := []) rfl (l1.perm ?_) hD
    refine List.Perm.append_left A ?_
    refine (List.Perm.append_right L (slots_split ws)).trans ?_
    show (W0 ++ SW f1 ++ L).Perm (SW f1 ++ (W0 ++ L))
    rw [List.append_assoc]
    exact perm_mid _ _ _
  · rintro i m H ⟨rfl, hi, fi, acc, rest, hlen, okw, lv, ec, ex⟩
    have lvA : Live X.K H (A ++ ((.ref D, .ol (froz acc)) :: (SW fi ++ (W0 ++ L)))) := lv.perm (zip_perm_mid _ _ _)
    by_cases hlt : i < ds.length
    · have hd : ds[i]? = some ds[i] := List.getElem?_eq_getElem hlt
      have hdrop : ds.drop i = ds[i] :: ds.drop (i + 1) := List.drop_eq_getElem_cons hlt
      rw [hdrop] at ec
      unfold compN at ec
      obtain ⟨⟨o, f3⟩, e3, ec⟩ := bnd ec
      obtain ⟨⟨rest', f4⟩, e4, ec⟩ := mpd ec
      have eff := (Prod.mk.inj ec).2
      have ers := (Prod.mk.inj ec).1
      dsimp only at eff ers
      subst eff
      unfold turnC at e3
      obtain ⟨g1, e5, e3⟩ := bnd e3
      obtain ⟨⟨b, g2⟩, e6, e3⟩ := bnd e3
      refine .inr ⟨wk.go i H _ hlt lvA, Pv (i + 1), fun H' p' => ⟨ds.length - (i + 1), by omega, rfl, hlt, p'⟩, fun x H' y => ?_⟩
      have l2 := wk.yld i H x H' _ _ hd lvA y
      let Rest := A ++ ((.ref D, .ol (froz acc)) :: (W0 ++ L))
      have l3 : Live X.K H' ((x, .fz ds[i]) :: (slots (L2.wipe σ ws) (wipeF fi ws) ++ Rest)) := by
        refine l2.perm (List.Perm.cons _ ?_)
        show (A ++ ((.ref D, .ol (froz acc)) :: (SW fi ++ (W0 ++ L)))).Perm (SW fi ++ (A ++ ((.ref D, .ol (froz acc)) :: (W0 ++ L))))
        refine List.Perm.trans ?_ (perm_mid A (SW fi) _)
        exact List.Perm.append_left A (zip_perm_mid _ _ _)
      refine ⟨wipeF fi ws, Rest, .fz ds[i], g1, okw, l3, e5, fun σ2 ok2 kp l4 => ?_⟩
      have len2 : σ2.length = σ.length := by
        rw [ok2.len, (putTg_flen (n := sizeOf tg') (lk := [])).1 (Nat.le_refl _) e5]
        unfold wipeF
        rw [wipeP_len, hlen, ← ok1.len]
      have wsame : L2.wipe σ2 ws = L2.wipe σ ws := by
        refine List.ext_getElem? fun j => ?_
        rw [wipe_at, wipe_at]
        cases hj : ws.contains j with
        | true =>
          rw [if_pos rfl, if_pos rfl]
          by_cases hjl : j < σ.length
          · rw [List.getElem?_eq_getElem hjl, List.getElem?_eq_getElem (by omega)]
            rfl
          · rw [List.getElem?_eq_none (by omega), List.getElem?_eq_none (by omega)]
        | false =>
          rw [if_neg (by decide), if_neg (by decide)]
          have hn : j ∉ tg'.ixs := fun z => by
            have := hws j z
            rw [← List.contains_iff_mem] at this
            rw [hj] at this; cases this
          rw [kp.1 j hn, wipe_at, hj, if_neg (by decide)]
      have again : ∀ {g : Fm} {acc' : List Vl} {H4 : Hp}, SlOk σ2 g → Live X.K H4 ((.ref D, .ol (froz acc')) :: (slots σ2 g ++ (A ++ (W0 ++ L)))) → compN (turnC G e' tg' cond ws) (ds.drop (i + 1)) g = some (rest', f4) → xs = acc' ++ rest' → Pv (i + 1) H4 := fun {g acc' H4} okg lg eg exx => by
        refine ⟨g, acc', rest', ?_, ?_, ?_, eg, exx⟩
        · rw [← okg.len, len2, ok1.len]
        · rw [← wsame]; exact okg.wipe ws
        · have lk : Live X.K H4 (slots σ2 (keepP ws 0 g) ++ ((.ref D, .ol (froz acc')) :: (A ++ (SW g ++ (W0 ++ L))))) := by
            refine lg.perm ?_
            refine (List.Perm.cons _ (List.Perm.append_right _ (slots_split ws))).trans ?_
            rw [wsame]
            show ((.ref D, .ol (froz acc')) :: ((slots σ2 (keepP ws 0 g) ++ SW g) ++ (A ++ (W0 ++ L)))).Perm _
            rw [List.append_assoc]
            refine List.Perm.trans ?_ (zip_perm_mid _ _ _)
            exact List.Perm.cons _ (List.Perm.append_left _ (perm_mid _ _ _))
          exact lk.right
      refine ⟨wsame, g1, Rest, b, g2, ok2, l4, e6, fun H3 ok3 l5 => ?_⟩
      cases b with
      | false =>
        rw [if_neg Bool.false_ne_true] at e3 ⊢
        cases e3
        refine again ok3 (l5.perm ?_) e4 (by rw [ex, ← ers])
        show (slots σ2 g2 ++ (A ++ ((.ref D, .ol (froz acc)) :: (W0 ++ L)))).Perm _
        refine (List.Perm.append_left _ (zip_perm_mid _ _ _).symm).trans (zip_perm_mid _ _ _).symm
      | true =>
        rw [if_pos rfl] at e3 ⊢
        obtain ⟨⟨p2, g3⟩, e7, e3⟩ := bnd e3
        obtain ⟨⟨x', g4⟩, e8, e3⟩ := mpd e3
        cases e3
        refine ⟨g2, Rest, p2, g3, ok3, l5, e7, fun y H4 ok4 o4 => ?_⟩
        obtain ⟨ok5, l6⟩ := o4.force ok4 e8
        have l7 := l6.freeze (force_own e8)
        have l8 : Live X.K H4 ((.ref D, .ol (froz acc)) :: ([y].zip ([x'.strip].map Vl.fz) ++ (slots σ2 g4 ++ (A ++ (W0 ++ L))))) := by
          refine l7.perm ?_
          show ((y, .fz x'.strip) :: (slots σ2 g4 ++ (A ++ ((.ref D, .ol (froz acc)) :: (W0 ++ L))))).Perm ((.ref D, .ol (froz acc)) :: (y, .fz x'.strip) :: (slots σ2 g4 ++ (A ++ (W0 ++ L))))
          refine (List.Perm.cons _ ?_).trans (List.Perm.swap _ _ _)
          exact (List.Perm.append_left _ (zip_perm_mid _ _ _).symm).trans (zip_perm_mid _ _ _).symm
        obtain ⟨xd, hH, hxl, wr⟩ := l8.write (ds' := froz (acc ++ [x'])) rfl
        have ers' : x' :: rest' = rest := ers
        refine ⟨xd, hH, ?_, ?_⟩
        · rw [hxl, froz_len]
          have z := szOk sz
          rw [ex, ← ers', List.length_append, List.length_cons] at z
          omega
        · refine again ok5 (wr (xd ++ [y]) fun F r1 r2 => ?_) e4 (by rw [ex, ← ers', List.append_assoc, List.singleton_append])
          have : froz (acc ++ [x']) = froz acc ++ [x'.strip] := by unfold froz; rw [List.map_append]; rfl
          rw [this]
          exact r1.append r2
    · have ei : i = ds.length := by omega
      subst ei
      rw [List.drop_length] at ec
      unfold compN at ec
      cases ec
      rw [List.append_nil] at ex
      subst ex
      refine .inl ⟨wk.stop H _ lvA, q _ H (ok1.unwipe okw hlen.symm) (hold1 (lvA.right.perm (List.Perm.cons _ ?_)))⟩
      refine List.Perm.trans ?_ (List.Perm.append_right L (slots_unwipe ws hlen.symm)).symm
      show (SW f2 ++ (W0 ++ L)).Perm (W0 ++ SW f2 ++ L)
      rw [List.append_assoc]
      exact perm_mid _ _ _
end
end Tr

set_option Elab.async false
set_option linter.all false
set_option maxRecDepth 100000
set_option maxHeartbeats 1000000
/-! Statements. -/
namespace Tr
open PySem PySem.Spec PyProof.Rows L2
def KeepL (lk : List Nat) (σ σ' : St) : Prop := ∀ i ∈ lk, σ'[i]? = σ[i]?
theorem KeepL.refl {lk : List Nat} {σ : St} : KeepL lk σ σ := fun _ _ => rfl
theorem KeepL.trans {lk : List Nat} {σ σ1 σ2 : St} (h : KeepL lk σ σ1) (h2 : KeepL lk σ1 σ2) : KeepL lk σ σ2 := fun i hi => (h2 i hi).trans (h i hi)
theorem KeepL.set {lk : List Nat} {σ : St} {i : Nat} {o : Option V} (h : i ∉ lk) : KeepL lk σ (σ.set i o) := fun j hj => by
  have : i ≠ j := fun z => h (z ▸ hj)
  rw [List.getElem?_set_ne this]
def endS (K : PySem.W.Frag) (lk : List Nat) (D : Ends) (σ : St) (L : List (V × Vl)) (r : Sg) (fr' : Fm) : Prop := ∀ σ' H', SlOk σ' fr' → KeepL lk σ σ' → (match r with
  | .nx => Live K H' (slots σ' fr' ++ L) → D.nx σ' H'
  | .rt x => ∀ v, Live K H' ((v, x) :: (slots σ' fr' ++ L)) → D.rt v H')
def tS (K : PySem.W.Frag) (lk : List Nat) (f : Fm → R Sg) : TS := fun D σ H => ∃ fr L r fr', SlOk σ fr ∧ Live K H (slots σ fr ++ L) ∧ f fr = some (r, fr') ∧ endS K lk D σ L r fr'
section
variable {X : Cx} {G : Fs} {lk : List Nat} {st : Stmt} {sts : List Stmt} {c e : Expr} {i j : E} {s : S} {ss : List S} {pos : Pos}
abbrev tSt (X : Cx) (G : Fs) (lk : List Nat) (s : S) : TS := tS X.K lk (Tr.exec G lk s)
abbrev tSs (X : Cx) (G : Fs) (lk : List Nat) (ss : List S) : TS := tS X.K lk (Tr.execs G lk ss)
theorem x_nop (h : PS X st tNext) : PS X st (tSt X G lk .nop) := by
  refine ps_mono h fun D σ H q => ?_
  obtain ⟨fr, L, r, fr', ok, l, ee, q⟩ := q
  unfold Tr.exec at ee
  cases ee
  exact q σ H ok KeepL.refl l
theorem x_stop : PS X st (tSt X G lk .stop) := by
  refine ps_mono ps_never fun D σ H q => ?_
  obtain ⟨fr, L, r, fr', ok, l, ee, q⟩ := q
  unfold Tr.exec at ee
  cases ee
theorem xs_nil : PSs X [] (tSs X G lk []) := by
  refine pss_mono pss_nil fun D σ H q => ?_
  obtain ⟨fr, L, r, fr', ok, l, ee, q⟩ := q
  unfold Tr.execs at ee
  cases ee
  exact q σ H ok KeepL.refl l
theorem xs_cons (h1 : PS X st (tSt X G lk s)) (h2 : PSs X sts (tSs X G lk ss)) : PSs X (st :: sts) (tSs X G lk (s :: ss)) := by
  refine pss_mono (pss_cons h1 h2) fun D σ H q => ?_
  obtain ⟨fr, L, r, fr', ok, l, ee, q⟩ := q
  unfold Tr.execs at ee
  obtain ⟨⟨r1, f1⟩, e1, ee⟩ := bnd ee
  refine ⟨fr, L, r1, f1, ok, l, e1, fun σ1 H1 ok1 k1 => ?_⟩
  cases r1 with
  | nx => exact fun l1 => ⟨f1, L, r, fr', ok1, l1, ee, fun σ2 H2 ok2 k2 => q σ2 H2 ok2 (k1.trans k2)⟩
  | rt x =>
    cases ee
    exact fun v l1 => q σ1 H1 ok1 k1 v l1
theorem x_exp (he : PE X e (tE X G i)) (hs : swapsWith e none pos.line X.env = pure false) : PS X (.Expr e pos) (tSt X G lk (.exp i)) := by
  refine ps_mono (ps_expr he hs) fun D σ H q => ?_
  obtain ⟨fr, L, r, fr', ok, l, ee, q⟩ := q
  unfold Tr.exec at ee
  obtain ⟨⟨p1, f1⟩, e1, ee⟩ := mpd ee
  cases ee
  exact ⟨fr, L, p1, f1, ok, l, e1, fun v H1 ok1 o => q σ H1 ok1 KeepL.refl o.live⟩
theorem x_ret (he : PE X e (tE X G i)) : PS X (.Return (some e) pos) (tSt X G lk (.ret i)) := by
  refine ps_mono (ps_ret he) fun D σ H q => ?_
  obtain ⟨fr, L, r, fr', ok, l, ee, q⟩ := q
  unfold Tr.exec at ee
  obtain ⟨⟨p1, f1⟩, e1, ee⟩ := bnd ee
  obtain ⟨⟨x, f2⟩, e2, ee⟩ := mpd ee
  cases ee
  refine ⟨fr, L, p1, f1, ok, l, e1, fun v H1 ok1 o => ?_⟩
  obtain ⟨ok2, l2⟩ := o.force ok1 e2
  exact q σ H1 ok2 KeepL.refl v l2
theorem x_retv {n : Nat} (he : PE X e (tVar n)) : PS X (.Return (some e) pos) (tSt X G lk (.retv n)) := by
  refine ps_mono (ps_ret he) fun D σ H q => ?_
  obtain ⟨fr, L, r, fr', ok, l, ee, q⟩ := q
  unfold Tr.exec at ee
  split at ee
  · rename_i x hx
    split at ee
    · cases ee
    · cases ee
      obtain ⟨v, hv⟩ := ok.has _ _ hx
      exact ⟨v, hv, q σ H (ok.drop n) KeepL.refl v (l.perm (List.Perm.append_right L (slots_at hv hx)))⟩
  · cases ee
theorem x_retN : PS X (.Return none pos) (tSt X G lk .retN) := by
  refine ps_mono ps_retN fun D σ H q => ?_
  obtain ⟨fr, L, r, fr', ok, l, ee, q⟩ := q
  unfold Tr.exec at ee
  cases ee
  exact q σ H ok KeepL.refl .non (l.scal rfl)
theorem x_iff {a b : List Stmt} {sa sb : List S} (hc : PT X c (tT X G i)) (ha : PSs X a (tSs X G lk sa)) (hb : PSs X b (tSs X G lk sb)) : PS X (.If c a b pos) (tSt X G lk (.iff i sa sb)) := by
  refine ps_mono (ps_if hc ha hb) fun D σ H q => ?_
  obtain ⟨fr, L, r, fr', ok, l, ee, q⟩ := q
  unfold Tr.exec at ee
  obtain ⟨⟨b1, f1⟩, e1, ee⟩ := bnd ee
  refine ⟨fr, L, b1, f1, ok, l, e1, fun H1 ok1 l1 => ?_⟩
  cases b1 with
  | true => exact ⟨f1, L, r, fr', ok1, l1, ee, q⟩
  | false => exact ⟨f1, L, r, fr', ok1, l1, ee, q⟩
/-- target = value, by readings -/
theorem asg_core {t : Tg} {te : TE} {D : Ends} {σ : St} {H : Hp} (hte : ∀ Q, tE X G i σ H Q → te σ H Q) (h : tSt X G lk (.asg t i) D σ H) : tAsg te (gT X.K lk t) D σ H := by
  obtain ⟨fr, L, r, fr', ok, l, ee, q⟩ := h
  unfold Tr.exec at ee
  obtain ⟨⟨p1, f1⟩, e1, ee⟩ := bnd ee
  obtain ⟨⟨x, f2⟩, e2, ee⟩ := bnd ee
  obtain ⟨f3, e3, ee⟩ := mpd ee
  cases ee
  refine hte _ ⟨fr, L, p1, f1, ok, l, e1, fun v H1 ok1 o => ?_⟩
  obtain ⟨ok2, l2⟩ := o.force ok1 e2
  exact ⟨f2, L, x, fr', ok2, l2, e3, fun σ' ok' k' l' => q σ' H1 ok' k'.2 l'⟩
theorem x_asg {tg : Expr} {t : Tg} (he : PE X e (tE X G i)) (hg : PG X tg (gT X.K lk t)) (hs : swapsWithSole [tg] e pos.line X.env = pure false) (hw : swappedStores [tg] e X.env = pure none) (h1 : (assignEach [tg] X.env).map (·.2) = [assign tg X.env]) :
    PS X (.Assign [tg] e pos) (tSt X G lk (.asg t i)) := ps_mono (ps_asg he hg hs hw h1) fun D σ H q => asg_core (fun Q z => z) q
/-! several names at once -/
def setAll : St → List Nat → List V → St
  | σ, i :: is, v :: vs => setAll (σ.set i (some v)) is vs
  | σ, _, _ => σ
def tParN (ix : List Nat) (ta : TA) : TS := fun D σ H => ta σ H fun vs H1 => vs.length = ix.length ∧ ∀ H2, Same H1 H2 → D.nx (setAll σ ix vs) H2
theorem putV_ok {K : PySem.W.Frag} {L : List (V × Vl)} {H : Hp} : ∀ {ix : List Nat} {vs : List V} {xs : List Vl} {fr fr' : Fm} {σ : St}, vs.length = xs.length → SlOk σ fr → Live K H (vs.zip xs ++ (slots σ fr ++ L)) → putTgsV lk ix xs fr = some fr' →
    vs.length = ix.length ∧ SlOk (setAll σ ix vs) fr' ∧ KeepL lk σ (setAll σ ix vs) ∧ Live K H (slots (setAll σ ix vs) fr' ++ L)
  | [], vs, [], fr, fr', σ, hl, ok, l, e => by
    unfold putTgsV at e
    cases e
    cases vs with
    | nil => exact ⟨rfl, ok, KeepL.refl, l⟩
    | cons _ _ => cases hl
  | [], vs, _ :: _, fr, fr', σ, hl, ok, l, e => by unfold putTgsV at e; cases e
  | _ :: _, vs, [], fr, fr', σ, hl, ok, l, e => by unfold putTgsV at e; cases e
  | n :: ix, [], x :: xs, fr, fr', σ, hl, ok, l, e => by cases hl
  | n :: ix, v :: vs, x :: xs, fr, fr', σ, hl, ok, l, e => by
    unfold putTgsV at e
    obtain ⟨f1, e1, e2⟩ := bnd e
    obtain ⟨h1, h2, rfl⟩ := putTg_len e1
    have l0 : Live K H ((v, x) :: (slots σ fr ++ (vs.zip xs ++ L))) := by
      have l : Live K H ((v, x) :: (vs.zip xs ++ (slots σ fr ++ L))) := l
      exact l.perm (List.Perm.cons _ (perm_mid _ _ _))
    have l1 := set_slots ok h2 l0
    obtain ⟨q1, q2, q3, q4⟩ := putV_ok (by simpa using hl) (ok.set (v := v) h2) (l1.perm (perm_mid _ _ _)) e2
    exact ⟨by simp [q1], q2, (KeepL.set h1).trans q3, q4⟩
theorem x_par {ix : List Nat} {is : List E} (h : PS X st (tParN ix (tGs X G is))) : PS X st (tSt X G lk (.par ix is)) := by
  refine ps_mono h fun D σ H q => ?_
  obtain ⟨fr, L, r, fr', ok, l, ee, q⟩ := q
  unfold Tr.exec at ee
  obtain ⟨⟨xs, f1⟩, e1, ee⟩ := bnd ee
  obtain ⟨c, ee⟩ := ite_o ee
  obtain ⟨f2, e2, ee⟩ := mpd ee
  cases ee
  refine ⟨fr, L, xs, f1, ok, l, e1, fun vs H1 ok1 hl l1 => ?_⟩
  obtain ⟨q1, q2, q3, q4⟩ := putV_ok (lk := lk) hl ok1 l1 e2
  exact ⟨q1, fun H2 sm => q _ H2 q2 q3 (q4.same sm)⟩
/-- d[k] = v -/
def rSetDc (K : PySem.W.Frag) : V → V → V → Hp → (Hp → Prop) → Prop := fun o i v H Q => ∃ a kvs k d L, o = .ref a ∧ kfit kvs k = true ∧ kvs.length ≤ sizeLine ∧ Live K H ((.ref a, .od kvs) :: (([v, i].zip ([d, k].map Vl.fz)) ++ L)) ∧ ∀ H', Live K H' ((.ref a, .od (dput kvs k d)) :: L) → Q H'
def rSetX (K : PySem.W.Frag) : V → V → V → Hp → (Hp → Prop) → Prop := fun o i v H Q => rSetL o i v H Q ∨ rSetDc K o i v H Q
theorem set_x (hu : X.A.units + 70 < cLine) : PSet X (rSetX X.K) := by
  intro pins s σ H o i v ov iv u Q I ro ri rv h
  rcases h with h | ⟨a, kvs, k, d, L, rfl, c, hz, l, q⟩
  · exact set_list pins s σ H o i v ov iv u Q I ro ri rv h
  · cases ro
    obtain ⟨ob, ks, vs, da, ⟨F, r1, r2, r3⟩, wr⟩ := l.dwrite rfl
    cases r3 with
    | cons r3 r4 =>
      cases r4 with
      | cons r4 _ =>
        refine md_set (d := d) (by omega) I da r1 r4 ri rv c hz fun o' ks' vs' s' hd I' pu => ⟨_, I', q _ (wr o' ks' vs' hd (dput_nodup da.nd) fun F h1 h2 h3 => ?_)⟩
        cases h3 with
        | cons h3 h4 =>
          cases h4 with
          | cons h4 _ => exact pu _ _ _ h1 h2 h4 h3
/-- xs[i] = v -/
theorem x_sidx {n : Nat} {a b : Expr} {p : Pos} (hu : X.A.units + 70 < cLine) (ho : PE X a (tVar n)) (hi : PE X b (tE X G i)) (he : PE X e (tE X G j))
    (ha : ∀ v, assign (.Subscript a b p) X.env v = (do
      let ov ← holding [v] (eval a X.env)
      let iv ← holding [v, ov] (eval b X.env)
      standAt p
      holding [v, ov, iv] (setItem ov iv v)
      release [v, ov, iv] []))
    (hs : swapsWithSole [.Subscript a b p] e pos.line X.env = pure false) (hw : swappedStores [.Subscript a b p] e X.env = pure none) (h1 : (assignEach [.Subscript a b p] X.env).map (·.2) = [assign (.Subscript a b p) X.env]) :
    PS X (.Assign [.Subscript a b p] e pos) (tSt X G lk (.sidx n i j)) := by
  refine ps_mono (ps_asg he (pg_sub ho hi (set_x hu) ha) hs hw h1) fun D σ H q => ?_
  obtain ⟨fr, L, r, fr', ok, l, ee, q⟩ := q
  unfold Tr.exec at ee
  obtain ⟨⟨p1, f1⟩, e1, ee⟩ := bnd ee
  obtain ⟨⟨x, f2⟩, e2, ee⟩ := bnd ee
  dsimp only at ee
  split at ee
  · rename_i ds0 h0
    obtain ⟨⟨p2, f3⟩, e3, ee⟩ := bnd ee
    dsimp only at ee
    split at ee
    · rename_i k ds hk hd
      obtain ⟨m, e4, ee⟩ := mpd ee
      cases ee
      refine ⟨fr, L, p1, f1, ok, l, e1, fun v H1 ok1 o => ?_⟩
      obtain ⟨ok2, l2⟩ := o.force ok1 e2
      obtain ⟨w, hw'⟩ := ok2.has _ _ h0
      have l3 := l2.freeze (force_own e2)
      refine ⟨w, hw', f2, (v, .fz x.strip) :: L, p2, f3, ok2, l3.perm (zip_perm_mid _ _ _), e3, fun iv H3 ok3 o3 => ?_⟩
      have o4 := o3.look1 hk
      obtain ⟨F, r1⟩ := o4.one
      have := r1.int
      subst this
      have l4 : Live X.K H3 ((w, .ol ds) :: (([v].zip ([x.strip].map Vl.fz)) ++ (slots σ (f3.set n none) ++ L))) := by
        refine o3.live.perm ?_
        refine (List.Perm.append_right _ (slots_at hw' hd)).trans ?_
        exact List.Perm.cons _ (zip_perm_mid _ _ _).symm
      obtain ⟨aa, rfl⟩ : ∃ aa, w = .ref aa := by
        obtain ⟨fs, nd, rr⟩ := l4
        cases rr with
        | cons z _ => cases z; exact ⟨_, rfl⟩
      obtain ⟨xd, hH, hxl, wr⟩ := l4.write (ds' := ds.set m x.strip) rfl
      refine .inl ⟨aa, xd, k, m, rfl, rfl, hH, by rw [hxl]; exact e4, ?_⟩
      have hn : n < f3.length := (List.getElem?_eq_some_iff.mp hd).1
      refine q σ _ (ok3.put hw') KeepL.refl ?_
      refine (wr (xd.set m v) fun F r1 r2 => ?_).perm ?_
      · cases r2 with
        | cons r3 _ => exact r1.set r3 m
      · exact (List.Perm.append_right L (slots_put hw' hn)).symm
    · cases ee
  · rename_i kvs0 h0
    obtain ⟨⟨p2, f3⟩, e3, ee⟩ := bnd ee
    dsimp only at ee
    split at ee
    · rename_i k kvs hk hd
      obtain ⟨c, ee⟩ := ite_some ee
      cases ee
      rw [Bool.and_eq_true, decide_eq_true_eq] at c
      refine ⟨fr, L, p1, f1, ok, l, e1, fun v H1 ok1 o => ?_⟩
      obtain ⟨ok2, l2⟩ := o.force ok1 e2
      obtain ⟨w, hw'⟩ := ok2.has _ _ h0
      have l3 := l2.freeze (force_own e2)
      refine ⟨w, hw', f2, (v, .fz x.strip) :: L, p2, f3, ok2, l3.perm (zip_perm_mid _ _ _), e3, fun iv H3 ok3 o3 => ?_⟩
      have o4 := o3.look1 hk
      have l5 : Live X.K H3 ((iv, .fz k) :: (slots σ f3 ++ ((v, .fz x.strip) :: L))) := o4.fz fun F o' => (paired1 o').ofKey c.1
      have l4 : Live X.K H3 ((w, .od kvs) :: (([v, iv].zip ([x.strip, k].map Vl.fz)) ++ (slots σ (f3.set n none) ++ L))) := by
        refine l5.perm ?_
        refine (List.Perm.cons _ (List.Perm.append_right _ (slots_at hw' hd))).trans ?_
        refine (List.Perm.swap _ _ _).trans (List.Perm.cons _ ?_)
        refine (List.Perm.cons _ (zip_perm_mid _ _ _).symm).trans ?_
        exact List.Perm.swap _ _ _
      obtain ⟨aa, rfl⟩ : ∃ aa, w = .ref aa := by
        obtain ⟨fs, nd, rr⟩ := l4
        cases rr with
        | cons z _ => cases z; exact ⟨_, rfl⟩
      have hn : n < f3.length := (List.getElem?_eq_some_iff.mp hd).1
      refine .inr ⟨aa, kvs, k, x.strip, _, rfl, c.1, by rw [sizeLine_eq]; omega, l4, fun H' l6 => q σ _ (ok3.put hw') KeepL.refl (l6.perm ?_)⟩
      exact (List.Perm.append_right L (slots_put hw' hn)).symm
    · cases ee
  · cases ee
end
end Tr

set_option Elab.async false
set_option linter.all false
set_option maxRecDepth 100000
set_option maxHeartbeats 1000000
/-! Loops, appends, several names, list(range(n)), isinstance. -/
namespace Tr
open PySem PySem.Spec PyProof.Rows L2
section
variable {X : Cx} {G : Fs} {lk : List Nat} {st : Stmt} {sts : List Stmt} {a c e tg iter : Expr} {i j : E} {s : S} {ss : List S} {pos : Pos}
theorem x_app {n : Nat} {apos cpos pos : Pos} (ho : PE X a (tVar n)) (he : PE X e (tE X G i))
    (hb : attributeBase a "append" X.env (eval a X.env) = eval a X.env)
    (hfew : ((backTo cpos (starEach [e] X.env)).all (fun x => !x.1) && (backToKw cpos (keywordEach [] X.env)).all (fun x => x.1.isSome)
      && decide ([e].length + ([] : List Keyword).length + (if ([] : List Keyword).isEmpty then 0 else 1) < 30)) = true)
    (hline : (apos.endLine == cpos.line) = true) (hs : starEach [e] X.env = (false, eval e X.env) :: starEach [] X.env)
    (hsw : swapsWith (.Call (.Attribute a "append" apos) [e] [] cpos) none pos.line X.env = pure false) :
    PS X (.Expr (.Call (.Attribute a "append" apos) [e] [] cpos) pos) (tSt X G lk (.app n i)) := by
  refine ps_mono (ps_expr (pe_bm PySem.F.plainAttrs_list PySem.F.slot_list_append PySem.F.type_list_append mt_append ho (pa_cons he pa_nil hs) hb hfew hline hs rfl) hsw) fun D σ H q => ?_
  obtain ⟨fr, L, r, fr', ok, l, ee, q⟩ := q
  unfold Tr.exec at ee
  split at ee
  · rename_i ds0 h0
    obtain ⟨⟨p1, f1⟩, e1, ee⟩ := bnd ee
    obtain ⟨⟨x, f2⟩, e2, ee⟩ := bnd ee
    dsimp only at ee
    split at ee
    · rename_i ds hd
      obtain ⟨cz, ee⟩ := ite_some ee
      cases ee
      obtain ⟨w, hw⟩ := ok.has _ _ h0
      have lw : Live X.K H ((w, .ol ds0) :: (slots σ (fr.set n none) ++ L)) := l.perm (List.Perm.append_right L (slots_at hw h0))
      obtain ⟨aa, xs0, rfl, h1⟩ : ∃ aa xs0, w = .ref aa ∧ H aa = some (.lst xs0) := by
        obtain ⟨fs, nd, rr⟩ := lw
        cases rr with
        | cons z _ => cases z with
          | ol z1 z2 => exact ⟨_, _, rfl, z1⟩
      refine ⟨.ref aa, hw, .inl ⟨rfl, xs0, SqL.of h1⟩, ?_⟩
      refine ⟨fr, L, p1, f1, ok, l, e1, fun v H1 ok1 o => ?_⟩
      obtain ⟨ok2, l2⟩ := o.force ok1 e2
      have l3 := l2.freeze (force_own e2)
      have l4 : Live X.K H1 ((.ref aa, .ol ds) :: (([v].zip ([x.strip].map Vl.fz)) ++ (slots σ (f2.set n none) ++ L))) := by
        refine l3.perm ?_
        refine (List.Perm.cons _ (List.Perm.append_right _ (slots_at hw hd))).trans ?_
        exact List.Perm.swap _ _ _
      obtain ⟨xd, hH, hxl, wr⟩ := l4.write (ds' := ds ++ [x.strip]) rfl
      have hn : n < f2.length := (List.getElem?_eq_some_iff.mp hd).1
      refine ⟨aa, xd, v, rfl, rfl, hH, ?_, ?_⟩
      · rw [hxl, sizeLine_eq]; exact of_decide_eq_true cz
      · refine q σ _ (ok2.put hw) KeepL.refl ?_
        refine (wr (xd ++ [v]) fun F r1 r2 => r1.append r2).perm ?_
        exact (List.Perm.append_right L (slots_put hw hn)).symm
    · cases ee
  · cases ee
def turnF (G : Fs) (lk : List Nat) (t : Tg) (body : List S) : D → Fm → R Sg := fun d fr1 => (putTg lk t (.fz d) fr1).bind fun fr2 => Tr.execs G lk body fr2
theorem x_for {t : Tg} {it : It} {body : List S} (hx : X.xe = fun _ _ => False) (hc : X.calm = true) (hi : PI X tg iter (tI X G it)) (hg : PG X tg (gT X.K lk t)) (hb : PSs X sts (tSs X G lk body)) (hs : ∀ x, foldedSetIterable iter X.env x = pure x) :
    PS X (.For tg iter sts [] pos) (tSt X G lk (.for t it body)) := by
  have hp : PassesOwn (model X.prog X.w) X.A X.env X.xe := by rw [hx]; exact PassesOwn.never
  refine ps_mono (ps_for hp hc hi hg hb hs) fun D σ H q => ?_
  obtain ⟨fr, L, r, fr', ok, l, ee, q⟩ := q
  unfold Tr.exec at ee
  obtain ⟨⟨ds, f1⟩, e1, ee⟩ := bnd ee
  replace ee : forN (turnF G lk t body) ds f1 = some (r, fr') := ee
  refine ⟨fr, L, ds, f1, ok, l, e1, fun J H1 A ok1 l1 wk => ?_⟩
  let Pv : Nat → St → Hp → Prop := fun i σi H => ∃ fi, SlOk σi fi ∧ KeepL lk σ σi ∧ Live X.K H (A ++ (slots σi fi ++ L)) ∧ forN (turnF G lk t body) (ds.drop i) fi = some (r, fr')
  refine ⟨fun i m σi H => m = ds.length - i ∧ i ≤ ds.length ∧ Pv i σi H, ⟨ds.length, by simp, Nat.zero_le _, f1, ok1, KeepL.refl, l1, ee⟩, ?_⟩
  rintro i m σi H ⟨rfl, hi', fi, oki, ki, li, ei⟩
  by_cases hlt : i < ds.length
  · have hd : ds[i]? = some ds[i] := List.getElem?_eq_getElem hlt
    rw [List.drop_eq_getElem_cons hlt] at ei
    unfold forN at ei
    obtain ⟨⟨r1, f3⟩, e3, ei⟩ := bnd ei
    unfold turnF at e3
    obtain ⟨g1, e4, e3⟩ := bnd e3
    refine .inr ⟨wk.go i H _ hlt li, Pv (i + 1), fun σ' H' p' => ⟨ds.length - (i + 1), by omega, rfl, hlt, p'⟩, fun x H' y => ?_⟩
    have l2 := wk.yld i H x H' _ _ hd li y
    refine ⟨fi, A ++ L, .fz ds[i], g1, oki, l2.perm (List.Perm.cons _ (perm_mid _ _ _)), e4, fun σ2 ok2 k2 l3 => ?_⟩
    refine ⟨g1, A ++ L, r1, f3, ok2, l3, e3, fun σ3 H3 ok3 k3 => ?_⟩
    have kk : KeepL lk σ σ3 := (ki.trans k2.2).trans k3
    cases r1 with
    | nx => exact fun l4 => ⟨f3, ok3, kk, l4.perm (perm_mid _ _ _), ei⟩
    | rt x =>
      cases ei
      exact fun v l4 => q σ3 H3 ok3 kk v ((l4.perm ((zip_perm_mid _ _ _).trans ((List.Perm.append_left _ (zip_perm_mid _ _ _)).trans (perm_mid _ _ _)))).right.perm (zip_perm_mid _ _ _).symm)
  · have e : i = ds.length := by omega
    subst e
    rw [List.drop_length] at ei
    unfold forN at ei
    cases ei
    exact .inl ⟨wk.stop H _ li, q σi H oki ki li.right⟩
theorem x_whl {body : List S} (hx : X.xe = fun _ _ => False) (hc : PT X c (tT X G i)) (hb : PSs X sts (tSs X G lk body)) : PS X (.While c sts [] pos) (tSt X G lk (.whl i body)) := by
  have hp : PassesOwn (model X.prog X.w) X.A X.env X.xe := by rw [hx]; exact PassesOwn.never
  refine ps_mono (ps_while hp hc hb) fun D σ H q => ?_
  obtain ⟨fr, L, r, fr', ok, l, ee, q⟩ := q
  unfold Tr.exec at ee
  generalize fuel = n at ee
  refine ⟨fun m σi H => ∃ fi, SlOk σi fi ∧ KeepL lk σ σi ∧ Live X.K H (slots σi fi ++ L) ∧ whileN (fun fr => tru G i fr) (fun fr => Tr.execs G lk body fr) m fi = some (r, fr'), ⟨n, fr, ok, KeepL.refl, l, ee⟩, ?_⟩
  rintro m σi H ⟨fi, oki, ki, li, ei⟩
  cases m with
  | zero => unfold whileN at ei; cases ei
  | succ m =>
    unfold whileN at ei
    obtain ⟨⟨b, f2⟩, e2, ei⟩ := bnd ei
    refine ⟨fi, L, b, f2, oki, li, e2, fun H2 ok2 l2 => ?_⟩
    cases b with
    | false =>
      rw [if_neg Bool.false_ne_true] at ei ⊢
      cases ei
      exact q σi H2 ok2 ki l2
    | true =>
      rw [if_pos rfl] at ei ⊢
      obtain ⟨⟨r1, f3⟩, e3, ei⟩ := bnd ei
      refine ⟨fun σ' H' => ∃ fi, SlOk σ' fi ∧ KeepL lk σ σ' ∧ Live X.K H' (slots σ' fi ++ L) ∧ whileN (fun fr => tru G i fr) (fun fr => Tr.execs G lk body fr) m fi = some (r, fr'), fun σ' H' p' => ⟨m, Nat.lt_succ_self _, p'⟩, ?_⟩
      refine ⟨f2, L, r1, f3, ok2, l2, e3, fun σ3 H3 ok3 k3 => ?_⟩
      cases r1 with
      | nx => exact fun l4 => ⟨f3, ok3, ki.trans k3, l4, ei⟩
      | rt x =>
        cases ei
        exact fun v l4 => q σ3 H3 ok3 (ki.trans k3) v l4
/-! several names -/
def gSet (ix : List Nat) : TGs := fun vs σ H Q => vs.length = ix.length ∧ Q (setAll σ ix vs) H
theorem gset_nil : PGs X [] (gSet []) := pgs_mono pgs_nil fun vs σ H Q q => by
  obtain ⟨hl, q⟩ := q
  cases vs with
  | nil => exact ⟨rfl, q⟩
  | cons _ _ => cases hl
theorem gset_cons {n : Nat} {ix : List Nat} {es : List Expr} (h1 : PG X tg (gName n)) (h2 : PGs X es (gSet ix)) (hs : (assignEach (tg :: es) X.env).map (·.2) = assign tg X.env :: (assignEach es X.env).map (·.2)) : PGs X (tg :: es) (gSet (n :: ix)) := pgs_mono (pgs_cons h1 h2 hs) fun vs σ H Q q => by
  obtain ⟨hl, q⟩ := q
  cases vs with
  | nil => cases hl
  | cons v vs => exact ⟨v, vs, rfl, by simpa using hl, q⟩
theorem tXs_imp {K : PySem.W.Frag} {f : Fm → R (List Vl)} {σ : St} {H : Hp} {Q Q' : List V → Hp → Prop} (h : tXs K f σ H Q) (m : ∀ v H', Q v H' → Q' v H') : tXs K f σ H Q' := by
  obtain ⟨fr, L, p, fr', ok, l, ee, q⟩ := h
  exact ⟨fr, L, p, fr', ok, l, ee, fun v H' ok' hl h' => m _ _ (q v H' ok' hl h')⟩
theorem par_any {es ts : List Expr} {ix : List Nat} {is : List E} {k k2 : Nat} {p p2 : Pos} (hc : X.calm = true) (ha : PA X es (tGs X G is)) (hg : PGs X ts (gSet ix)) (hlen : ts.length = ix.length) (hn : (assignEach ts X.env).length = ts.length) (hst : (assignEach ts X.env).findIdx? (·.1) = none)
    (hsz : es.length = ix.length) (hle : ix.length ≤ sizeLine) (hs : swapsWithSole [.Tuple ts k p] (.Tuple es k2 p2) pos.line X.env = pure false) (hw : swappedStores [.Tuple ts k p] (.Tuple es k2 p2) X.env = pure none) (h1 : (assignEach [.Tuple ts k p] X.env).map (·.2) = [assign (.Tuple ts k p) X.env]) :
    PS X (.Assign [.Tuple ts k p] (.Tuple es k2 p2) pos) (tParN ix (tGs X G is)) := by
  refine ps_mono (ps_asg (pe_tup ha) (pg_tup hc hg hn hst) hs hw h1) fun D σ H q => ?_
  refine tXs_imp q fun vs H1 ⟨hl, q⟩ => ⟨by rw [hl]; exact hle, fun p hp => ⟨p, vs, rfl, SqT.of upd_same, by rw [hl, hlen], hl, q _ (same_new hp)⟩⟩
theorem par_2 {a b : Expr} {x y : Str} {n m : Nat} {is : List E} {px py p p2 : Pos} {k k2 : Nat} (hc : X.calm = true) (hN : X.N.Nodup) (hi : X.N[n]? = some x) (hj : X.N[m]? = some y) (hij : n ≠ m) (hx : X.env.scope.names.lookup x = some .local) (hy : X.env.scope.names.lookup y = some .local)
    (ha : PA X [a, b] (tGs X G is)) (hw : swappedStores [.Tuple [.Name x px, .Name y py] k p] (.Tuple [a, b] k2 p2) X.env = pure (some [x, y])) (hs : swapsWithSole [.Tuple [.Name x px, .Name y py] k p] (.Tuple [a, b] k2 p2) pos.line X.env = pure false) :
    PS X (.Assign [.Tuple [.Name x px, .Name y py] k p] (.Tuple [a, b] k2 p2) pos) (tParN [n, m] (tGs X G is)) := by
  refine ps_mono (ps_par hc hN hi hj hij hx hy ha hw hs) fun D σ H q => tXs_imp q fun vs H1 ⟨hl, q⟩ => ?_
  match vs, hl with
  | [v, w], _ => exact ⟨v, w, rfl, q H1 fun _ _ e => e⟩
theorem par_3 {a b c : Expr} {x y z : Str} {n m o : Nat} {is : List E} {px py pz p p2 : Pos} {k k2 : Nat} (hc : X.calm = true) (hN : X.N.Nodup) (hi : X.N[n]? = some x) (hj : X.N[m]? = some y) (hl : X.N[o]? = some z) (hij : n ≠ m) (hil : n ≠ o) (hjl : m ≠ o) (hx : X.env.scope.names.lookup x = some .local) (hy : X.env.scope.names.lookup y = some .local) (hz : X.env.scope.names.lookup z = some .local)
    (ha : PA X [a, b, c] (tGs X G is)) (hw : swappedStores [.Tuple [.Name x px, .Name y py, .Name z pz] k p] (.Tuple [a, b, c] k2 p2) X.env = pure (some [x, y, z])) (hs : swapsWithSole [.Tuple [.Name x px, .Name y py, .Name z pz] k p] (.Tuple [a, b, c] k2 p2) pos.line X.env = pure false) :
    PS X (.Assign [.Tuple [.Name x px, .Name y py, .Name z pz] k p] (.Tuple [a, b, c] k2 p2) pos) (tParN [n, m, o] (tGs X G is)) := by
  refine ps_mono (ps_par3 hc hN hi hj hl hij hil hjl hx hy hz ha hw hs) fun D σ H q => tXs_imp q fun vs H1 ⟨hl, q⟩ => ?_
  match vs, hl with
  | [u, v, w], _ => exact ⟨u, v, w, rfl, q H1 fun _ _ e => e⟩
theorem rel_range {K : PySem.W.Frag} {F : Addr → Prop} {H : Hp} : ∀ l : List Nat, RelDs K F H (l.map fun i => V.int (0 + (i : Nat))) (l.map fun (i : Nat) => PyData.int (i : Int))
  | [] => .nil
  | n :: l => by
    rw [List.map_cons, List.map_cons, Int.zero_add]
    exact .cons (.int _) (rel_range l)
theorem rel_range2 {K : PySem.W.Frag} {F : Addr → Prop} {H : Hp} (m : Int) : ∀ l : List Nat, RelDs K F H (l.map fun i => V.int (m + (i : Nat))) (l.map fun (i : Nat) => PyData.int (m + (i : Int)))
  | [] => .nil
  | n :: l => by
    rw [List.map_cons, List.map_cons]
    exact .cons (.int _) (rel_range2 m l)
/-- list(range(n)) -/
theorem s_lrange {p p2 pos2 : Pos} (hc : X.calm = true) (hg : Gl X "list") (hm : X.mg "list" = none) (hg2 : Gl X "range") (hm2 : X.mg "range" = none) (ha : PE X a (tE X G i)) (na : starEach [a] X.env = (false, eval a X.env) :: starEach [] X.env)
    (nr : starEach [.Call (.Name "range" p2) [a] [] pos2] X.env = (false, eval (.Call (.Name "range" p2) [a] [] pos2) X.env) :: starEach [] X.env) : PE X (.Call (.Name "list" p) [.Call (.Name "range" p2) [a] [] pos2] [] pos) (tE X G (.bi .lrange [i])) := by
  refine pe_mono (pe_listRg hc hg hm (prg_1 hg2 hm2 ha na) nr) fun σ H Q q => ?_
  obtain ⟨fr, L, p, fr', ok, l, ee, q⟩ := q
  unfold ev at ee
  obtain ⟨⟨ps, f1⟩, e1, ee⟩ := bnd ee
  obtain ⟨ds, e2, ee⟩ := bnd ee
  obtain ⟨z, e3, ee⟩ := mpd ee
  cases ee
  unfold evs evs at e1
  obtain ⟨⟨p1, f2⟩, e4, e1⟩ := bnd e1
  obtain ⟨r, e5, e1⟩ := mpd e1
  cases e5
  cases e1
  refine ⟨fr, L, p1, f2, ok, l, e4, fun v H1 ok1 o => ?_⟩
  have o2 := o.looks e2
  match ds, e3 with
  | [.int n], e3 =>
    simp only [biD] at e3
    obtain ⟨c, rfl⟩ := ite_some e3
    simp only [Bool.and_eq_true, decide_eq_true_eq] at c
    obtain ⟨F, h1⟩ := o2.one
    refine ⟨n, h1.int, ⟨by omega, by omega, by omega, by omega, by omega⟩, fun p hp => q _ _ ok1 (hold1 (o2.lst hp fun F' _ => ?_))⟩
    unfold rgV
    rw [Int.sub_zero]
    exact rel_range _
/-- list(range(m, n)) -/
theorem s_lrange2 {p p2 pos2 : Pos} {a2 : Expr} {j : E} (hc : X.calm = true) (hg : Gl X "list") (hm : X.mg "list" = none) (hg2 : Gl X "range") (hm2 : X.mg "range" = none) (ha : PE X a (tE X G i)) (hb : PE X a2 (tE X G j)) (na : starEach [a, a2] X.env = (false, eval a X.env) :: starEach [a2] X.env)
    (nb : starEach [a2] X.env = (false, eval a2 X.env) :: starEach [] X.env) (hpl : (backTo pos2 (starEach [a2] X.env)).any (·.1) = false)
    (nr : starEach [.Call (.Name "range" p2) [a, a2] [] pos2] X.env = (false, eval (.Call (.Name "range" p2) [a, a2] [] pos2) X.env) :: starEach [] X.env) : PE X (.Call (.Name "list" p) [.Call (.Name "range" p2) [a, a2] [] pos2] [] pos) (tE X G (.bi .lrange [i, j])) := by
  refine pe_mono (pe_listRg hc hg hm (prg_2 hg2 hm2 ha hb na nb hpl) nr) fun σ H Q q => ?_
  obtain ⟨fr, L, p, fr', ok, l, ee, q⟩ := q
  unfold ev at ee
  obtain ⟨⟨ps, f1⟩, e1, ee⟩ := bnd ee
  obtain ⟨ds, e2, ee⟩ := bnd ee
  obtain ⟨z, e3, ee⟩ := mpd ee
  cases ee
  unfold evs evs evs at e1
  obtain ⟨⟨p1, f2⟩, e4, e1⟩ := bnd e1
  obtain ⟨r, e5, e1⟩ := mpd e1
  cases e1
  obtain ⟨⟨p2', f3⟩, e6, e5⟩ := bnd e5
  obtain ⟨r2, e7, e5⟩ := mpd e5
  cases e7
  cases e5
  refine ⟨fr, L, p1, f2, ok, l, e4, fun v H1 ok1 o => ⟨f2, pit [v] [p1] ++ L, p2', f3, ok1, o.aside, e6, fun w H2 ok2 o2 => ?_⟩⟩
  have o3 := (Hold.more (vs := [v]) (ps := [p1]) o.1 o2).looks e2
  match ds, e3 with
  | [.int m, .int n], e3 =>
    simp only [biD] at e3
    obtain ⟨c, rfl⟩ := ite_some e3
    simp only [Bool.and_eq_true, decide_eq_true_eq] at c
    obtain ⟨F, h1, h2⟩ := o3.pair
    refine ⟨m, n, h1.int, h2.int, RgOk.of_le c.1.1.1 c.2 c.1.1.2 c.1.2, fun p hp => q _ _ ok2 (hold1 (o3.lst hp fun F' _ => ?_))⟩
    unfold rgV
    exact rel_range2 _ _
  | [.int n], e3 =>
    obtain ⟨F, _, _, r⟩ := o3
    cases r with
    | cons _ r => cases r
/-- xs.count(x) -/
theorem s_count {apos : Pos} {o : Expr} {j : E} (ho : PE X o (tE X G i)) (ha : PE X a (tE X G j)) (hu : X.A.units + 70 < cLine)
    (hb : attributeBase o "count" X.env (eval o X.env) = eval o X.env)
    (hfew : ((backTo pos (starEach [a] X.env)).all (fun x => !x.1) && (backToKw pos (keywordEach [] X.env)).all (fun x => x.1.isSome)
      && decide ([a].length + ([] : List Keyword).length + (if ([] : List Keyword).isEmpty then 0 else 1) < 30)) = true)
    (hline : (apos.endLine == pos.line) = true) (hs : starEach [a] X.env = (false, eval a X.env) :: starEach [] X.env) :
    PE X (.Call (.Attribute o "count" apos) [a] [] pos) (tE X G (.mth .count i [j])) := by
  refine pe_mono (pe_bm PySem.F.plainAttrs_list PySem.F.slot_list_count PySem.F.type_list_count (mt_cnt hu) ho (pa_cons ha pa_nil hs) hb hfew hline hs rfl) fun σ H Q q => ?_
  obtain ⟨fr, L, p, fr', ok, l, ee, q⟩ := q
  unfold ev at ee
  obtain ⟨⟨p1, f1⟩, e1, ee⟩ := bnd ee
  obtain ⟨d0, e0, ee⟩ := bnd ee
  obtain ⟨c0, ee⟩ := ite_o ee
  obtain ⟨⟨ps, f2⟩, e2, ee⟩ := bnd ee
  obtain ⟨ds, e3, ee⟩ := bnd ee
  obtain ⟨z, e4, ee⟩ := mpd ee
  cases ee
  unfold evs evs at e2
  obtain ⟨⟨p2, f3⟩, e5, e2⟩ := bnd e2
  obtain ⟨r, e6, e2⟩ := mpd e2
  cases e6
  cases e2
  refine ⟨fr, L, p1, f1, ok, l, e1, fun v H1 ok1 o => ⟨?_, f1, pit [v] [p1] ++ L, p2, f3, ok1, o.aside, e5, fun w H2 ok2 o2 => ?_⟩⟩
  · obtain ⟨F, h1⟩ := (o.look1 e0).one
    cases d0 <;> first | cases c0 | skip
    obtain ⟨b, xs, rfl, hb, -⟩ := h1.list
    exact .inl ⟨rfl, xs, hb⟩
  · have o3 := (Hold.more (vs := [v]) (ps := [p1]) o.1 o2).looks e3
    match ds, e4 with
    | [.list ds, e], e4 =>
      simp only [mthD] at e4
      obtain ⟨c, rfl⟩ := ite_some e4
      exact ⟨ds, e, _, rfl, o3, c, q _ _ ok2 (hold1 (o3.sc rfl))⟩
/-- isinstance(x, T) -/
theorem kit_tab (K : PySem.W.Frag) (t : Ty) (d : D) : PySem.W.kitOne K (.type (tyD d)) (.type (tyS t)) = some (isTy t d) := by
  cases t <;> cases d <;> rfl
theorem s_isi {t : Ty} {p p2 : Pos} {x : Str} (hg : Gl X "isinstance") (hm : X.mg "isinstance" = none) (ha : PE X a (tE X G i)) (hT : PE X (.Name x p2) (tC (.ty (tyS t)))) (hs : starEach [a, .Name x p2] X.env = (false, eval a X.env) :: starEach [.Name x p2] X.env)
    (hs2 : starEach [.Name x p2] X.env = (false, eval (.Name x p2) X.env) :: starEach [] X.env) (hpl : (backTo pos (starEach [.Name x p2] X.env)).any (·.1) = false) : PE X (.Call (.Name "isinstance" p) [a, .Name x p2] [] pos) (tE X G (.bi (.isinst t) [i])) := by
  refine pe_mono (pe_callB call_isiQ hg hm PyProof.Rows.boot_isinstance (pa_cons ha (pa_cons hT pa_nil hs2) hs) (by decide) (by decide) hs hpl) fun σ H Q q => ?_
  obtain ⟨fr, L, p, fr', ok, l, ee, q⟩ := q
  unfold ev at ee
  obtain ⟨⟨ps, f1⟩, e1, ee⟩ := bnd ee
  obtain ⟨ds, e2, ee⟩ := bnd ee
  obtain ⟨z, e3, ee⟩ := mpd ee
  cases ee
  unfold evs evs at e1
  obtain ⟨⟨p1, f2⟩, e4, e1⟩ := bnd e1
  obtain ⟨r, e5, e1⟩ := mpd e1
  cases e5
  cases e1
  refine ⟨fr, L, p1, f2, ok, l, e4, fun v H1 ok1 o => ?_⟩
  have o2 := o.looks e2
  match ds, e3 with
  | [d], e3 =>
    cases e3
    obtain ⟨F, h1⟩ := o2.one
    exact ⟨v, .ty (tyS t), .type (tyD d), .type (tyS t), isTy t d, rfl, .ty _, ty_of h1, kit_tab X.K t d, q _ H1 ok1 (hold1 (o2.sc rfl))⟩
end
end Tr

set_option Elab.async false
set_option linter.all false
set_option maxRecDepth 100000
set_option maxHeartbeats 1000000
/-! Lists of lists of one's own; two clauses; calls by names. -/
namespace Tr
open PySem PySem.Spec PyProof.Rows L2
section
variable {K : PySem.W.Frag} {F : Addr → Prop} {H H' : Hp} {L : List (V × Vl)}
theorem Live.oo_nil {a : Addr} (l : Live K H ((.ref a, .ol []) :: L)) : Live K H ((.ref a, .oo []) :: L) := by
  obtain ⟨fs, nd, r⟩ := l
  cases r with
  | cons h1 h2 =>
    cases h1 with
    | ol e1 e2 =>
      cases e2
      exact ⟨_, nd, .cons (f := [a]) (.oo e1 .nil) h2⟩
theorem RelOs.len {vs : List V} {dss : List (List D)} {fs : List Addr} (h : RelOs K F H vs dss fs) : vs.length = dss.length := by
  induction h with
  | nil => rfl
  | cons _ _ _ ih => simp [ih]
theorem RelOs.snoc {vs : List V} {dss : List (List D)} {fs : List Addr} (h : RelOs K F H vs dss fs) {b : Addr} {xs : List V} {ds : List D} (e : H b = some (.lst xs)) (r : RelDs K F H xs ds) : RelOs K F H (vs ++ [.ref b]) (dss ++ [ds]) (fs ++ [b]) := by
  induction h with
  | nil => exact .cons e r .nil
  | cons h1 h2 _ ih => exact .cons h1 h2 ih
theorem RelOs.at_ {vs : List V} {dss : List (List D)} {fs : List Addr} (h : RelOs K F H vs dss fs) : ∀ {k : Nat} {ds : List D}, dss[k]? = some ds → ∃ b zs, vs[k]? = some (.ref b) ∧ H b = some (.lst zs) ∧ RelDs K F H zs ds ∧ b ∈ fs := by
  induction h with
  | nil => intro k ds e; simp at e
  | @cons a xs ds0 vs dss fs h1 h2 h3 ih =>
    intro k ds e
    cases k with
    | zero =>
      simp at e
      subst e
      exact ⟨a, xs, rfl, h1, h2, List.mem_cons_self⟩
    | succ k =>
      obtain ⟨b, zs, e1, e2, e3, e4⟩ := ih (k := k) (by simpa using e)
      exact ⟨b, zs, by simpa using e1, e2, e3, List.mem_cons_of_mem _ e4⟩
theorem RelOs.put {F' : Addr → Prop} {vs : List V} {dss : List (List D)} {fs : List Addr} (h : RelOs K F H vs dss fs) (kp : Kp F F' H H') (nd : fs.Nodup) : ∀ {k : Nat} {b : Addr} {ds' : List D} {zs' : List V}, vs[k]? = some (.ref b) → H' b = some (.lst zs') → RelDs K F' H' zs' ds' → (∀ a ∈ fs, a ≠ b → H' a = H a) → (k < dss.length) → (∀ j, vs[j]? = some (.ref b) → j = k) → RelOs K F' H' vs (dss.set k ds') fs := by
  induction h with
  | nil => intro k b ds' zs' e _ _ _ hk _; simp at hk
  | @cons a xs ds0 vs dss fs h1 h2 h3 ih =>
    intro k b ds' zs' e hb r hne hk hu
    obtain ⟨na, nd2⟩ := List.nodup_cons.mp nd
    cases k with
    | zero =>
      simp at e
      subst e
      refine .cons hb r (h3.kp kp fun c hc => hne c (List.mem_cons_of_mem _ hc) fun z => na (z ▸ hc))
    | succ k =>
      have ab : a ≠ b := fun z => by
        have := hu 0 (by simp [z])
        omega
      refine .cons ((hne a List.mem_cons_self ab).trans h1) (RelDs.kp kp _ _ h2) (ih nd2 (by simpa using e) hb r (fun c hc => hne c (List.mem_cons_of_mem _ hc)) (by simpa using hk) fun j hj => ?_)
      have := hu (j + 1) (by simpa using hj)
      omega
/-- one more inner list -/
theorem Live.oo_app {a : Addr} {acc : List (List D)} {y : V} {ds : List D} (l : Live K H ((.ref a, .oo acc) :: (y, .ol ds) :: L)) : ∃ xs, H a = some (.lst xs) ∧ xs.length = acc.length ∧ Live K (upd H a (.lst (xs ++ [y]))) ((.ref a, .oo (acc ++ [ds])) :: L) := by
  obtain ⟨fs, nd, r⟩ := l
  cases r with
  | @cons _ _ _ f gs h1 h2 =>
    cases h1 with
    | @oo _ xs _ g e1 e2 =>
      cases h2 with
      | @cons _ _ _ f2 gs2 h3 h4 =>
        cases h3 with
        | @ol b zs _ e3 e4 =>
          refine ⟨xs, e1, e2.len, ?_⟩
          have nd' : (a :: (g ++ ([b] ++ gs2))).Nodup := nd
          obtain ⟨na, nd1⟩ := List.nodup_cons.mp nd'
          have kp : Kp (· ∈ (a :: g) ++ ([b] ++ gs2)) (· ∈ (a :: (g ++ [b])) ++ gs2) H (upd H a (.lst (xs ++ [.ref b]))) := Kp.write (by simp) fun c q => by
            simp only [List.mem_append, List.mem_cons, List.not_mem_nil, or_false] at q ⊢
            rcases q with (q | q | q) | q
            · exact .inl (.inl q)
            · exact .inl (.inr q)
            · exact .inr (.inl q)
            · exact .inr (.inr q)
          have nb : b ≠ a := fun z => na (by simp [z])
          refine ⟨(a :: (g ++ [b])) ++ gs2, ?_, .cons (f := a :: (g ++ [b])) (.oo upd_same ?_) (h4.kp kp fun c q => upd_ne fun z => na (by simp [← z, q]))⟩
          · have e : (a :: (g ++ [b])) ++ gs2 = a :: (g ++ ([b] ++ gs2)) := by simp
            rw [e]
            exact nd'
          · have s := RelOs.snoc (F := (· ∈ (a :: g) ++ ([b] ++ gs2))) e2 e3 e4
            exact s.kp kp fun c q => upd_ne fun z => na (by
              rw [← z]
              simp only [List.mem_append, List.mem_cons, List.not_mem_nil, or_false] at q ⊢
              rcases q with q | q
              · exact .inl q
              · exact .inr (.inl q))
/-- an inner list, looked at and written -/
theorem Live.oo_at {a : Addr} {xss : List (List D)} {k : Nat} {ys : List D} (l : Live K H ((.ref a, .oo xss) :: L)) (hk : xss[k]? = some ys) : ∃ xs b zs, H a = some (.lst xs) ∧ xs.length = xss.length ∧ xs[k]? = some (.ref b) ∧ H b = some (.lst zs) ∧ zs.length = ys.length ∧
    (∀ (n : Nat) (z : Int), ys[n]? = some (.int z) → zs[n]? = some (.int z)) ∧ ∀ (m : Nat) (n : Int), Live K (upd H b (.lst (zs.set m (.int n)))) ((.ref a, .oo (xss.set k (ys.set m (.int n)))) :: L) := by
  obtain ⟨fs, nd, r⟩ := l
  cases r with
  | @cons _ _ _ f gs h1 h2 =>
    cases h1 with
    | @oo _ xs _ g e1 e2 =>
      obtain ⟨b, zs, q1, q2, q3, q4⟩ := e2.at_ hk
      have nd' : (a :: (g ++ gs)).Nodup := nd
      obtain ⟨na, nd1⟩ := List.nodup_cons.mp nd'
      have ndg := (List.nodup_append.mp nd1).1
      have nb : a ≠ b := fun z => na (by simp [z, q4])
      refine ⟨xs, b, zs, e1, e2.len, q1, q2, q3.length, fun n z hz => ?_, fun m n => ?_⟩
      · obtain ⟨v, w1, w2⟩ := q3.getD hz
        cases w2
        exact w1
      · have kp : Kp (· ∈ (a :: g) ++ gs) (· ∈ (a :: g) ++ gs) H (upd H b (.lst (zs.set m (.int n)))) := Kp.write (by simp [q4]) fun c q => q
        have uniq : ∀ {vs : List V} {dss : List (List D)} {fs : List Addr}, RelOs K (· ∈ (a :: g) ++ gs) H vs dss fs → fs.Nodup → ∀ i j : Nat, vs[i]? = some (.ref b) → vs[j]? = some (.ref b) → i = j := by
          intro vs dss fs h
          induction h with
          | nil => intro _ i j e; simp at e
          | @cons c _ _ vs dss fs _ _ h3 ih =>
            intro nd i j e1 e2
            obtain ⟨nc, nd2⟩ := List.nodup_cons.mp nd
            have mem : ∀ i : Nat, vs[i]? = some (V.ref b) → b ∈ fs := by
              intro i hi
              clear e1 e2 ih nd nc nd2
              induction h3 generalizing i with
              | nil => simp at hi
              | cons _ _ _ ih3 =>
                cases i with
                | zero => simp at hi; rw [hi]; exact List.mem_cons_self
                | succ i => exact List.mem_cons_of_mem _ (ih3 i (by simpa using hi))
            cases i with
            | zero =>
              cases j with
              | zero => rfl
              | succ j =>
                simp at e1
                exact absurd (mem j (by simpa using e2)) (e1 ▸ nc)
            | succ i =>
              cases j with
              | zero =>
                simp at e2
                exact absurd (mem i (by simpa using e1)) (e2 ▸ nc)
              | succ j => rw [ih nd2 i j (by simpa using e1) (by simpa using e2)]
        have hkl : k < xss.length := (List.getElem?_eq_some_iff.mp hk).1
        refine ⟨(a :: g) ++ gs, nd, .cons (f := a :: g) (.oo ((upd_ne nb).trans e1) ?_) (h2.kp kp fun c q => upd_ne fun z => ?_)⟩
        · refine e2.put kp ndg q1 upd_same ((RelDs.kp kp _ _ q3).set (.int n) m) (fun c _ hc => upd_ne hc) hkl fun j hj => (uniq e2 ndg j k hj q1)
        · exact (List.nodup_append.mp nd1).2.2 b q4 c q (z ▸ rfl)
end
section
variable {X : Cx} {G : Fs} {i v : E} {lk : List Nat}
theorem atI_of {xs : List V} {n : Nat} {k : Int} {j : Nat} {x : V} (hl : xs.length = n) (hp : placeD n k = some j) (hx : xs[j]? = some x) : atI xs k = some x := by
  unfold atI
  rw [hl]
  unfold placeD at hp
  rw [hp]
  exact hx
theorem idx_int {ys : List D} {b z : Int} (h : idxD (.list ys) (.int b) = some (.int z)) : ∃ m, placeD ys.length b = some m ∧ ys[m]? = some (.int z) := by
  have h : ((placeD ys.length b).bind fun j => ys[j]?) = some (.int z) := h
  obtain ⟨m, h1, h2⟩ := bnd h
  exact ⟨m, h1, h2⟩
theorem int_of {K : PySem.W.Frag} {H : Hp} {v : V} {z : Int} {L : List (V × Vl)} (l : Live K H ((v, .fz (.int z)) :: L)) : v = .int z := by
  obtain ⟨fs, nd, r⟩ := l
  cases r with
  | cons h1 h2 =>
    cases h1 with
    | fz h1 => cases h1; rfl
theorem oo_ref {K : PySem.W.Frag} {H : Hp} {v : V} {xss : List (List D)} {L : List (V × Vl)} (l : Live K H ((v, .oo xss) :: L)) : ∃ a, v = .ref a := by
  obtain ⟨fs, nd, r⟩ := l
  cases r with
  | cons h1 h2 =>
    cases h1 with
    | oo _ _ => exact ⟨_, rfl⟩
theorem s_idx2 {s j : Nat} {a ji : Expr} {e : Expr} {p1 p2 : Pos} (ho : PE X a (tVar s)) (hi : PE X e (tE X G i)) (hj : PE X ji (tVar j)) (n1 : PlainIx e) (n2 : PlainIx ji) : PE X (.Subscript (.Subscript a e p1) ji p2) (tE X G (.idx2 s i j)) := by
  refine pe_mono (pe_ix ix_seq (pe_ix ix_seq ho hi n1) hj n2) fun σ H Q q => ?_
  obtain ⟨fr, L, p, fr', ok, l, ee, q⟩ := q
  unfold ev at ee
  split at ee
  · rename_i xs0 h0
    obtain ⟨⟨p1, f1⟩, e1, ee⟩ := bnd ee
    dsimp only at ee
    split at ee
    · rename_i av xss bv h1 h2 h3
      obtain ⟨k, e2, ee⟩ := bnd ee
      obtain ⟨ys, e3, ee⟩ := bnd ee
      split at ee
      · rename_i z e4
        cases ee
        obtain ⟨w, hw⟩ := ok.has _ _ h0
        refine ⟨w, hw, fr, L, p1, fr', ok, l, e1, fun y H1 ok1 o => ?_⟩
        obtain ⟨F, r1⟩ := (o.look1 h1).one
        have := r1.int
        subst this
        have l1 : Live X.K H1 ((w, .oo xss) :: (slots σ (fr'.set s none) ++ L)) := o.live.perm (List.Perm.append_right L (slots_at hw h2))
        obtain ⟨aa, rfl⟩ := oo_ref l1
        obtain ⟨xs, b, zs, q1, q2, q3, q4, q5, q6, _⟩ := l1.oo_at e3
        obtain ⟨wj, hwj⟩ := ok1.has _ _ h3
        have l2 : Live X.K H1 ((wj, .fz (.int bv)) :: (slots σ (fr'.set j none) ++ L)) := o.live.perm (List.Perm.append_right L (slots_at hwj h3))
        have := int_of l2
        subst this
        obtain ⟨m, m1, m2⟩ := idx_int e4
        refine .inl ⟨aa, xs, av, .ref b, rfl, rfl, SqL.of q1, atI_of q2 e2 q3, _, hwj, .inl ⟨b, zs, bv, .int z, rfl, rfl, SqL.of q4, atI_of q5 m1 (q6 _ _ m2), q _ _ ok1 (hold1 (o.live.scal rfl))⟩⟩
      · cases ee
    · cases ee
  · cases ee
theorem x_sidx2 {s j : Nat} {a ji e ve : Expr} {p1 p2 pos : Pos} (ho : PE X a (tVar s)) (hi : PE X e (tE X G i)) (hj : PE X ji (tVar j)) (hv : PE X ve (tE X G v)) (n1 : PlainIx e)
    (ha : ∀ v, assign (.Subscript (.Subscript a e p1) ji p2) X.env v = (do
      let ov ← holding [v] (eval (.Subscript a e p1) X.env)
      let iv ← holding [v, ov] (eval ji X.env)
      standAt p2
      holding [v, ov, iv] (setItem ov iv v)
      release [v, ov, iv] []))
    (hs : swapsWithSole [.Subscript (.Subscript a e p1) ji p2] ve pos.line X.env = pure false) (hw : swappedStores [.Subscript (.Subscript a e p1) ji p2] ve X.env = pure none) (h1 : (assignEach [.Subscript (.Subscript a e p1) ji p2] X.env).map (·.2) = [assign (.Subscript (.Subscript a e p1) ji p2) X.env]) :
    PS X (.Assign [.Subscript (.Subscript a e p1) ji p2] ve pos) (tSt X G lk (.sidx2 s i j v)) := by
  refine ps_mono (ps_asg hv (pg_sub (pe_ix ix_seq ho hi n1) hj set_list ha) hs hw h1) fun D σ H q => ?_
  obtain ⟨fr, L, r, fr', ok, l, ee, q⟩ := q
  unfold Tr.exec at ee
  obtain ⟨⟨p1', f1⟩, e1, ee⟩ := bnd ee
  obtain ⟨⟨x, f2⟩, e2, ee⟩ := bnd ee
  dsimp only at ee
  split at ee
  · rename_i n xs0 h0
    obtain ⟨⟨p2', f3⟩, e3, ee⟩ := bnd ee
    dsimp only at ee
    split at ee
    · rename_i av xss bv h1 h2 h3
      obtain ⟨k, e4, ee⟩ := bnd ee
      obtain ⟨ys, e5, ee⟩ := bnd ee
      obtain ⟨m, e6, ee⟩ := mpd ee
      cases ee
      refine ⟨fr, L, p1', f1, ok, l, e1, fun vv H1 ok1 o => ?_⟩
      obtain ⟨ok2, l2⟩ := o.force ok1 e2
      have := int_of l2
      subst this
      obtain ⟨w, hw'⟩ := ok2.has _ _ h0
      refine ⟨w, hw', f2, L, p2', f3, ok2, l2.tail, e3, fun y H3 ok3 o3 => ?_⟩
      obtain ⟨F, r1⟩ := (o3.look1 h1).one
      have := r1.int
      subst this
      have l3 : Live X.K H3 ((w, .oo xss) :: (slots σ (f3.set s none) ++ L)) := o3.live.perm (List.Perm.append_right L (slots_at hw' h2))
      obtain ⟨aa, rfl⟩ := oo_ref l3
      obtain ⟨xs, b, zs, q1, q2, q3, q4, q5, _, q7⟩ := l3.oo_at e5
      obtain ⟨wj, hwj⟩ := ok3.has _ _ h3
      have l4 : Live X.K H3 ((wj, .fz (.int bv)) :: (slots σ (f3.set j none) ++ L)) := o3.live.perm (List.Perm.append_right L (slots_at hwj h3))
      have := int_of l4
      subst this
      refine .inl ⟨aa, xs, av, .ref b, rfl, rfl, SqL.of q1, atI_of q2 e4 q3, _, hwj, b, zs, bv, m, rfl, rfl, q4, by rw [q5]; exact e6, ?_⟩
      have hn : s < f3.length := (List.getElem?_eq_some_iff.mp h2).1
      refine q σ _ (ok3.put hw') KeepL.refl ?_
      refine (q7 m n).perm ?_
      exact (List.Perm.append_right L (slots_put hw' hn)).symm
    · cases ee
  · cases ee
end
end Tr

set_option Elab.async false
set_option linter.all false
set_option maxRecDepth 100000
set_option maxHeartbeats 1000000
/-! Comprehensions that make lists of one's own lists; of two clauses. -/
namespace Tr
open PySem PySem.Spec PyProof.Rows L2
theorem ols_len : ∀ {xs : List Vl} {xss : List (List D)}, olsOf xs = some xss → xss.length = xs.length
  | [], _, h => by unfold olsOf at h; cases h; rfl
  | x :: xs, xss, h => by
    cases x with
    | ol ds =>
      unfold olsOf at h
      obtain ⟨m, h1, rfl⟩ := mpd h
      simp [ols_len h1]
    | _ => unfold olsOf at h; cases h
theorem ev_compO {G : Fs} {elt : E} {tg : Tg} {it : It} {cond : Option E} {ws : List Nat} {fr fr' : Fm} {p : Pd} (h : ev G (.comp elt tg it cond ws true) fr = some (p, fr')) :
    ∃ ds f1 xs xss f2, its G it fr = some (ds, f1) ∧ compN (turnC G elt tg cond ws) ds f1 = some (xs, f2) ∧ okSz xs.length = true ∧ olsOf xs = some xss ∧ p = .st (.oo xss) ∧ fr' = unwipe f1 f2 ws := by
  unfold ev at h
  obtain ⟨⟨ds, f1⟩, e1, h⟩ := bnd h
  obtain ⟨⟨xs, f2⟩, e2, h⟩ := bnd h
  obtain ⟨c, h⟩ := ite_o h
  rw [if_pos rfl] at h
  obtain ⟨xss, e3, h⟩ := mpd h
  cases h
  exact ⟨ds, f1, xs, xss, f2, e1, e2, c, e3, rfl, rfl⟩
section
variable {X : Cx} {G : Fs} {e' : E} {tg' : Tg} {it : It} {cond : Option E} {ws : List Nat}
theorem comp_coreO {σ : St} {H : Hp} {Q : VK} (hws : ∀ i ∈ tg'.ixs, i ∈ ws) (h : tE X G (.comp e' tg' it cond ws true) σ H Q) : tLc (tI X G it) (gT X.K [] tg') (tB' X.K (truO G cond)) (tP X.K (ev G e')) ws σ H Q := by
  obtain ⟨fr, L, p, fr', ok, l, ee, q⟩ := h
  obtain ⟨ds, f1, xs, xss, f2, e1, e2, sz, eo, rfl, rfl⟩ := ev_compO ee
  refine ⟨fr, L, ds, f1, ok, l, e1, fun J H1 A ok1 l1 wk D hD => ?_⟩
  let SW : Fm → List (V × Vl) := fun g => slots (L2.wipe σ ws) (wipeF g ws)
  let W0 := slots σ (keepP ws 0 f1)
  let Pv : Nat → Hp → Prop := fun i H => ∃ (fi : Fm) (acc more : List (List Tr.D)) (rest : List Vl), fi.length = f1.length ∧ SlOk (L2.wipe σ ws) (wipeF fi ws) ∧ Live X.K H ((.ref D, .oo acc) :: (A ++ (SW fi ++ (W0 ++ L)))) ∧
    compN (turnC G e' tg' cond ws) (ds.drop i) fi = some (rest, f2) ∧ olsOf rest = some more ∧ xss = acc ++ more
  refine ⟨fun i m H => m = ds.length - i ∧ i ≤ ds.length ∧ Pv i H, ⟨ds.length, by simp, Nat.zero_le _, f1, [], xss, xs, rfl, ok1.wipe ws, ?_, e2, eo, rfl⟩, ?_⟩
  · refine Live.oo_nil (Live.newLst (vs := []) (ds := []) rfl (l1.perm ?_) hD)
    refine List.Perm.append_left A ?_
    refine (List.Perm.append_right L (slots_split ws)).trans ?_
    show (W0 ++ SW f1 ++ L).Perm (SW f1 ++ (W0 ++ L))
    rw [List.append_assoc]
    exact perm_mid _ _ _
  · rintro i m H ⟨rfl, hi, fi, acc, more, rest, hlen, okw, lv, ec, er, ex⟩
    have lvA : Live X.K H (A ++ ((.ref D, .oo acc) :: (SW fi ++ (W0 ++ L)))) := lv.perm (zip_perm_mid _ _ _)
    by_cases hlt : i < ds.length
    · have hd : ds[i]? = some ds[i] := List.getElem?_eq_getElem hlt
      have hdrop : ds.drop i = ds[i] :: ds.drop (i + 1) := List.drop_eq_getElem_cons hlt
      rw [hdrop] at ec
      unfold compN at ec
      obtain ⟨⟨o, f3⟩, e3, ec⟩ := bnd ec
      obtain ⟨⟨rest', f4⟩, e4, ec⟩ := mpd ec
      have eff := (Prod.mk.inj ec).2
      have ers := (Prod.mk.inj ec).1
      dsimp only at eff ers
      subst eff
      unfold turnC at e3
      obtain ⟨g1, e5, e3⟩ := bnd e3
      obtain ⟨⟨b, g2⟩, e6, e3⟩ := bnd e3
      refine .inr ⟨wk.go i H _ hlt lvA, Pv (i + 1), fun H' p' => ⟨ds.length - (i + 1), by omega, rfl, hlt, p'⟩, fun x H' y => ?_⟩
      have l2 := wk.yld i H x H' _ _ hd lvA y
      let Rest := A ++ ((.ref D, .oo acc) :: (W0 ++ L))
      have l3 : Live X.K H' ((x, .fz ds[i]) :: (slots (L2.wipe σ ws) (wipeF fi ws) ++ Rest)) := by
        refine l2.perm (List.Perm.cons _ ?_)
        show (A ++ ((.ref D, .oo acc) :: (SW fi ++ (W0 ++ L)))).Perm (SW fi ++ (A ++ ((.ref D, .oo acc) :: (W0 ++ L))))
        refine List.Perm.trans ?_ (perm_mid A (SW fi) _)
        exact List.Perm.append_left A (zip_perm_mid _ _ _)
      refine ⟨wipeF fi ws, Rest, .fz ds[i], g1, okw, l3, e5, fun σ2 ok2 kp l4 => ?_⟩
      have len2 : σ2.length = σ.length := by
        rw [ok2.len, (putTg_flen (n := sizeOf tg') (lk := [])).1 (Nat.le_refl _) e5]
        unfold wipeF
        rw [wipeP_len, hlen, ← ok1.len]
      have wsame : L2.wipe σ2 ws = L2.wipe σ ws := by
        refine List.ext_getElem? fun j => ?_
        rw [wipe_at, wipe_at]
        cases hj : ws.contains j with
        | true =>
          rw [if_pos rfl, if_pos rfl]
          by_cases hjl : j < σ.length
          · rw [List.getElem?_eq_getElem hjl, List.getElem?_eq_getElem (by omega)]
            rfl
          · rw [List.getElem?_eq_none (by omega), List.getElem?_eq_none (by omega)]
        | false =>
          rw [if_neg (by decide), if_neg (by decide)]
          have hn : j ∉ tg'.ixs := fun z => by
            have := hws j z
            rw [← List.contains_iff_mem] at this
            rw [hj] at this; cases this
          rw [kp.1 j hn, wipe_at, hj, if_neg (by decide)]
      have again : ∀ {g : Fm} {acc' more' : List (List Tr.D)} {H4 : Hp}, SlOk σ2 g → Live X.K H4 ((.ref D, .oo acc') :: (slots σ2 g ++ (A ++ (W0 ++ L)))) → compN (turnC G e' tg' cond ws) (ds.drop (i + 1)) g = some (rest', f4) → olsOf rest' = some more' → xss = acc' ++ more' → Pv (i + 1) H4 := fun {g acc' more' H4} okg lg eg eo2 exx => by
        refine ⟨g, acc', more', rest', ?_, ?_, ?_, eg, eo2, exx⟩
        · rw [← okg.len, len2, ok1.len]
        · rw [← wsame]; exact okg.wipe ws
        · have lk : Live X.K H4 (slots σ2 (keepP ws 0 g) ++ ((.ref D, .oo acc') :: (A ++ (SW g ++ (W0 ++ L))))) := by
            refine lg.perm ?_
            refine (List.Perm.cons _ (List.Perm.append_right _ (slots_split ws))).trans ?_
            rw [wsame]
            show ((.ref D, .oo acc') :: ((slots σ2 (keepP ws 0 g) ++ SW g) ++ (A ++ (W0 ++ L)))).Perm _
            rw [List.append_assoc]
            refine List.Perm.trans ?_ (zip_perm_mid _ _ _)
            exact List.Perm.cons _ (List.Perm.append_left _ (perm_mid _ _ _))
          exact lk.right
      refine ⟨wsame, g1, Rest, b, g2, ok2, l4, e6, fun H3 ok3 l5 => ?_⟩
      cases b with
      | false =>
        rw [if_neg Bool.false_ne_true] at e3 ⊢
        cases e3
        have ers : rest' = rest := ers
        refine again ok3 (l5.perm ?_) e4 (by rw [ers]; exact er) ex
        show (slots σ2 g2 ++ (A ++ ((.ref D, .oo acc) :: (W0 ++ L)))).Perm _
        refine (List.Perm.append_left _ (zip_perm_mid _ _ _).symm).trans (zip_perm_mid _ _ _).symm
      | true =>
        rw [if_pos rfl] at e3 ⊢
        obtain ⟨⟨p2, g3⟩, e7, e3⟩ := bnd e3
        obtain ⟨⟨x', g4⟩, e8, e3⟩ := mpd e3
        cases e3
        have ers' : x' :: rest' = rest := ers
        rw [← ers'] at er
        obtain ⟨ds0, more', rfl, er2, rfl⟩ : ∃ ds0 more', x' = .ol ds0 ∧ olsOf rest' = some more' ∧ more = ds0 :: more' := by
          cases x' with
          | ol ds0 =>
            unfold olsOf at er
            obtain ⟨m', h1, h2⟩ := mpd er
            exact ⟨ds0, m', rfl, h1, h2.symm⟩
          | _ => unfold olsOf at er; cases er
        refine ⟨g2, Rest, p2, g3, ok3, l5, e7, fun y H4 ok4 o4 => ?_⟩
        obtain ⟨ok5, l6⟩ := o4.force ok4 e8
        have l8 : Live X.K H4 ((.ref D, .oo acc) :: (y, .ol ds0) :: (slots σ2 g4 ++ (A ++ (W0 ++ L)))) := by
          refine l6.perm ?_
          show ((y, .ol ds0) :: (slots σ2 g4 ++ (A ++ ((.ref D, .oo acc) :: (W0 ++ L))))).Perm ((.ref D, .oo acc) :: (y, .ol ds0) :: (slots σ2 g4 ++ (A ++ (W0 ++ L))))
          refine (List.Perm.cons _ ?_).trans (List.Perm.swap _ _ _)
          exact (List.Perm.append_left _ (zip_perm_mid _ _ _).symm).trans (zip_perm_mid _ _ _).symm
        obtain ⟨xd, hH, hxl, lw⟩ := l8.oo_app
        refine ⟨xd, hH, ?_, ?_⟩
        · rw [hxl]
          have z := szOk sz
          have z2 := ols_len eo
          rw [ex, List.length_append, List.length_cons] at z2
          omega
        · exact again ok5 lw e4 er2 (by rw [ex, List.append_assoc, List.singleton_append])
    · have ei : i = ds.length := by omega
      subst ei
      rw [List.drop_length] at ec
      unfold compN at ec
      cases ec
      unfold olsOf at er
      cases er
      rw [List.append_nil] at ex
      subst ex
      refine .inl ⟨wk.stop H _ lvA, q _ H (ok1.unwipe okw hlen.symm) (hold1 (lvA.right.perm (List.Perm.cons _ ?_)))⟩
      refine List.Perm.trans ?_ (List.Perm.append_right L (slots_unwipe ws hlen.symm)).symm
      show (SW f2 ++ (W0 ++ L)).Perm (W0 ++ SW f2 ++ L)
      rw [List.append_assoc]
      exact perm_mid _ _ _
theorem inner_core {σ : L2.St} {H : Hp} {g0 : Fm} {L : List (V × Vl)} {D : Addr} {acc0 xs0 : List Vl} {ds : List Tr.D} {f1 f2 : Fm} {Nx : Hp → Prop} (hws : ∀ i ∈ tg'.ixs, i ∈ ws) (ok : SlOk σ g0) (l : Live X.K H ((.ref D, .ol (froz acc0)) :: (slots σ g0 ++ L)))
    (e1 : its G it g0 = some (ds, f1)) (e2 : compN (turnC G e' tg' cond ws) ds f1 = some (xs0, f2)) (sz : acc0.length + xs0.length ≤ 16777216)
    (fin : ∀ H, f2.length = f1.length → SlOk (L2.wipe σ ws) (wipeF f2 ws) → Live X.K H ((.ref D, .ol (froz (acc0 ++ xs0))) :: (slots (L2.wipe σ ws) (wipeF f2 ws) ++ L)) → Nx H) :
    tI X G it σ H fun J1 H4 => ∃ W1 : Nat → Nat → Hp → Prop, (∃ m, W1 0 m H4) ∧ ∀ j k H, W1 j k H → (J1.stop j H ∧ Nx H) ∨ (J1.go j H ∧ ∃ Nx1 : Hp → Prop, (∀ H', Nx1 H' → ∃ k', k' < k ∧ W1 (j + 1) k' H') ∧ ∀ x H', J1.yld j H x H' →
      gT X.K [] tg' x (L2.wipe σ ws) H' fun σ3 H5 => L2.wipe σ3 ws = L2.wipe σ ws ∧ tB' X.K (truO G cond) σ3 H5 fun b H6 => if b = true then tP X.K (ev G e') σ3 H6 fun y H7 => ∃ acc, H7 D = some (.lst acc) ∧ acc.length < sizeLine ∧ Nx1 (upd H7 D (.lst (acc ++ [y]))) else Nx1 H6) := by
  refine ⟨g0, (.ref D, .ol (froz acc0)) :: L, ds, f1, ok, l.perm (zip_perm_mid _ _ _), e1, fun J H1 A ok1 l1 wk => ?_⟩
  generalize hx : acc0 ++ xs0 = xs at *
  have sz : xs.length ≤ 16777216 := by rw [← hx, List.length_append]; exact sz
  let SW : Fm → List (V × Vl) := fun g => slots (L2.wipe σ ws) (wipeF g ws)
  let W0 := slots σ (keepP ws 0 f1)
  let Pv : Nat → Hp → Prop := fun i H => ∃ (fi : Fm) (acc rest : List Vl), fi.length = f1.length ∧ SlOk (L2.wipe σ ws) (wipeF fi ws) ∧ Live X.K H ((.ref D, .ol (froz acc)) :: (A ++ (SW fi ++ (W0 ++ L)))) ∧
    compN (turnC G e' tg' cond ws) (ds.drop i) fi = some (rest, f2) ∧ xs = acc ++ rest
  refine ⟨fun i m H => m = ds.length - i ∧ i ≤ ds.length ∧ Pv i H, ⟨ds.length, by simp, Nat.zero_le _, f1, acc0, xs0, rfl, ok1.wipe ws, ?_, e2, hx.symm⟩, ?_⟩
  · have l2 : Live X.K H1 ((.ref D, .ol (froz acc0)) :: (A ++ (slots σ f1 ++ L))) := l1.perm ((List.Perm.append_left A (zip_perm_mid _ _ _).symm).trans (zip_perm_mid _ _ _).symm)
    refine l2.perm (List.Perm.cons _ (List.Perm.append_left A ?_))
    refine (List.Perm.append_right L (slots_split ws)).trans ?_
    show (W0 ++ SW f1 ++ L).Perm (SW f1 ++ (W0 ++ L))
    rw [List.append_assoc]
    exact perm_mid _ _ _
  · rintro i m H ⟨rfl, hi, fi, acc, rest, hlen, okw, lv, ec, ex⟩
    have lvA : Live X.K H (A ++ ((.ref D, .ol (froz acc)) :: (SW fi ++ (W0 ++ L)))) := lv.perm (zip_perm_mid _ _ _)
    by_cases hlt : i < ds.length
    · have hd : ds[i]? = some ds[i] := List.getElem?_eq_getElem hlt
      have hdrop : ds.drop i = ds[i] :: ds.drop (i + 1) := List.drop_eq_getElem_cons hlt
      rw [hdrop] at ec
      unfold compN at ec
      obtain ⟨⟨o, f3⟩, e3, ec⟩ := bnd ec
      obtain ⟨⟨rest', f4⟩, e4, ec⟩ := mpd ec
      have eff := (Prod.mk.inj ec).2
      have ers := (Prod.mk.inj ec).1
      dsimp only at eff ers
      subst eff
      unfold turnC at e3
      obtain ⟨g1, e5, e3⟩ := bnd e3
      obtain ⟨⟨b, g2⟩, e6, e3⟩ := bnd e3
      refine .inr ⟨wk.go i H _ hlt lvA, Pv (i + 1), fun H' p' => ⟨ds.length - (i + 1), by omega, rfl, hlt, p'⟩, fun x H' y => ?_⟩
      have l2 := wk.yld i H x H' _ _ hd lvA y
      let Rest := A ++ ((.ref D, .ol (froz acc)) :: (W0 ++ L))
      have l3 : Live X.K H' ((x, .fz ds[i]) :: (slots (L2.wipe σ ws) (wipeF fi ws) ++ Rest)) := by
        refine l2.perm (List.Perm.cons _ ?_)
        show (A ++ ((.ref D, .ol (froz acc)) :: (SW fi ++ (W0 ++ L)))).Perm (SW fi ++ (A ++ ((.ref D, .ol (froz acc)) :: (W0 ++ L))))
        refine List.Perm.trans ?_ (perm_mid A (SW fi) _)
        exact List.Perm.append_left A (zip_perm_mid _ _ _)
      refine ⟨wipeF fi ws, Rest, .fz ds[i], g1, okw, l3, e5, fun σ2 ok2 kp l4 => ?_⟩
      have len2 : σ2.length = σ.length := by
        rw [ok2.len, (putTg_flen (n := sizeOf tg') (lk := [])).1 (Nat.le_refl _) e5]
        unfold wipeF
        rw [wipeP_len, hlen, ← ok1.len]
      have wsame : L2.wipe σ2 ws = L2.wipe σ ws := by
        refine List.ext_getElem? fun j => ?_
        rw [wipe_at, wipe_at]
        cases hj : ws.contains j with
        | true =>
          rw [if_pos rfl, if_pos rfl]
          by_cases hjl : j < σ.length
          · rw [List.getElem?_eq_getElem hjl, List.getElem?_eq_getElem (by omega)]
            rfl
          · rw [List.getElem?_eq_none (by omega), List.getElem?_eq_none (by omega)]
        | false =>
          rw [if_neg (by decide), if_neg (by decide)]
          have hn : j ∉ tg'.ixs := fun z => by
            have := hws j z
            rw [← List.contains_iff_mem] at this
            rw [hj] at this; cases this
          rw [kp.1 j hn, wipe_at, hj, if_neg (by decide)]
      have again : ∀ {g : Fm} {acc' : List Vl} {H4 : Hp}, SlOk σ2 g → Live X.K H4 ((.ref D, .ol (froz acc')) :: (slots σ2 g ++ (A ++ (W0 ++ L)))) → compN (turnC G e' tg' cond ws) (ds.drop (i + 1)) g = some (rest', f4) → xs = acc' ++ rest' → Pv (i + 1) H4 := fun {g acc' H4} okg lg eg exx => by
        refine ⟨g, acc', rest', ?_, ?_, ?_, eg, exx⟩
        · rw [← okg.len, len2, ok1.len]
        · rw [← wsame]; exact okg.wipe ws
        · have lk : Live X.K H4 (slots σ2 (keepP ws 0 g) ++ ((.ref D, .ol (froz acc')) :: (A ++ (SW g ++ (W0 ++ L))))) := by
            refine lg.perm ?_
            refine (List.Perm.cons _ (List.Perm.append_right _ (slots_split ws))).trans ?_
            rw [wsame]
            show ((.ref D, .ol (froz acc')) :: ((slots σ2 (keepP ws 0 g) ++ SW g) ++ (A ++ (W0 ++ L)))).Perm _
            rw [List.append_assoc]
            refine List.Perm.trans ?_ (zip_perm_mid _ _ _)
            exact List.Perm.cons _ (List.Perm.append_left _ (perm_mid _ _ _))
          exact lk.right
      refine ⟨wsame, g1, Rest, b, g2, ok2, l4, e6, fun H3 ok3 l5 => ?_⟩
      cases b with
      | false =>
        rw [if_neg Bool.false_ne_true] at e3 ⊢
        cases e3
        refine again ok3 (l5.perm ?_) e4 (by rw [ex, ← ers])
        show (slots σ2 g2 ++ (A ++ ((.ref D, .ol (froz acc)) :: (W0 ++ L)))).Perm _
        refine (List.Perm.append_left _ (zip_perm_mid _ _ _).symm).trans (zip_perm_mid _ _ _).symm
      | true =>
        rw [if_pos rfl] at e3 ⊢
        obtain ⟨⟨p2, g3⟩, e7, e3⟩ := bnd e3
        obtain ⟨⟨x', g4⟩, e8, e3⟩ := mpd e3
        cases e3
        refine ⟨g2, Rest, p2, g3, ok3, l5, e7, fun y H4 ok4 o4 => ?_⟩
        obtain ⟨ok5, l6⟩ := o4.force ok4 e8
        have l7 := l6.freeze (force_own e8)
        have l8 : Live X.K H4 ((.ref D, .ol (froz acc)) :: ([y].zip ([x'.strip].map Vl.fz) ++ (slots σ2 g4 ++ (A ++ (W0 ++ L))))) := by
          refine l7.perm ?_
          show ((y, .fz x'.strip) :: (slots σ2 g4 ++ (A ++ ((.ref D, .ol (froz acc)) :: (W0 ++ L))))).Perm ((.ref D, .ol (froz acc)) :: (y, .fz x'.strip) :: (slots σ2 g4 ++ (A ++ (W0 ++ L))))
          refine (List.Perm.cons _ ?_).trans (List.Perm.swap _ _ _)
          exact (List.Perm.append_left _ (zip_perm_mid _ _ _).symm).trans (zip_perm_mid _ _ _).symm
        obtain ⟨xd, hH, hxl, wr⟩ := l8.write (ds' := froz (acc ++ [x'])) rfl
        have ers' : x' :: rest' = rest := ers
        refine ⟨xd, hH, ?_, ?_⟩
        · rw [hxl, froz_len]
          have z := sz
          rw [sizeLine_eq]
          rw [ex, ← ers', List.length_append, List.length_cons] at z
          omega
        · refine again ok5 (wr (xd ++ [y]) fun F r1 r2 => ?_) e4 (by rw [ex, ← ers', List.append_assoc, List.singleton_append])
          have : froz (acc ++ [x']) = froz acc ++ [x'.strip] := by unfold froz; rw [List.map_append]; rfl
          rw [this]
          exact r1.append r2
    · have ei : i = ds.length := by omega
      subst ei
      rw [List.drop_length] at ec
      unfold compN at ec
      cases ec
      rw [List.append_nil] at ex
      subst ex
      refine .inl ⟨wk.stop H _ lvA, fin H hlen okw ?_⟩
      have l9 : Live X.K H (A ++ (W0 ++ ((.ref D, .ol (froz xs)) :: (SW f2 ++ L)))) := by
        refine lvA.perm (List.Perm.append_left A ?_)
        show ((.ref D, .ol (froz xs)) :: (SW f2 ++ (W0 ++ L))).Perm (W0 ++ ((.ref D, .ol (froz xs)) :: (SW f2 ++ L)))
        refine (List.Perm.cons _ (perm_mid _ _ _)).trans (zip_perm_mid _ _ _)
      exact l9.right.right
end
theorem wipe_wipe {σ : L2.St} {ws ws1 : List Nat} (h : ∀ i ∈ ws1, i ∈ ws) : L2.wipe (L2.wipe σ ws1) ws = L2.wipe σ ws := by
  refine List.ext_getElem? fun j => ?_
  rw [wipe_at, wipe_at, wipe_at]
  cases hj : ws.contains j with
  | true =>
    rw [if_pos rfl, if_pos rfl]
    split
    · rw [Option.map_map]; rfl
    · rfl
  | false =>
    have : ws1.contains j = false := by
      refine Bool.eq_false_iff.mpr fun z => ?_
      have := h j (List.contains_iff_mem.mp z)
      rw [← List.contains_iff_mem, hj] at this
      cases this
    rw [this]
    rfl
theorem wipeF_wipe {f : Fm} {ws ws1 : List Nat} (h : ∀ i ∈ ws1, i ∈ ws) : wipeF (wipeF f ws1) ws = wipeF f ws := by
  unfold wipeF
  refine List.ext_getElem? fun j => ?_
  rw [wipeP_at, wipeP_at, wipeP_at]
  simp only [Nat.zero_add]
  cases hj : ws.contains j with
  | true =>
    rw [if_pos rfl, if_pos rfl]
    split
    · rw [Option.map_map]; rfl
    · rfl
  | false =>
    have : ws1.contains j = false := by
      refine Bool.eq_false_iff.mpr fun z => ?_
      have := h j (List.contains_iff_mem.mp z)
      rw [← List.contains_iff_mem, hj] at this
      cases this
    rw [this]
    rfl
def turn2 (G : Fs) (elt : E) (tg : Tg) (cond : Option E) (tg1 : Tg) (it1 : It) (cond1 : Option E) (ws ws1 : List Nat) : Tr.D → Fm → R (List Vl) := fun d fr1 =>
  (putTg [] tg (.fz d) (wipeF fr1 ws)).bind fun fr2 => (truO G cond fr2).bind fun t => if t.1 then (its G it1 t.2).bind fun q1 => compN (turnC G elt tg1 cond1 ws1) q1.1 q1.2 else some ([], t.2)
theorem ev_comp2 {G : Fs} {elt : E} {tg : Tg} {it : It} {cond : Option E} {tg1 : Tg} {it1 : It} {cond1 : Option E} {ws ws1 : List Nat} {fr fr' : Fm} {p : Pd} (h : ev G (.comp2 elt tg it cond tg1 it1 cond1 ws ws1) fr = some (p, fr')) :
    ∃ ds f1 xs f2, its G it fr = some (ds, f1) ∧ compFl (turn2 G elt tg cond tg1 it1 cond1 ws ws1) ds f1 = some (xs, f2) ∧ okSz xs.length = true ∧ p = .st (.ol (froz xs)) ∧ fr' = unwipe f1 f2 ws := by
  unfold ev at h
  obtain ⟨⟨ds, f1⟩, e1, h⟩ := bnd h
  obtain ⟨⟨xs, f2⟩, e2, h⟩ := bnd h
  obtain ⟨c, h⟩ := ite_o h
  cases h
  exact ⟨ds, f1, xs, f2, e1, e2, c, rfl, rfl⟩
theorem compN_len {turn : Tr.D → Fm → R (Option Vl)} (ht : ∀ d f r f', turn d f = some (r, f') → f'.length = f.length) : ∀ {ds : List Tr.D} {f : Fm} {xs : List Vl} {f' : Fm}, compN turn ds f = some (xs, f') → f'.length = f.length
  | [], f, xs, f', h => by unfold compN at h; cases h; rfl
  | d :: ds, f, xs, f', h => by
    unfold compN at h
    obtain ⟨⟨r, f1⟩, e1, h⟩ := bnd h
    obtain ⟨⟨q, f2⟩, e2, h⟩ := mpd h
    cases h
    rw [compN_len ht e2, ht _ _ _ _ e1]
section
variable {X : Cx} {G : Fs} {e' : E} {tg' : Tg} {it : It} {cond : Option E} {ws : List Nat}
theorem comp2_core {σ : St} {H : Hp} {Q : VK} {tg1 : Tg} {it1 : It} {cond1 : Option E} {ws1 : List Nat} (hws : ∀ i ∈ tg'.ixs, i ∈ ws) (hws1 : ∀ i ∈ tg1.ixs, i ∈ ws1) (hsub : ∀ i ∈ ws1, i ∈ ws) (h : tE X G (.comp2 e' tg' it cond tg1 it1 cond1 ws ws1) σ H Q) : tLc2 (tI X G it) (gT X.K [] tg') (tB' X.K (truO G cond)) (tI X G it1) (gT X.K [] tg1) (tB' X.K (truO G cond1)) (tP X.K (ev G e')) ws ws1 σ H Q := by
  obtain ⟨fr, L, p, fr', ok, l, ee, q⟩ := h
  obtain ⟨ds, f1, xs, f2, e1, e2, sz, rfl, rfl⟩ := ev_comp2 ee
  refine ⟨fr, L, ds, f1, ok, l, e1, fun J H1 A ok1 l1 wk D hD => ?_⟩
  let SW : Fm → List (V × Vl) := fun g => slots (L2.wipe σ ws) (wipeF g ws)
  let W0 := slots σ (keepP ws 0 f1)
  let Pv : Nat → Hp → Prop := fun i H => ∃ (fi : Fm) (acc rest : List Vl), fi.length = f1.length ∧ SlOk (L2.wipe σ ws) (wipeF fi ws) ∧ Live X.K H ((.ref D, .ol (froz acc)) :: (A ++ (SW fi ++ (W0 ++ L)))) ∧
    compFl (turn2 G e' tg' cond tg1 it1 cond1 ws ws1) (ds.drop i) fi = some (rest, f2) ∧ xs = acc ++ rest
  refine ⟨fun i m H => m = ds.length - i ∧ i ≤ ds.length ∧ Pv i H, ⟨ds.length, by simp, Nat.zero_le _, f1, [], xs, rfl, ok1.wipe ws, ?_, e2, rfl⟩, ?_⟩
  · refine Live.newLst (vs := []) (ds := []) rfl (l1.perm ?_) hD
    refine List.Perm.append_left A ?_
    refine (List.Perm.append_right L (slots_split ws)).trans ?_
    show (W0 ++ SW f1 ++ L).Perm (SW f1 ++ (W0 ++ L))
    rw [List.append_assoc]
    exact perm_mid _ _ _
  · rintro i m H ⟨rfl, hi, fi, acc, rest, hlen, okw, lv, ec, ex⟩
    have lvA : Live X.K H (A ++ ((.ref D, .ol (froz acc)) :: (SW fi ++ (W0 ++ L)))) := lv.perm (zip_perm_mid _ _ _)
    by_cases hlt : i < ds.length
    · have hd : ds[i]? = some ds[i] := List.getElem?_eq_getElem hlt
      have hdrop : ds.drop i = ds[i] :: ds.drop (i + 1) := List.drop_eq_getElem_cons hlt
      rw [hdrop] at ec
      unfold compFl at ec
      obtain ⟨⟨o, f3⟩, e3, ec⟩ := bnd ec
      obtain ⟨⟨rest', f4⟩, e4, ec⟩ := mpd ec
      have eff := (Prod.mk.inj ec).2
      have ers := (Prod.mk.inj ec).1
      dsimp only at eff ers
      subst eff
      unfold turn2 at e3
      obtain ⟨g1, e5, e3⟩ := bnd e3
      obtain ⟨⟨b, g2⟩, e6, e3⟩ := bnd e3
      refine .inr ⟨wk.go i H _ hlt lvA, Pv (i + 1), fun H' p' => ⟨ds.length - (i + 1), by omega, rfl, hlt, p'⟩, fun x H' y => ?_⟩
      have l2 := wk.yld i H x H' _ _ hd lvA y
      let Rest := A ++ ((.ref D, .ol (froz acc)) :: (W0 ++ L))
      have l3 : Live X.K H' ((x, .fz ds[i]) :: (slots (L2.wipe σ ws) (wipeF fi ws) ++ Rest)) := by
        refine l2.perm (List.Perm.cons _ ?_)
        show (A ++ ((.ref D, .ol (froz acc)) :: (SW fi ++ (W0 ++ L)))).Perm (SW fi ++ (A ++ ((.ref D, .ol (froz acc)) :: (W0 ++ L))))
        refine List.Perm.trans ?_ (perm_mid A (SW fi) _)
        exact List.Perm.append_left A (zip_perm_mid _ _ _)
      refine ⟨wipeF fi ws, Rest, .fz ds[i], g1, okw, l3, e5, fun σ2 ok2 kp l4 => ?_⟩
      have len2 : σ2.length = σ.length := by
        rw [ok2.len, (putTg_flen (n := sizeOf tg') (lk := [])).1 (Nat.le_refl _) e5]
        unfold wipeF
        rw [wipeP_len, hlen, ← ok1.len]
      have wsame : L2.wipe σ2 ws = L2.wipe σ ws := by
        refine List.ext_getElem? fun j => ?_
        rw [wipe_at, wipe_at]
        cases hj : ws.contains j with
        | true =>
          rw [if_pos rfl, if_pos rfl]
          by_cases hjl : j < σ.length
          · rw [List.getElem?_eq_getElem hjl, List.getElem?_eq_getElem (by omega)]
            rfl
          · rw [List.getElem?_eq_none (by omega), List.getElem?_eq_none (by omega)]
        | false =>
          rw [if_neg (by decide), if_neg (by decide)]
          have hn : j ∉ tg'.ixs := fun z => by
            have := hws j z
            rw [← List.contains_iff_mem] at this
            rw [hj] at this; cases this
          rw [kp.1 j hn, wipe_at, hj, if_neg (by decide)]
      have again : ∀ {g : Fm} {acc' : List Vl} {H4 : Hp}, SlOk σ2 g → Live X.K H4 ((.ref D, .ol (froz acc')) :: (slots σ2 g ++ (A ++ (W0 ++ L)))) → compFl (turn2 G e' tg' cond tg1 it1 cond1 ws ws1) (ds.drop (i + 1)) g = some (rest', f4) → xs = acc' ++ rest' → Pv (i + 1) H4 := fun {g acc' H4} okg lg eg exx => by
        refine ⟨g, acc', rest', ?_, ?_, ?_, eg, exx⟩
        · rw [← okg.len, len2, ok1.len]
        · rw [← wsame]; exact okg.wipe ws
        · have lk : Live X.K H4 (slots σ2 (keepP ws 0 g) ++ ((.ref D, .ol (froz acc')) :: (A ++ (SW g ++ (W0 ++ L))))) := by
            refine lg.perm ?_
            refine (List.Perm.cons _ (List.Perm.append_right _ (slots_split ws))).trans ?_
            rw [wsame]
            show ((.ref D, .ol (froz acc')) :: ((slots σ2 (keepP ws 0 g) ++ SW g) ++ (A ++ (W0 ++ L)))).Perm _
            rw [List.append_assoc]
            refine List.Perm.trans ?_ (zip_perm_mid _ _ _)
            exact List.Perm.cons _ (List.Perm.append_left _ (perm_mid _ _ _))
          exact lk.right
      refine ⟨wsame, g1, Rest, b, g2, ok2, l4, e6, fun H3 ok3 l5 => ?_⟩
      cases b with
      | false =>
        rw [if_neg Bool.false_ne_true] at e3 ⊢
        cases e3
        refine again ok3 (l5.perm ?_) e4 (by rw [ex, ← ers]; rfl)
        show (slots σ2 g2 ++ (A ++ ((.ref D, .ol (froz acc)) :: (W0 ++ L)))).Perm _
        refine (List.Perm.append_left _ (zip_perm_mid _ _ _).symm).trans (zip_perm_mid _ _ _).symm
      | true =>
        rw [if_pos rfl] at e3 ⊢
        obtain ⟨⟨ds1, g3⟩, e7, e3⟩ := bnd e3
        have ers' : o ++ rest' = rest := ers
        have l6 : Live X.K H3 ((.ref D, .ol (froz acc)) :: (slots σ2 g2 ++ (A ++ (W0 ++ L)))) := by
          refine l5.perm ?_
          show (slots σ2 g2 ++ (A ++ ((.ref D, .ol (froz acc)) :: (W0 ++ L)))).Perm _
          exact (List.Perm.append_left _ (zip_perm_mid _ _ _).symm).trans (zip_perm_mid _ _ _).symm
        have zz : acc.length + o.length ≤ 16777216 := by
          have z := szOk sz
          rw [sizeLine_eq] at z
          rw [ex, ← ers', List.length_append, List.length_append] at z
          omega
        refine inner_core hws1 ok3 l6 e7 e3 zz fun H5 hl5 ok5 l7 => ?_
        have e9 : L2.wipe (L2.wipe σ2 ws1) ws = L2.wipe σ ws := (wipe_wipe hsub).trans wsame
        have ok6 := ok5.wipe ws
        rw [e9, wipeF_wipe hsub] at ok6
        refine ⟨f3, acc ++ o, rest', ?_, ok6, ?_, e4, by rw [ex, ← ers', List.append_assoc]⟩
        · have h1 := ok5.len
          unfold wipeF at h1
          rw [wipeP_len] at h1
          have h2 : (L2.wipe σ2 ws1).length = σ2.length := by rw [wipe_eq, wipeP_len]
          rw [← h1, h2, len2, ok1.len]
        · have lk : Live X.K H5 (slots (L2.wipe σ2 ws1) (keepP ws 0 (wipeF f3 ws1)) ++ ((.ref D, .ol (froz (acc ++ o))) :: (A ++ (SW f3 ++ (W0 ++ L))))) := by
            refine l7.perm ?_
            refine (List.Perm.cons _ (List.Perm.append_right _ (slots_split ws))).trans ?_
            rw [e9, wipeF_wipe hsub]
            show ((.ref D, .ol (froz (acc ++ o))) :: ((slots (L2.wipe σ2 ws1) (keepP ws 0 (wipeF f3 ws1)) ++ SW f3) ++ (A ++ (W0 ++ L)))).Perm _
            rw [List.append_assoc]
            refine List.Perm.trans ?_ (zip_perm_mid _ _ _)
            exact List.Perm.cons _ (List.Perm.append_left _ (perm_mid _ _ _))
          exact lk.right
    · have ei : i = ds.length := by omega
      subst ei
      rw [List.drop_length] at ec
      unfold compFl at ec
      cases ec
      rw [List.append_nil] at ex
      subst ex
      refine .inl ⟨wk.stop H _ lvA, q _ H (ok1.unwipe okw hlen.symm) (hold1 (lvA.right.perm (List.Perm.cons _ ?_)))⟩
      refine List.Perm.trans ?_ (List.Perm.append_right L (slots_unwipe ws hlen.symm)).symm
      show (SW f2 ++ (W0 ++ L)).Perm (W0 ++ SW f2 ++ L)
      rw [List.append_assoc]
      exact perm_mid _ _ _
end
end Tr

set_option Elab.async false
set_option linter.all false
set_option maxRecDepth 100000
set_option maxHeartbeats 1000000
/-! Calls by names. -/
namespace Tr
open PySem PySem.Spec PyProof.Rows L2
theorem pickP_map {α β : Type} (f : α → β) (xs : List α) : ∀ (perm : List Nat) {ys : List α}, pickP xs perm = some ys → pickP (xs.map f) perm = some (ys.map f)
  | [], ys, h => by unfold pickP at h; cases h; rfl
  | i :: is, ys, h => by
    unfold pickP at h
    obtain ⟨x, e1, h⟩ := bnd h
    obtain ⟨zs, e2, rfl⟩ := mpd h
    unfold pickP
    rw [List.getElem?_map, e1]
    simp only [Option.map_some, Option.bind_some, pickP_map f xs is e2]
    rfl
theorem pickP_len {α : Type} {xs : List α} : ∀ {perm : List Nat} {ys : List α}, pickP xs perm = some ys → ys.length = perm.length
  | [], ys, h => by unfold pickP at h; cases h; rfl
  | i :: is, ys, h => by
    unfold pickP at h
    obtain ⟨x, e1, h⟩ := bnd h
    obtain ⟨zs, e2, rfl⟩ := mpd h
    simp [pickP_len e2]
theorem pickP_is {α : Type} {xs : List α} : ∀ {perm : List Nat}, (∀ i ∈ perm, i < xs.length) → ∃ ys, pickP xs perm = some ys
  | [], _ => ⟨[], rfl⟩
  | i :: is, h => by
    obtain ⟨ys, e⟩ := pickP_is (xs := xs) (perm := is) fun j hj => h j (List.mem_cons_of_mem _ hj)
    refine ⟨xs[i]'(h i List.mem_cons_self) :: ys, ?_⟩
    unfold pickP
    rw [List.getElem?_eq_getElem (h i List.mem_cons_self), e]
    rfl
theorem pickP_fmap {α β : Type} (f : α → Option β) (xs : List α) : ∀ (perm : List Nat) {ys : List α}, pickP xs perm = some ys → ys.filterMap f = perm.filterMap fun i => (xs[i]?).bind f
  | [], ys, h => by unfold pickP at h; cases h; rfl
  | i :: is, ys, h => by
    unfold pickP at h
    obtain ⟨x, e1, h⟩ := bnd h
    obtain ⟨zs, e2, rfl⟩ := mpd h
    rw [List.filterMap_cons, List.filterMap_cons, e1, pickP_fmap f xs is e2]
    rfl
def permOk (perm : List Nat) (n : Nat) : Bool := perm.isPerm (List.range n)
theorem permOk_perm {perm : List Nat} {n : Nat} (h : permOk perm n = true) : perm.Perm (List.range n) ∧ ∀ i ∈ perm, i < n := by
  have p := List.isPerm_iff.mp h
  exact ⟨p, fun i hi => List.mem_range.mp (p.mem_iff.mp hi)⟩
theorem range_fmap {α β : Type} (f : α → Option β) : ∀ (xs : List α), (List.range xs.length).filterMap (fun i => (xs[i]?).bind f) = xs.filterMap f := by
  intro xs
  induction xs with
  | nil => rfl
  | cons x xs ih =>
    rw [List.length_cons, List.range_succ_eq_map, List.filterMap_cons, List.filterMap_map, List.filterMap_cons]
    have e : ((fun i => ((x :: xs)[i]?).bind f) ∘ Nat.succ) = fun i => (xs[i]?).bind f := by
      funext i
      simp
    rw [e, ih]
    rfl
theorem pick_perm {α β : Type} (f : α → Option β) {xs ys : List α} {perm : List Nat} (hp : permOk perm xs.length = true) (h : pickP xs perm = some ys) : (ys.filterMap f).Perm (xs.filterMap f) := by
  rw [pickP_fmap f xs perm h, ← range_fmap f xs]
  exact (permOk_perm hp).1.filterMap _
theorem pit_fmap : ∀ {vs : List V} {ps : List Pd}, pit vs ps = (vs.zip ps).filterMap fun q => match q.2 with
    | .st x => some (q.1, x)
    | .sl _ => none
  | [], _ => by simp [pit]
  | _ :: _, [] => by simp [pit]
  | v :: vs, p :: ps => by
    have ih := pit_fmap (vs := vs) (ps := ps)
    cases p <;> simp [pit, ih]
theorem pickP_zip {α β : Type} : ∀ {xs : List α} {ys : List β} {perm : List Nat} {us : List α} {ws : List β}, pickP xs perm = some us → pickP ys perm = some ws → pickP (xs.zip ys) perm = some (us.zip ws)
  | xs, ys, [], us, ws, h1, h2 => by unfold pickP at h1 h2; cases h1; cases h2; rfl
  | xs, ys, i :: is, us, ws, h1, h2 => by
    unfold pickP at h1 h2
    obtain ⟨x, e1, h1⟩ := bnd h1
    obtain ⟨us', e2, rfl⟩ := mpd h1
    obtain ⟨y, e3, h2⟩ := bnd h2
    obtain ⟨ws', e4, rfl⟩ := mpd h2
    unfold pickP
    rw [(List.getElem?_zip_eq_some (z := (x, y))).mpr ⟨e1, e3⟩, pickP_zip e2 e4]
    rfl
theorem paired_get {α β : Type} {R : α → β → Prop} : ∀ {xs : List α} {ys : List β} {i : Nat} {x : α} {y : β}, Paired R xs ys → xs[i]? = some x → ys[i]? = some y → R x y
  | _, _, _, _, _, .nil, e, _ => by simp at e
  | _, _, 0, _, _, .cons r _, e1, e2 => by simp at e1 e2; rw [← e1, ← e2]; exact r
  | _, _, i + 1, _, _, .cons _ t, e1, e2 => paired_get (i := i) t (by simpa using e1) (by simpa using e2)
theorem pickP_paired {α β : Type} {R : α → β → Prop} : ∀ {xs : List α} {ys : List β} {perm : List Nat} {us : List α} {ws : List β}, Paired R xs ys → pickP xs perm = some us → pickP ys perm = some ws → Paired R us ws
  | xs, ys, [], us, ws, _, h1, h2 => by unfold pickP at h1 h2; cases h1; cases h2; exact .nil
  | xs, ys, i :: is, us, ws, hp, h1, h2 => by
    unfold pickP at h1 h2
    obtain ⟨x, e1, h1⟩ := bnd h1
    obtain ⟨us', e2, rfl⟩ := mpd h1
    obtain ⟨y, e3, h2⟩ := bnd h2
    obtain ⟨ws', e4, rfl⟩ := mpd h2
    exact .cons (paired_get hp e1 e3) (pickP_paired hp e2 e4)
theorem Hold.pick {K : PySem.W.Frag} {σ : St} {fr : Fm} {H : Hp} {vs us : List V} {ps qs : List Pd} {perm : List Nat} {L : List (V × Vl)} (o : Hold K σ fr H vs ps L) (hp : permOk perm vs.length = true) (h1 : pickP vs perm = some us) (h2 : pickP ps perm = some qs) : Hold K σ fr H us qs L := by
  obtain ⟨o1, o2⟩ := o
  refine ⟨pickP_paired o1 h1 h2, o2.perm (List.Perm.append_right _ ?_)⟩
  rw [pit_fmap, pit_fmap]
  have hl := pok_length o1
  have hz : (vs.zip ps).length = vs.length := by rw [List.length_zip, hl]; omega
  exact (pick_perm _ (by rw [hz]; exact hp) (pickP_zip h1 h2)).symm
/-- how a call by names binds -/
def KwB (fd : FuncData) (ps ks : List Str) (perm : List Nat) : Prop := ∀ (s : Shared) (ws : List Value), ws.length = ks.length → ∃ us, pickP ws perm = some us ∧ us.length = ps.length ∧ BindsTo s fd ⟨[], ks.zip ws⟩ (ps.zip us)
def tCallGK (sp : SpG) (perm : List Nat) (t : TA) : TE := fun σ H Q => t σ H fun zs H1 => ∃ vs, pickP zs perm = some vs ∧ sp vs H1 Q
section
variable {X : Cx} {G : Fs} {k : Nat} {f : Addr} {fd : FuncData} {ps ks : List Str} {perm : List Nat} {sp : SpG} {x : Str} {p pos kp : Pos} {a : Expr} {i : E} {is : List E} {kws : List Keyword} {t t' : TA} {nm : Option Str}
theorem pk_mono (h : PK X kws t) (m : ∀ σ H Q, t' σ H Q → t σ H Q) : PK X kws t' := ⟨fun pos pins s σ H Q hI hq => h.run pos pins s σ H Q hI (m σ H Q hq)⟩
theorem k_nil : PK X [] (tAs X G []) := by
  refine pk_mono pk_nil fun σ H Q q => ?_
  obtain ⟨fr, L, ps, fr', ok, l, ee, q⟩ := q
  unfold evs at ee
  cases ee
  exact q [] H ok ⟨.nil, l⟩
theorem k_cons (ha : PE X a (tE X G i)) (hr : PK X kws (tAs X G is)) : PK X (⟨nm, a, kp⟩ :: kws) (tAs X G (i :: is)) := by
  refine pk_mono (pk_cons ha hr) fun σ H Q q => ?_
  obtain ⟨fr, L, ps, fr', ok, l, ee, q⟩ := q
  unfold evs at ee
  obtain ⟨⟨p1, f1⟩, e1, ee⟩ := bnd ee
  obtain ⟨⟨ps2, f2⟩, e2, ee⟩ := mpd ee
  cases ee
  refine ⟨fr, L, p1, f1, ok, l, e1, fun v H1 ok1 o => ⟨f1, pit [v] [p1] ++ L, ps2, f2, ok1, o.aside, e2, fun vs H2 ok2 o2 => q (v :: vs) H2 ok2 ?_⟩⟩
  exact Hold.more (vs := [v]) (ps := [p1]) o.1 o2
theorem pe_callGK (F : FnG X.prog X.w X.K X.mg X.base k f fd ps sp) (hr : Room k X.A) (hgu : X.A.guards = some []) (hg : Gl X x) (hm : X.mg x = some (.ref f)) (hk : PySem.W.keepIn X.K (.ref f) = true) (hb : KwB fd ps ks perm)
    (hkw : PK X kws t) (hall : (backToKw pos (keywordEach kws X.env)).all (·.1.isSome) = true) (hks : (backToKw pos (keywordEach kws X.env)).filterMap (·.1) = ks) (hlen : ∀ σ H Q, t σ H Q → t σ H fun zs H' => zs.length = ks.length ∧ Q zs H') (hdb : (x == ("__debug__" : Str)) = false)
    (hpl : ((backTo pos (starEach [] X.env)).any (·.1) || (backToKw pos (keywordEach kws X.env)).any (·.1.isNone)) = false) :
    PE X (.Call (.Name x p) [] kws pos) (tCallGK sp perm t) := by
  refine ⟨fun pins s σ H Q I h => ?_⟩
  refine wpAny_Call_Name_kw (ld_glob I hg hm ?_ hdb)
  refine PySem.W.callWith_KW0 (h₀ := X.base) I.ok.mod.kin hk hall (thn (hkw.run pos pins s σ H _ I (hlen σ H _ h)) fun ws s1 ⟨zs, H1, I1, rz, hl, q⟩ => ⟨I1.kIn, ?_⟩) hpl
  rw [hks]
  obtain ⟨vs, e1, q⟩ := q
  have hwl : ws.length = ks.length := by rw [← rz.length]; exact hl
  obtain ⟨us, e2, e3, hb'⟩ := hb s1 ws hwl
  have rv : Vals vs us := pickP_paired rz e1 e2
  refine wpAny_call (codeAny_mono (F.run X.A X.stack s1 H1 ⟨[], ks.zip ws⟩ us vs Q hr hgu I1.env0 hb' rv q) fun r s' hq => ?_)
  cases r with
  | error e => exact False.elim hq
  | ok fl =>
    cases fl with
    | next => exact False.elim hq
    | ret u => exact I1.after hq
    | brk => exact False.elim hq
    | cont => exact False.elim hq
theorem evs_len : ∀ {is : List E} {fr fr' : Fm} {ps : List Pd}, evs G is fr = some (ps, fr') → ps.length = is.length
  | [], _, _, _, h => by unfold evs at h; cases h; rfl
  | i :: is, fr, fr', ps, h => by
    unfold evs at h
    obtain ⟨⟨p1, f1⟩, e1, h⟩ := bnd h
    obtain ⟨⟨ps2, f2⟩, e2, h⟩ := mpd h
    cases h
    simp [evs_len e2]
theorem tAs_len {σ : St} {H : Hp} {Q : List V → Hp → Prop} (h : tAs X G is σ H Q) : tAs X G is σ H fun zs H' => zs.length = is.length ∧ Q zs H' := by
  obtain ⟨fr, L, ps, fr', ok, l, ee, q⟩ := h
  refine ⟨fr, L, ps, fr', ok, l, ee, fun vs H' ok' o => ⟨?_, q vs H' ok' o⟩⟩
  rw [pok_length o.1, evs_len ee]
theorem callk_core {f : Nat} {e : Expr} (hp : permOk perm is.length = true) (h : PE X e (tCallGK (spOf X.K (G f)) perm (tAs X G is))) : PE X e (tE X G (.callk f is perm)) := by
  refine pe_mono h fun σ H Q q => ?_
  obtain ⟨fr, L, p, fr', ok, l, ee, q⟩ := q
  unfold ev at ee
  obtain ⟨⟨ps, f1⟩, e1, ee⟩ := bnd ee
  obtain ⟨qs, e0, ee⟩ := bnd ee
  obtain ⟨⟨xs, f2⟩, e2, ee⟩ := bnd ee
  obtain ⟨⟨x, ys⟩, e3, ee⟩ := mpd ee
  cases ee
  refine ⟨fr, L, ps, f1, ok, l, e1, fun zs H1 ok1 o => ?_⟩
  have hzl : zs.length = is.length := by rw [pok_length o.1, evs_len e1]
  obtain ⟨vs, e4⟩ := pickP_is (xs := zs) (perm := perm) fun i hi => by rw [hzl]; exact (permOk_perm hp).2 i hi
  have o' := o.pick (by rw [hzl]; exact hp) e4 e0
  obtain ⟨q1, q2, q3⟩ := lend_ok ok1 o'.1 o'.2 e2
  refine ⟨vs, e4, xs, _, x, ys, q1, q3, e3, fun v H2 l2 => ?_⟩
  have l3 : Live X.K H2 (vs.zip ys ++ (slots σ f2 ++ ((v, x) :: L))) := l2.perm ((zip_perm_mid _ _ _).trans (List.Perm.append_left _ (zip_perm_mid _ _ _)))
  obtain ⟨g1, g2⟩ := give_ok q2 o'.1 l3
  exact q v H2 g1 (hold1 (g2.perm (zip_perm_mid _ _ _).symm))
end
/-- names and values of a call by names -/
def kwSplit : List Keyword → Option (List Str × List Expr)
  | [] => some ([], [])
  | ⟨some n, e, _⟩ :: r => (kwSplit r).map fun q => (n :: q.1, e :: q.2)
  | ⟨none, _, _⟩ :: _ => none
theorem kwSplit_is : ∀ {kws : List Keyword} {ks : List Str} {es : List Expr}, kwSplit kws = some (ks, es) → ∀ (pos : Pos) (env : Env), (backToKw pos (keywordEach kws env)).all (·.1.isSome) = true ∧ (backToKw pos (keywordEach kws env)).filterMap (·.1) = ks ∧ (backToKw pos (keywordEach kws env)).any (·.1.isNone) = false ∧ es.length = ks.length
  | [], ks, es, h, pos, env => by unfold kwSplit at h; cases h; exact ⟨rfl, rfl, rfl, rfl⟩
  | ⟨some n, e, p⟩ :: r, ks, es, h, pos, env => by
    unfold kwSplit at h
    obtain ⟨⟨ks', es'⟩, e1, h⟩ := mpd h
    cases h
    obtain ⟨h1, h2, h3, h4⟩ := kwSplit_is e1 pos env
    have e2 : backToKw pos (keywordEach (⟨some n, e, p⟩ :: r) env) = (some n, do let v ← eval e env; standAt pos; pure v) :: backToKw pos (keywordEach r env) := rfl
    rw [e2]
    refine ⟨by rw [List.all_cons, h1]; rfl, by rw [List.filterMap_cons, h2], by rw [List.any_cons, h3]; rfl, by simp [h4]⟩
  | ⟨none, _, _⟩ :: _, _, _, h, _, _ => by unfold kwSplit at h; cases h
theorem kw_ok {X : Cx} {G : Fs} {rec : Expr → Option E} (hrec : ∀ a i, rec a = some i → PE X a (tE X G i)) (mapR : List Expr → Option (List E)) (hm0 : mapR [] = some []) (hm : ∀ e es is, mapR (e :: es) = some is → ∃ i is', rec e = some i ∧ mapR es = some is' ∧ is = i :: is') : ∀ {kws : List Keyword} {ks : List Str} {es : List Expr} {is : List E}, kwSplit kws = some (ks, es) → mapR es = some is → PK X kws (tAs X G is) ∧ is.length = es.length
  | [], ks, es, is, h, h2 => by unfold kwSplit at h; cases h; rw [hm0] at h2; cases h2; exact ⟨k_nil, rfl⟩
  | ⟨some n, e, p⟩ :: r, ks, es, is, h, h2 => by
    unfold kwSplit at h
    obtain ⟨⟨ks', es'⟩, e1, h⟩ := mpd h
    cases h
    obtain ⟨i, is', q1, q2, rfl⟩ := hm _ _ _ h2
    obtain ⟨r1, r2⟩ := kw_ok hrec mapR hm0 hm e1 q2
    exact ⟨k_cons (hrec _ _ q1) r1, by simp [r2]⟩
  | ⟨none, _, _⟩ :: _, _, _, _, h, _ => by unfold kwSplit at h; cases h
end Tr

set_option Elab.async false
set_option linter.all false
set_option maxRecDepth 100000
set_option maxHeartbeats 1000000
/-! Dicts: displays, methods. -/
namespace Tr
open PySem PySem.Spec PyProof.Rows L2
/-- a new, empty dict's object -/
def eD : Obj := { cls := .type "dict", data := .dict #[] }
theorem eD_of : DOf eD [] [] [] := ⟨⟨rfl, rfl, rfl⟩, #[], 0, rfl, .nil⟩
section
variable {X : Cx} {pins : List (Addr × Obj)} {σ : St} {s : Shared} {F : Addr → Prop} {H : Hp} {a : Addr} {o : Obj} {kvs : List (D × D)} {ks vs : List V} {A : Around} {E : Value → Shared → Prop} {k d : D} {y : V} {u : Value}
theorem md_dset {Q : Unit → Shared → Prop} {v : V} {r : Value} (hu : A.units + 20 < cLine) (hI : Inv X pins σ H s) (h : DAt H a o kvs ks vs) (r1 : RelDs X.K F H ks (kvs.map Prod.fst)) (rk : RelD X.K F H y k) (ru : RelV y u) (rv : RelV v r) (hf : kfit kvs k = true) (hz : kvs.length ≤ sizeLine)
    (q : ∀ o' ks' vs' s', DOf o' (dput kvs k d) ks' vs' → Inv X pins σ (upd H a (DcO a o')) s' → Put1 kvs (dput kvs k d) ks vs ks' vs' y v k d → Q () s') : wpAny (model X.prog X.w) A (dictSet a u r) Q E s := by
  have mu : Mut (H a) := by rw [h.at_]; exact True.intro
  rcases kfit_or hf with ⟨hk, hall⟩ | ⟨hk, hall⟩
  · obtain ⟨xs, dd, xr⟩ := keyed hI h r1 hall
    obtain ⟨b, rfl, rfl, is_⟩ := tkey_is hI rk hk ru
    refine wpAny_dictSet_heap (knd := nkd X) (hsz := by rw [xr.len]; exact hz) (show A.units + 8 < cLine by omega) is_ dd fun h' dd' hs => ?_
    obtain ⟨ks', vs', xr', pu⟩ := xr.put (k := k) (d := d) (b := b) rv
    obtain ⟨o', ho', do'⟩ := unkeyed dd' xr' (all_dput hall hk)
    exact q o' ks' vs' _ do' (d_write hI mu hs ⟨o', ho'⟩ (dc_new ho')) pu
  · obtain ⟨i0, rfl⟩ := ikey_is hk
    obtain ⟨xs, dd, xr⟩ := keyedI hI h r1 hall
    cases rk
    obtain ⟨t, rfl⟩ := ru
    refine wpAny_dictSet_pairs (knd := nki X) (hsz := by rw [xr.len]; exact hz) (int_is.mpr ⟨t, rfl⟩) dd fun h' dd' hs => ?_
    obtain ⟨ks', vs', xr', pu⟩ := xr.put (i := i0) (d := d) rv
    obtain ⟨o', ho', do'⟩ := unkeyedI dd' xr'
    exact q o' ks' vs' _ do' (d_write hI mu hs ⟨o', ho'⟩ (dc_new ho')) fun K F H h1 h2 _ h4 => pu K F H h1 h2 h4
end
def tDNew : TE := fun _ H Q => ∀ p, H p = none → (p == sysModules) = false → Q (.ref p) (upd H p (DcO p eD))
def tDisp1 (K : PySem.W.Frag) (tk tv : TE) : TE := fun σ H Q => ∀ p, H p = none → (p == sysModules) = false → tk σ (upd H p (DcO p eD)) fun x H1 => tv σ H1 fun y H2 =>
  ∃ kd vd L, kfit [] kd = true ∧ Live K H2 ((.ref p, .od []) :: (([y, x].zip ([vd, kd].map Vl.fz)) ++ L)) ∧ ∀ H', Live K H' ((.ref p, .od [(kd, vd)]) :: L) → Q (.ref p) H'
section
variable {X : Cx} {pos : Pos}
theorem low_of {pins : List (Addr × Obj)} {σ : St} {H : Hp} {s : Shared} (I : Inv X pins σ H s) : (s.heap.objs.size == sysModules) = false := beq_eq_false_iff_ne.mpr (Nat.ne_of_gt I.big)
theorem pe_dnew : PE X (.Dict [] [] pos) tDNew := ⟨fun pins s σ H Q I h =>
  wpAny_Dict_empty ⟨.ref s.heap.objs.size, _, I.laid (a := s.heap.objs.size) (o := DcO s.heap.objs.size eD) (t' := s.toks) (fun _ _ q => Heap.get?_push_of_some _ q) (Nat.le_refl _) (dc_new (Heap.get?_push_size _ rfl)), rfl, h _ (I.hok.fresh (Nat.le_refl _)) (low_of I)⟩⟩
theorem pe_disp1 {k v : Expr} {tk tv : TE} (hu : X.A.units + 70 < cLine) (hk : PE X k tk) (hv : PE X v tv) : PE X (.Dict [some k] [v] pos) (tDisp1 X.K tk tv) := by
  refine ⟨fun pins s σ H Q I q => ?_⟩
  have hn := I.hok.fresh (Nat.le_refl s.heap.objs.size)
  have I1 : Inv X pins σ (upd H s.heap.objs.size (DcO s.heap.objs.size eD)) { s with heap := s.heap.push { cls := .type "dict", data := .dict #[] } } :=
    I.laid (t' := s.toks) (fun _ _ q => Heap.get?_push_of_some _ q) (Nat.le_refl _) (dc_new (Heap.get?_push_size _ rfl))
  have hshape : (evalEachOpt [some k] X.env).zip ((evalEach [v] X.env).map fun v => do let x ← v; standAt pos; pure x) = (pairTrees [some k] [v] X.env pos).map fun p => (some p.1, p.2) := zip_pairTrees _ _ _ _ rfl rfl
  rw [arm_eval_Dict, hshape, dictDisplay_pairs _ (by unfold pairTrees; simp) (by show 1 < 17; omega)]
  refine wpAny_bind (wpAny_standAt (wpAny_bind ?_))
  unfold subDict
  refine wpAny_bind (wpAny_alloc ?_)
  refine wpAny_bind (wpAny_holding ?_)
  rw [if_pos (show (pairTrees [some k] [v] X.env pos).length ≤ 15 by show 1 ≤ 15; omega)]
  refine wpAny_bind (wpAny_mono ((pps_cons hk hv pps_nil).run pins _ σ _ (fun ps H2 => ∃ x y, ps = [(x, y)] ∧ ∃ kd vd L, kfit [] kd = true ∧ Live X.K H2 ((.ref s.heap.objs.size, .od []) :: (([y, x].zip ([vd, kd].map Vl.fz)) ++ L)) ∧ ∀ H', Live X.K H' ((.ref s.heap.objs.size, .od [(kd, vd)]) :: L) → Q (.ref s.heap.objs.size) H') I1 ?_) (fun ws s₁ h₁ => ?_) fun _ _ e => e)
  · have q0 := q _ hn (low_of I)
    show tk σ _ fun x H1 => tv σ H1 fun y H2 => _
    have conv : ∀ x H2 y, (∃ kd vd L, kfit [] kd = true ∧ Live X.K H2 ((.ref s.heap.objs.size, .od []) :: (([y, x].zip ([vd, kd].map Vl.fz)) ++ L)) ∧ ∀ H', Live X.K H' ((.ref s.heap.objs.size, .od [(kd, vd)]) :: L) → Q (.ref s.heap.objs.size) H') = (∃ x' y', [(x, y)] = [(x', y')] ∧ ∃ kd vd L, kfit [] kd = true ∧ Live X.K H2 ((.ref s.heap.objs.size, .od []) :: (([y', x'].zip ([vd, kd].map Vl.fz)) ++ L)) ∧ ∀ H', Live X.K H' ((.ref s.heap.objs.size, .od [(kd, vd)]) :: L) → Q (.ref s.heap.objs.size) H') := fun x H2 y => by
      apply propext
      constructor
      · exact fun h => ⟨x, y, rfl, h⟩
      · rintro ⟨x', y', e, h⟩
        cases e
        exact h
    have e : (fun (x : V) (H1 : Hp) => tv σ H1 fun (y : V) (H2 : Hp) => ∃ kd vd L, kfit [] kd = true ∧ Live X.K H2 ((.ref s.heap.objs.size, .od []) :: (([y, x].zip ([vd, kd].map Vl.fz)) ++ L)) ∧ ∀ H', Live X.K H' ((.ref s.heap.objs.size, .od [(kd, vd)]) :: L) → Q (.ref s.heap.objs.size) H') = (fun (x : V) (H1 : Hp) => tv σ H1 fun (y : V) (H2 : Hp) => ∃ x' y', [(x, y)] = [(x', y')] ∧ ∃ kd vd L, kfit [] kd = true ∧ Live X.K H2 ((.ref s.heap.objs.size, .od []) :: (([y', x'].zip ([vd, kd].map Vl.fz)) ++ L)) ∧ ∀ H', Live X.K H' ((.ref s.heap.objs.size, .od [(kd, vd)]) :: L) → Q (.ref s.heap.objs.size) H') := by
      funext x H1
      congr 1
      funext y H2
      exact conv x H2 y
    rw [e] at q0
    exact q0
  · obtain ⟨ps, H2, I2, rel, x, y, rfl, kd, vd, L, c, l, q2⟩ := h₁
    cases rel with
    | @cons _ p _ _ r1 r2 =>
      cases r2
      obtain ⟨u, w⟩ := p
      refine wpAny_holding ?_
      obtain ⟨ob, ks, vs, da, ⟨F, h1, h2, h3⟩, wr⟩ := l.dwrite rfl
      cases h3 with
      | cons h3 h4 =>
        cases h4 with
        | cons h4 _ =>
          rw [List.forIn_cons]
          refine wpAny_bind (wpAny_bind (wpAny_bind (md_dset (d := vd) (by omega) I2 da h1 h4 r1.1 r1.2 c (Nat.zero_le _) fun o' ks' vs' s' hd I' pu => wpAny_pure ?_)))
          show wpAny _ _ (forIn ([] : List (Value × Value)) PUnit.unit _) _ _ _
          rw [List.forIn_nil]
          refine wpAny_pure (wpAny_pure (wpAny_pure (wpAny_pure ⟨.ref s.heap.objs.size, _, I', rfl, q2 _ (wr o' ks' vs' hd (dput_nodup da.nd) fun F g1 g2 g3 => ?_)⟩)))
          cases g3 with
          | cons g3 g4 =>
            cases g4 with
            | cons g4 _ => exact pu _ _ _ g1 g2 g4 g3
end
section
variable {X : Cx} {G : Fs} {lk : List Nat} {pos : Pos} {i j : E}
theorem s_dct0 : PE X (.Dict [] [] pos) (tE X G (.dct [])) := by
  refine pe_mono pe_dnew fun σ H Q q => ?_
  obtain ⟨fr, L, p, fr', ok, l, ee, q⟩ := q
  unfold ev gens at ee
  cases ee
  intro p hp low
  refine q _ _ ok (hold1 ?_)
  exact Opd.dct (vs := []) (ds := []) (Opd.mk l fun _ _ => .nil) hp low eD_of List.nodup_nil fun F _ => ⟨.nil, .nil⟩
theorem s_dct1 {k v : Expr} (hu : X.A.units + 70 < cLine) (hk : PE X k (tE X G i)) (hv : PE X v (tE X G j)) : PE X (.Dict [some k] [v] pos) (tE X G (.dct [i, j])) := by
  refine pe_mono (pe_disp1 hu hk hv) fun σ H Q q => ?_
  obtain ⟨fr, L, p, fr', ok, l, ee, q⟩ := q
  unfold ev gens gens gens at ee
  obtain ⟨⟨r1, f9⟩, e0, ee⟩ := bnd ee
  obtain ⟨⟨p1, f1⟩, e1, e0⟩ := bnd e0
  obtain ⟨⟨x, f2⟩, e2, e0⟩ := bnd e0
  obtain ⟨⟨r2, f8⟩, e3, e0⟩ := mpd e0
  cases e0
  obtain ⟨⟨p2, f3⟩, e4, e3⟩ := bnd e3
  obtain ⟨⟨y, f4⟩, e5, e3⟩ := bnd e3
  cases e3
  dsimp only at ee
  obtain ⟨c, ee⟩ := ite_some ee
  cases ee
  intro a ha low
  have l0 : Live X.K (upd H a (DcO a eD)) ((.ref a, .od []) :: (slots σ fr ++ L)) := Opd.dct (vs := []) (ds := []) (Opd.mk l fun _ _ => .nil) ha low eD_of List.nodup_nil fun F _ => ⟨.nil, .nil⟩
  refine ⟨fr, (.ref a, .od []) :: L, p1, f1, ok, l0.perm (zip_perm_mid _ _ _), e1, fun v1 H1 ok1 o1 => ?_⟩
  obtain ⟨ok2, l2⟩ := o1.force ok1 e2
  have l3 := l2.freeze (force_own e2)
  refine ⟨f2, (v1, .fz x.strip) :: (.ref a, .od []) :: L, p2, f3, ok2, l3.perm (zip_perm_mid _ _ _), e4, fun v2 H2 ok3 o3 => ?_⟩
  obtain ⟨ok4, l4⟩ := o3.force ok3 e5
  have l5 := l4.freeze (force_own e5)
  refine ⟨x.strip, y.strip, slots σ fr' ++ L, c, ?_, fun H' l' => q _ _ ok4 (hold1 l')⟩
  refine l5.perm ?_
  show ((v2, Vl.fz y.strip) :: (slots σ fr' ++ ((v1, .fz x.strip) :: (.ref a, .od []) :: L))).Perm ((.ref a, .od []) :: (v2, .fz y.strip) :: (v1, .fz x.strip) :: (slots σ fr' ++ L))
  refine (List.Perm.cons _ (zip_perm_mid _ _ _).symm).trans ?_
  refine (List.Perm.cons _ (List.Perm.cons _ (zip_perm_mid _ _ _).symm)).trans ?_
  exact (List.Perm.cons _ (List.Perm.swap _ _ _)).trans (List.Perm.swap _ _ _)
end
/-! methods of a dict -/
def IsDc (H : Hp) (x : V) : Prop := ∃ a o kvs ks vs, x = .ref a ∧ DAt H a o kvs ks vs
def tDM (r : V → List V → Hp → VK → Prop) (to : TE) (t : TA) : TE := fun σ H Q => to σ H fun x H1 => IsDc H1 x ∧ t σ H1 fun xs H2 => r x xs H2 Q
section
variable {X : Cx} {pos : Pos} {o e : Expr} {es : List Expr} {to : TE} {t : TA} {name : Str} {apos cpos : Pos} {id : String} {r : V → List V → Hp → VK → Prop}
theorem isDc_at {pins : List (Addr × Obj)} {σ : St} {H : Hp} {s : Shared} {x : V} {v : Value} (I : Inv X pins σ H s) (r : RelV x v) (h : IsDc H x) : s.TypeIs v "dict" ∧ ∀ a, v = .ref a → ∃ ob, s.heap.get? a = some ob ∧ ob.dict = none := by
  obtain ⟨a, o, kvs, ks, vs, rfl, da⟩ := h
  cases r
  exact ⟨da.typeIs I, fun b z => by cases z; exact ⟨o, da.obj I, da.is_.1.2.1⟩⟩
theorem pe_dm (slot : Slot "dict" name id) (hty : typeOf (.builtin id) = pure (.type "method_descriptor")) (hm : MtR X id r) (ho : PE X o to) (ha : PA X (e :: es) t)
    (hbase : attributeBase o name X.env (eval o X.env) = eval o X.env)
    (hfew : ((backTo cpos (starEach (e :: es) X.env)).all (fun x => !x.1) && (backToKw cpos (keywordEach [] X.env)).all (fun x => x.1.isSome)
      && decide ((e :: es).length + ([] : List Keyword).length + (if ([] : List Keyword).isEmpty then 0 else 1) < 30)) = true)
    (hline : (apos.endLine == cpos.line) = true) (hs : starEach (e :: es) X.env = (false, eval e X.env) :: starEach es X.env) (hplain : (backTo cpos (starEach es X.env)).any (·.1) = false) :
    PE X (.Call (.Attribute o name apos) (e :: es) [] cpos) (tDM r to t) := by
  refine ⟨fun pins s σ H Q I h => ?_⟩
  refine wpAny_Call_method_late hbase hfew hline rfl (thn (ho.run pins s σ H _ I h) fun v s1 ⟨x, H1, I1, r1, ty, q1⟩ => ?_)
  obtain ⟨h1, h2⟩ := isDc_at I1 r1 ty
  refine ⟨"dict", id, PySem.F.plainAttrs_dict, slot, hty, h1, h2, ?_⟩
  have hA := ha.run cpos pins s1 σ H1 _ I1 q1
  rw [hs] at hA ⊢
  refine Calls.callWith_builtin (by show (false || (backTo cpos (starEach es X.env)).any (·.1)) = false; rw [hplain] <;> rfl) (Calls.evalArgs_plain ?_)
  exact thn hA fun us s2 ⟨vs, H2, I2, r2, q2⟩ => hm pins s2 σ H2 x vs v us Q I2 r1 r2 q2
theorem RelO.ofNl {K : PySem.W.Frag} {F : Addr → Prop} {H : Hp} {d : D} {v : V} (h : RelO K F H v d) (c : noLD d = true) : RelD K F H v d := by
  cases h with
  | fz h => exact h
  | ol _ _ => cases c
  | od _ _ _ => cases c
  | scr _ => cases c
def rGet1 (K : PySem.W.Frag) : V → List V → Hp → VK → Prop := fun x xs H Q => ∃ kvs k L y, xs = [y] ∧ Opd K H [x, y] [.dict kvs, k] L ∧ kfit kvs k = true ∧ ∀ v H', Live K H' ((v, .fz ((dget kvs k).getD .none)) :: L) → Q v H'
theorem mt_get1 (hu : X.A.units + 70 < cLine) : MtR X "dict.get" (rGet1 X.K) := by
  intro pins s σ H x xs v us Q hI rx rxs h
  obtain ⟨kvs, k, L, y, rfl, o, c, q⟩ := h
  obtain ⟨F, h1, h2⟩ := o.pair
  obtain ⟨u, rfl, ru⟩ := rxs.one
  obtain ⟨a, ob, ks, vs, rfl, da, r1, r2⟩ := h1.dict
  cases rx
  refine md_get none (fun p z => by cases z) (by omega) hI da r1 (h2.ofKey c) ru c (fun d v w s' hd I' rv vl => ⟨v, H, I', rv, q _ _ ?_⟩) fun s' hd I' => ⟨.non, H, I', rfl, q _ _ ?_⟩
  · rw [hd]
    refine o.fz fun F' o' => ?_
    obtain ⟨a', o2, ks', vs', e1, da', _, r2'⟩ := (paired2 o').1.dict
    cases e1
    obtain ⟨_, _, rfl⟩ := da.det hI da'
    exact vl _ _ _ r2'
  · rw [hd]
    exact o.sc rfl
def rGet2 (K : PySem.W.Frag) : V → List V → Hp → VK → Prop := fun x xs H Q => ∃ kvs k d0 L y z, xs = [y, z] ∧ Opd K H [x, y, z] [.dict kvs, k, d0] L ∧ kfit kvs k = true ∧ noLD d0 = true ∧ ∀ v H', Live K H' ((v, .fz ((dget kvs k).getD d0)) :: L) → Q v H'
theorem paired3 {α β : Type} {P : α → β → Prop} {x y z : α} {d e f : β} (o : Paired P [x, y, z] [d, e, f]) : P x d ∧ P y e ∧ P z f := by
  cases o with
  | cons h1 o =>
    obtain ⟨h2, h3⟩ := paired2 o
    exact ⟨h1, h2, h3⟩
theorem mt_get2 (hu : X.A.units + 70 < cLine) : MtR X "dict.get" (rGet2 X.K) := by
  intro pins s σ H x xs v us Q hI rx rxs h
  obtain ⟨kvs, k, d0, L, y, z, rfl, o, c, c0, q⟩ := h
  obtain ⟨F, _, _, po⟩ := id o
  obtain ⟨h1, h2, h3⟩ := paired3 po
  obtain ⟨u, u2, rfl, ru, ru2⟩ := rxs.two
  obtain ⟨a, ob, ks, vs, rfl, da, r1, r2⟩ := h1.dict
  cases rx
  refine md_get (some (z, u2)) (fun p e => by cases e; exact ru2) (by omega) hI da r1 (h2.ofKey c) ru c (fun d v w s' hd I' rv vl => ⟨v, H, I', rv, q _ _ ?_⟩) fun s' hd I' => ⟨z, H, I', ru2, q _ _ ?_⟩
  · rw [hd]
    refine o.fz fun F' o' => ?_
    obtain ⟨a', o2, ks', vs', e1, da', _, r2'⟩ := (paired3 o').1.dict
    cases e1
    obtain ⟨_, _, rfl⟩ := da.det hI da'
    exact vl _ _ _ r2'
  · rw [hd]
    exact o.fz fun F' o' => (paired3 o').2.2.ofNl c0
def rSdf (K : PySem.W.Frag) : V → List V → Hp → VK → Prop := fun x xs H Q => ∃ a kvs k d L y z, x = .ref a ∧ xs = [y, z] ∧ tkey k = true ∧ (kvs.all fun p => tkey p.1) = true ∧ kvs.length ≤ sizeLine ∧
  Live K H ((.ref a, .od kvs) :: (([z, y].zip ([d, k].map Vl.fz)) ++ L)) ∧ ∀ v H', Live K H' ((.ref a, .od (if (dget kvs k).isSome then kvs else dput kvs k d)) :: L) → Q v H'
theorem mt_sdf (hu : X.A.units + 70 < cLine) : MtR X "dict.setdefault" (rSdf X.K) := by
  intro pins s σ H x xs v us Q hI rx rxs h
  obtain ⟨a, kvs, k, d, L, y, z, rfl, rfl, ck, call, hz, l, q⟩ := h
  cases rx
  obtain ⟨u, u2, rfl, ru, ru2⟩ := rxs.two
  obtain ⟨ob, ks, vs, da, ⟨F, r1, r2, r3⟩, wr⟩ := l.dwrite rfl
  obtain ⟨r4, r5⟩ : RelD X.K F H z d ∧ RelD X.K F H y k := by
    cases r3 with
    | cons r3 r4 => cases r4 with
      | cons r4 _ => exact ⟨r3, r4⟩
  have c : kfit kvs k = true := by unfold kfit; rw [ck, call]; rfl
  have l0 : Live X.K H ((.ref a, .od kvs) :: L) := by
    have : Live X.K H (([z, y].zip ([d, k].map Vl.fz)) ++ ((.ref a, .od kvs) :: L)) := l.perm (zip_perm_mid _ _ _)
    exact this.right
  have key : ∀ (w : Value) s', Inv X pins σ H s' → (dget kvs k).isSome = true → EP X pins σ Q w s' → EP X pins σ Q w s' := fun _ _ _ _ h => h
  cases e : dget kvs k with
  | some d1 =>
    -- there: the machine's answer is what stands there
    obtain ⟨xs, dd, xr⟩ := keyed hI da r1 call
    obtain ⟨b, rfl, rfl, is_⟩ := tkey_is hI r5 ck ru
    have room : (nkd X).room X.A.in1 := show X.A.units + 1 + 8 < cLine by omega
    rcases xr.find (nk k) with ⟨_, h2⟩ | ⟨i, b', w, p, v, h1, h2, h3, h4, h5⟩
    · rw [dget_none h2] at e; cases e
    · refine call_setdefault_heap (knd := nkd X) (hsz := by rw [xr.len]; exact hz) room is_ da.low dd (fun p' hp => ?_) fun hn => by rw [h1] at hn; cases hn
      rw [h1] at hp
      cases hp
      refine ⟨v, H, hI.tok _, h5, q _ _ ?_⟩
      rw [e]
      exact l0
  | none =>
    refine md_sdf (d := d) (v := z) (by omega) hI da r1 r5 ru ru2 ck call hz (fun w s' hs => by rw [e] at hs; cases hs) fun o' ks' vs' s' _ hd I' pu => ⟨z, _, I', ru2, q _ _ ?_⟩
    rw [e]
    refine wr o' ks' vs' hd (dput_nodup da.nd) fun F g1 g2 g3 => ?_
    cases g3 with
    | cons g3 g4 =>
      cases g4 with
      | cons g4 _ => exact pu _ _ _ g1 g2 g4 g3
end
end Tr

set_option Elab.async false
set_option linter.all false
set_option maxRecDepth 100000
set_option maxHeartbeats 1000000
/-! Dicts, lists: methods by the interpreter. -/
namespace Tr
open PySem PySem.Spec PyProof.Rows L2
abbrev Few (X : Cx) (es : List Expr) (cpos : Pos) : Prop := ((backTo cpos (starEach es X.env)).all (fun x => !x.1) && (backToKw cpos (keywordEach [] X.env)).all (fun x => x.1.isSome)
      && decide (es.length + ([] : List Keyword).length + (if ([] : List Keyword).isEmpty then 0 else 1) < 30)) = true
section
variable {X : Cx} {G : Fs} {lk : List Nat} {pos apos cpos : Pos} {i j k : E} {o a b e : Expr}
theorem dc_of {K : PySem.W.Frag} {H : Hp} {v : V} {kvs : List (D × D)} {L : List (V × Vl)} {fr : Fm} {σ : St} {p : Pd} (o : Hold K σ fr H [v] [p] L) (e : look fr p = some (.dict kvs)) : IsDc H v := by
  obtain ⟨F, h1⟩ := (o.look1 e).one
  obtain ⟨a, ob, ks, vs, rfl, da, _, _⟩ := h1.dict
  exact ⟨a, ob, kvs, ks, vs, rfl, da⟩
theorem s_get1 (hu : X.A.units + 70 < cLine) (ho : PE X o (tE X G i)) (ha : PE X a (tE X G j)) (hb : attributeBase o "get" X.env (eval o X.env) = eval o X.env) (hfew : Few X [a] pos) (hline : (apos.endLine == pos.line) = true) (hs : starEach [a] X.env = (false, eval a X.env) :: starEach [] X.env) :
    PE X (.Call (.Attribute o "get" apos) [a] [] pos) (tE X G (.mth .get1 i [j])) := by
  refine pe_mono (pe_dm PySem.F.slot_dict_get PySem.F.type_dict_get (mt_get1 hu) ho (pa_cons ha pa_nil hs) hb hfew hline hs rfl) fun σ H Q q => ?_
  obtain ⟨fr, L, p, fr', ok, l, ee, q⟩ := q
  unfold ev at ee
  obtain ⟨⟨p1, f1⟩, e1, ee⟩ := bnd ee
  obtain ⟨d0, e0, ee⟩ := bnd ee
  obtain ⟨c0, ee⟩ := ite_o ee
  obtain ⟨⟨ps, f2⟩, e2, ee⟩ := bnd ee
  obtain ⟨ds, e3, ee⟩ := bnd ee
  obtain ⟨z, e4, ee⟩ := mpd ee
  cases ee
  unfold evs evs at e2
  obtain ⟨⟨p2, f3⟩, e5, e2⟩ := bnd e2
  obtain ⟨r, e6, e2⟩ := mpd e2
  cases e6
  cases e2
  refine ⟨fr, L, p1, f1, ok, l, e1, fun v H1 ok1 o => ⟨?_, f1, pit [v] [p1] ++ L, p2, f3, ok1, o.aside, e5, fun w H2 ok2 o2 => ?_⟩⟩
  · cases d0 <;> first | cases c0 | skip
    exact dc_of o e0
  · have o3 := (Hold.more (vs := [v]) (ps := [p1]) o.1 o2).looks e3
    match ds, e4 with
    | [.dict kvs, k], e4 =>
      simp only [mthD] at e4
      obtain ⟨c, rfl⟩ := ite_some e4
      exact ⟨kvs, k, _, w, rfl, o3, c, fun v' H' l' => q _ _ ok2 (hold1 l')⟩
theorem s_get2 (hu : X.A.units + 70 < cLine) (ho : PE X o (tE X G i)) (ha : PE X a (tE X G j)) (hc : PE X b (tE X G k)) (hb : attributeBase o "get" X.env (eval o X.env) = eval o X.env) (hfew : Few X [a, b] pos) (hline : (apos.endLine == pos.line) = true)
    (hs : starEach [a, b] X.env = (false, eval a X.env) :: starEach [b] X.env) (hs2 : starEach [b] X.env = (false, eval b X.env) :: starEach [] X.env) (hpl : (backTo pos (starEach [b] X.env)).any (·.1) = false) :
    PE X (.Call (.Attribute o "get" apos) [a, b] [] pos) (tE X G (.mth .get2 i [j, k])) := by
  refine pe_mono (pe_dm PySem.F.slot_dict_get PySem.F.type_dict_get (mt_get2 hu) ho (pa_cons ha (pa_cons hc pa_nil hs2) hs) hb hfew hline hs hpl) fun σ H Q q => ?_
  obtain ⟨fr, L, p, fr', ok, l, ee, q⟩ := q
  unfold ev at ee
  obtain ⟨⟨p1, f1⟩, e1, ee⟩ := bnd ee
  obtain ⟨d0, e0, ee⟩ := bnd ee
  obtain ⟨c0, ee⟩ := ite_o ee
  obtain ⟨⟨ps, f2⟩, e2, ee⟩ := bnd ee
  obtain ⟨ds, e3, ee⟩ := bnd ee
  obtain ⟨z, e4, ee⟩ := mpd ee
  cases ee
  unfold evs evs evs at e2
  obtain ⟨⟨p2, f3⟩, e5, e2⟩ := bnd e2
  obtain ⟨r, e6, e2⟩ := mpd e2
  cases e2
  obtain ⟨⟨p3, f4⟩, e7, e6⟩ := bnd e6
  obtain ⟨r2, e8, e6⟩ := mpd e6
  cases e8
  cases e6
  refine ⟨fr, L, p1, f1, ok, l, e1, fun v H1 ok1 o => ⟨?_, f1, pit [v] [p1] ++ L, p2, f3, ok1, o.aside, e5, fun w H2 ok2 o2 => ⟨f3, pit [w] [p2] ++ (pit [v] [p1] ++ L), p3, f4, ok2, o2.aside, e7, fun u H3 ok3 o3 => ?_⟩⟩⟩
  · cases d0 <;> first | cases c0 | skip
    exact dc_of o e0
  · have o4 := (Hold.more (vs := [v]) (ps := [p1]) o.1 (Hold.more (vs := [w]) (ps := [p2]) o2.1 o3)).looks e3
    match ds, e4 with
    | [.dict kvs, k, x], e4 =>
      simp only [mthD] at e4
      obtain ⟨c, rfl⟩ := ite_some e4
      rw [Bool.and_eq_true] at c
      exact ⟨kvs, k, x, _, w, u, rfl, o4, c.1, c.2, fun v' H' l' => q _ _ ok3 (hold1 l')⟩
theorem x_sdf {n : Nat} (hu : X.A.units + 70 < cLine) (ho : PE X o (tVar n)) (ha : PE X a (tE X G i)) (hc : PE X b (tE X G j)) (hb : attributeBase o "setdefault" X.env (eval o X.env) = eval o X.env) (hfew : Few X [a, b] cpos) (hline : (apos.endLine == cpos.line) = true)
    (hs : starEach [a, b] X.env = (false, eval a X.env) :: starEach [b] X.env) (hs2 : starEach [b] X.env = (false, eval b X.env) :: starEach [] X.env) (hpl : (backTo cpos (starEach [b] X.env)).any (·.1) = false)
    (hsw : swapsWith (.Call (.Attribute o "setdefault" apos) [a, b] [] cpos) none pos.line X.env = pure false) :
    PS X (.Expr (.Call (.Attribute o "setdefault" apos) [a, b] [] cpos) pos) (tSt X G lk (.sdf n i j)) := by
  refine ps_mono (ps_expr (pe_dm PySem.F.slot_dict_setdefault PySem.F.type_dict_setdefault (mt_sdf hu) ho (g_cons ha (g_cons hc g_nil hs2) hs) hb hfew hline hs hpl) hsw) fun D σ H q => ?_
  obtain ⟨fr, L, r, fr', ok, l, ee, q⟩ := q
  unfold Tr.exec at ee
  split at ee
  · rename_i kvs0 h0
    obtain ⟨⟨xs, f1⟩, e1, ee⟩ := bnd ee
    dsimp only at ee
    split at ee
    · rename_i k x kvs hd
      obtain ⟨c, ee⟩ := ite_some ee
      cases ee
      simp only [Bool.and_eq_true, decide_eq_true_eq] at c
      obtain ⟨w, hw⟩ := ok.has _ _ h0
      have lw : Live X.K H ((w, .od kvs0) :: (slots σ (fr.set n none) ++ L)) := l.perm (List.Perm.append_right L (slots_at hw h0))
      obtain ⟨aa, ob, ks0, vs0, rfl, da0⟩ : ∃ aa ob ks0 vs0, w = .ref aa ∧ DAt H aa ob kvs0 ks0 vs0 := by
        obtain ⟨fs, nd, rr⟩ := lw
        cases rr with
        | cons z _ => cases z with
          | od z1 z2 z3 => exact ⟨_, _, _, _, rfl, z1⟩
      refine ⟨.ref aa, hw, ⟨aa, ob, kvs0, ks0, vs0, rfl, da0⟩, ?_⟩
      refine ⟨fr, L, [k, x], f1, ok, l, e1, fun us H1 ok1 hl l1 => ?_⟩
      obtain ⟨y, z, rfl⟩ : ∃ y z, us = [y, z] := by
        match us, hl with
        | [y, z], _ => exact ⟨y, z, rfl⟩
      have own := gens_own e1
      have l2 : Live X.K H1 ((y, k) :: (z, x) :: (slots σ f1 ++ L)) := l1
      have l3 := l2.freeze (own k (by simp))
      have l4 : Live X.K H1 ((z, x) :: (y, .fz k.strip) :: (slots σ f1 ++ L)) := l3.perm (List.Perm.swap _ _ _)
      have l5 := l4.freeze (own x (by simp))
      have l6 : Live X.K H1 ((.ref aa, .od kvs) :: (([z, y].zip ([x.strip, k.strip].map Vl.fz)) ++ (slots σ (f1.set n none) ++ L))) := by
        refine l5.perm ?_
        refine (List.Perm.cons _ (List.Perm.cons _ (List.Perm.append_right _ (slots_at hw hd)))).trans ?_
        exact (List.Perm.cons _ (List.Perm.swap _ _ _)).trans (List.Perm.swap _ _ _)
      have hn : n < f1.length := (List.getElem?_eq_some_iff.mp hd).1
      refine ⟨aa, kvs, k.strip, x.strip, _, y, z, rfl, rfl, c.1.1, c.1.2, by rw [sizeLine_eq]; omega, l6, fun v H' l7 => ?_⟩
      cases e9 : (dget kvs k.strip).isSome with
      | true =>
        rw [e9, if_pos rfl] at l7
        rw [e9, if_pos rfl] at q
        refine q σ _ ok1 KeepL.refl (l7.perm ?_)
        exact (List.Perm.append_right L (slots_at hw hd)).symm
      | false =>
        rw [e9, if_neg Bool.false_ne_true] at l7
        rw [e9, if_neg Bool.false_ne_true] at q
        refine q σ _ (ok1.put hw) KeepL.refl (l7.perm ?_)
        exact (List.Perm.append_right L (slots_put hw hn)).symm
    · cases ee
  · cases ee
/-- xs.extend(ys) -/
theorem x_ext {n : Nat} (ho : PE X o (tVar n)) (he : PE X e (tE X G i)) (hb : attributeBase o "extend" X.env (eval o X.env) = eval o X.env) (hfew : Few X [e] cpos) (hline : (apos.endLine == cpos.line) = true) (hs : starEach [e] X.env = (false, eval e X.env) :: starEach [] X.env)
    (hsw : swapsWith (.Call (.Attribute o "extend" apos) [e] [] cpos) none pos.line X.env = pure false) :
    PS X (.Expr (.Call (.Attribute o "extend" apos) [e] [] cpos) pos) (tSt X G lk (.ext n i)) := by
  refine ps_mono (ps_expr (pe_bm PySem.F.plainAttrs_list PySem.F.slot_list_extend PySem.F.type_list_extend mt_extend ho (pa_cons he pa_nil hs) hb hfew hline hs rfl) hsw) fun D σ H q => ?_
  obtain ⟨fr, L, r, fr', ok, l, ee, q⟩ := q
  unfold Tr.exec at ee
  split at ee
  · rename_i ds0 h0
    obtain ⟨⟨p1, f1⟩, e1, ee⟩ := bnd ee
    obtain ⟨⟨x, f2⟩, e2, ee⟩ := bnd ee
    dsimp only at ee
    split at ee
    · rename_i ds es hd hx
      obtain ⟨cz, ee⟩ := ite_some ee
      cases ee
      obtain ⟨w, hw⟩ := ok.has _ _ h0
      have lw : Live X.K H ((w, .ol ds0) :: (slots σ (fr.set n none) ++ L)) := l.perm (List.Perm.append_right L (slots_at hw h0))
      obtain ⟨aa, xs0, rfl, h1⟩ : ∃ aa xs0, w = .ref aa ∧ H aa = some (.lst xs0) := by
        obtain ⟨fs, nd, rr⟩ := lw
        cases rr with
        | cons z _ => cases z with
          | ol z1 z2 => exact ⟨_, _, rfl, z1⟩
      refine ⟨.ref aa, hw, .inl ⟨rfl, xs0, SqL.of h1⟩, ?_⟩
      refine ⟨fr, L, p1, f1, ok, l, e1, fun v H1 ok1 o => ?_⟩
      obtain ⟨ok2, l2⟩ := o.force ok1 e2
      have l3 := l2.freeze (force_own e2)
      rw [hx] at l3
      obtain ⟨b, zs, rfl, hl, sq, l3'⟩ := pin_list l3
      have l4 : Live X.K H1 ((.ref aa, .ol ds) :: ((zs.zip (es.map Vl.fz)) ++ ((.ref b, .pinL zs) :: (slots σ (f2.set n none) ++ L)))) := by
        refine l3'.perm ?_
        show ((.ref b, .pinL zs) :: (zs.zip (es.map Vl.fz)) ++ (slots σ f2 ++ L)).Perm _
        refine (List.Perm.append_left _ (List.Perm.append_right _ (slots_at hw hd))).trans ?_
        show ((.ref b, .pinL zs) :: ((zs.zip (es.map Vl.fz)) ++ ((.ref aa, .ol ds) :: (slots σ (f2.set n none) ++ L)))).Perm _
        refine (List.Perm.cons _ (zip_perm_mid _ _ _).symm).trans ?_
        refine (List.Perm.swap _ _ _).trans (List.Perm.cons _ ?_)
        exact zip_perm_mid _ _ _
      obtain ⟨hB, -⟩ : StL (fun _ => False) H1 b zs ∧ True := by
        obtain ⟨fs, nd, rr⟩ := l3'
        cases rr with
        | cons z _ => cases z with
          | pinL z => exact ⟨⟨z.1, fun h => h⟩, True.intro⟩
      obtain ⟨xd, hH, hxl, wr⟩ := l4.write (ds' := ds ++ es) (by rw [hl])
      have hn : n < f2.length := (List.getElem?_eq_some_iff.mp hd).1
      refine ⟨aa, b, xd, zs, rfl, rfl, hH, hB.1, ?_, ?_⟩
      · rw [hxl, hl, sizeLine_eq]; exact of_decide_eq_true cz
      · refine q σ _ (ok2.put hw) KeepL.refl ?_
        have l5 := (wr (xd ++ zs) fun F r1 r2 => r1.append r2)
        have l6 : Live X.K (upd H1 aa (.lst (xd ++ zs))) ((.ref b, .pinL zs) :: ((.ref aa, .ol (ds ++ es)) :: (slots σ (f2.set n none) ++ L))) := l5.perm (List.Perm.swap _ _ _)
        exact l6.tail.perm (List.Perm.append_right L (slots_put hw hn)).symm
    · cases ee
  · cases ee
/-- xs.pop() -/
theorem s_pop {n : Nat} (ho : PE X o (tVar n)) (hb : attributeBase o "pop" X.env (eval o X.env) = eval o X.env) (hline : (apos.endLine == cpos.line) = true) : PE X (.Call (.Attribute o "pop" apos) [] [] cpos) (tE X G (.pop n)) := by
  refine pe_mono (pe_bm0 PySem.F.plainAttrs_list PySem.F.slot_list_pop PySem.F.type_list_pop mt_pop ho hb hline) fun σ H Q q => ?_
  obtain ⟨fr, L, p, fr', ok, l, ee, q⟩ := q
  unfold ev at ee
  split at ee
  · rename_i ds h0
    split at ee
    · cases ee
    · rename_i hne
      obtain ⟨d, e1, ee⟩ := mpd ee
      cases ee
      obtain ⟨w, hw⟩ := ok.has _ _ h0
      have lw : Live X.K H ((w, .ol ds) :: (slots σ (fr.set n none) ++ L)) := l.perm (List.Perm.append_right L (slots_at hw h0))
      have hn : n < fr.length := (List.getElem?_eq_some_iff.mp h0).1
      obtain ⟨aa, rfl⟩ : ∃ aa, w = .ref aa := by
        obtain ⟨fs, nd, rr⟩ := lw
        cases rr with
        | cons z _ => cases z; exact ⟨_, rfl⟩
      obtain ⟨xd, hH, hxl, wr⟩ := Live.write (ws := []) (es := []) (ds' := ds.dropLast) lw rfl
      obtain ⟨y, hy⟩ : ∃ y, xd[xd.length - 1]? = some y := by
        have : ds.length ≠ 0 := fun z => hne (by cases ds with | nil => rfl | cons _ _ => cases z)
        exact ⟨xd[xd.length - 1]'(by omega), List.getElem?_eq_getElem (by omega)⟩
      refine ⟨.ref aa, hw, .inl ⟨rfl, xd, SqL.of hH⟩, aa, xd, y, rfl, rfl, hH, hy, q _ _ (ok.put hw) (hold1 ?_)⟩
      have l2 := wr xd.dropLast fun F r1 _ => by
        rw [List.dropLast_eq_take, List.dropLast_eq_take, hxl]
        exact r1.take _
      have l3 : Live X.K (upd H aa (.lst xd.dropLast)) (slots σ (fr.set n (some (.ol ds.dropLast))) ++ L) := l2.perm (List.Perm.append_right L (slots_put hw hn)).symm
      -- the item taken: it stood in the list, frozen
      obtain ⟨fs, nd, rr⟩ := lw
      cases rr with
      | @cons _ _ _ f gs z1 z2 =>
        cases z1 with
        | @ol _ xs _ z1 z3 =>
          rw [hH] at z1
          cases z1
          have hl : xd[ds.length - 1]? = some y := by rw [← hxl]; exact hy
          obtain ⟨d', hd', rd⟩ := z3.get hl
          have ed : d' = d := by
            rw [List.getLast?_eq_getElem?, hd'] at e1
            exact Option.some.inj e1
          subst ed
          have k : Kp (· ∈ [aa] ++ gs) (· ∈ aa :: gs) H (upd H aa (.lst xd.dropLast)) := Kp.write List.mem_cons_self fun b q => q
          have k2 : Kp (· ∈ [aa] ++ gs) (· ∈ aa :: gs) H (upd H aa (.lst xd.dropLast)) := k
          refine Live.perm ?_ (List.Perm.cons _ (List.Perm.append_right L (slots_put hw hn)).symm)
          refine ⟨aa :: gs, nd, .cons (f := []) (.fz (RelD.kp k _ _ rd)) (.cons (f := [aa]) (.ol upd_same (RelDs.kp k _ _ ?_)) (z2.kp k fun b q => upd_ne ?_))⟩
          · rw [List.dropLast_eq_take, List.dropLast_eq_take, hxl]
            exact z3.take _
          · rintro rfl
            exact (List.nodup_cons.mp nd).1 q
  · cases ee
end
end Tr

set_option Elab.async false
set_option linter.all false
set_option maxRecDepth 100000
set_option maxHeartbeats 1000000
/-! d.update(d2). -/
namespace Tr
open PySem PySem.Spec PyProof.Rows L2
theorem XR.merge {more : List (D × D)} {ks2 vs2 : List V} {ys : List (NestedKey × Addr × Value)} (h2 : XR more ks2 vs2 ys) : ∀ {kvs : List (D × D)} {ks vs : List V} {xs : List (NestedKey × Addr × Value)}, XR kvs ks vs xs →
    ∃ ks' vs', XR (dmerge kvs more) ks' vs' (storedAllH xs ys) ∧
      ∀ (K : PySem.W.Frag) F H, RelDs K F H ks (kvs.map Prod.fst) → RelDs K F H vs (kvs.map Prod.snd) → RelDs K F H ks2 (more.map Prod.fst) → RelDs K F H vs2 (more.map Prod.snd) → RelDs K F H ks' ((dmerge kvs more).map Prod.fst) ∧ RelDs K F H vs' ((dmerge kvs more).map Prod.snd) := by
  induction h2 with
  | nil => intro kvs ks vs xs h; exact ⟨ks, vs, h, fun K F H h1 h2 _ _ => ⟨h1, h2⟩⟩
  | @cons p more b v w ks2 vs2 ys rv _ ih =>
    intro kvs ks vs xs h
    obtain ⟨ks1, vs1, x1, t1⟩ := h.put (k := p.1) (d := p.2) (b := b) rv
    obtain ⟨ks', vs', x2, t2⟩ := ih x1
    refine ⟨ks', vs', x2, fun K F H h1 h2 h3 h4 => ?_⟩
    rw [List.map_cons] at h3 h4
    cases h3 with
    | cons h3 h5 =>
      cases h4 with
      | cons h4 h6 =>
        obtain ⟨g1, g2⟩ := t1 K F H h1 h2 h3 h4
        exact t2 K F H g1 g2 h5 h6
theorem dmerge_nodup : ∀ {more kvs : List (D × D)}, (kvs.map fun p => nk p.1).Nodup → ((dmerge kvs more).map fun p => nk p.1).Nodup
  | [], _, h => h
  | p :: more, kvs, h => dmerge_nodup (more := more) (dput_nodup h)
theorem dmerge_len : ∀ (more kvs : List (D × D)), (dmerge kvs more).length ≤ kvs.length + more.length
  | [], kvs => by show kvs.length ≤ kvs.length + 0; omega
  | p :: more, kvs => by
    have h1 := dmerge_len more (dput kvs p.1 p.2)
    have h2 := dput_len kvs p.1 p.2
    show (dmerge (dput kvs p.1 p.2) more).length ≤ _
    rw [List.length_cons]; omega
theorem dmerge_all {f : D → Bool} : ∀ {more kvs : List (D × D)}, (kvs.all fun p => f p.1) = true → (more.all fun p => f p.1) = true → ((dmerge kvs more).all fun p => f p.1) = true
  | [], _, h, _ => h
  | p :: more, kvs, h, h2 => by
    rw [List.all_cons, Bool.and_eq_true] at h2
    exact dmerge_all (more := more) (all_dput h h2.1) h2.2
section
variable {X : Cx} {G : Fs} {lk : List Nat} {pos apos cpos : Pos} {i j k : E} {o a b e : Expr}
def rUpd (K : PySem.W.Frag) : V → List V → Hp → VK → Prop := fun x xs H Q => ∃ a kvs more L y, x = .ref a ∧ xs = [y] ∧ (kvs.all fun p => tkey p.1) = true ∧ (more.all fun p => tkey p.1) = true ∧ kvs ≠ [] ∧ kvs.length + more.length ≤ sizeLine ∧
  Live K H ((y, .fz (.dict more)) :: (.ref a, .od kvs) :: L) ∧ ∀ H', Live K H' ((.ref a, .od (dmerge kvs more)) :: L) → Q .non H'
theorem mt_upd (hu : X.A.units + 70 < cLine) : MtR X "dict.update" (rUpd X.K) := by
  intro pins s σ H x xs v us Q hI rx rxs h
  obtain ⟨a, kvs, more, L, y, rfl, rfl, c1, c2, hne, hz, l, q⟩ := h
  cases rx
  obtain ⟨u, rfl, ru⟩ := rxs.one
  obtain ⟨b, o2, ks2, vs2, rfl, n1, n2, l2⟩ := l.pinD
  cases ru
  have l3 : Live X.K H ((.ref a, .od kvs) :: ((ks2 ++ vs2).zip ((more.map Prod.fst ++ more.map Prod.snd).map Vl.fz) ++ ((.ref b, .pinD o2 more ks2 vs2) :: L))) := by
    refine l2.perm ?_
    rw [List.map_append, List.zip_append (by rw [List.length_map, List.length_map]; exact n1)]
    show ((.ref b, .pinD o2 more ks2 vs2) :: (ks2.zip ((more.map Prod.fst).map Vl.fz) ++ (vs2.zip ((more.map Prod.snd).map Vl.fz) ++ ((.ref a, .od kvs) :: L)))).Perm _
    rw [← List.append_assoc]
    refine (List.Perm.cons _ (zip_perm_mid _ _ _).symm).trans ?_
    refine (List.Perm.swap _ _ _).trans (List.Perm.cons _ ?_)
    exact zip_perm_mid _ _ _
  have db : DAt H b o2 more ks2 vs2 := l2.pinnedD List.mem_cons_self
  have hab : a ≠ b := by
    obtain ⟨fs, nd, rr⟩ := l3
    cases rr with
    | @cons _ _ _ f gs z1 z2 =>
      cases z1 with
      | od z1 _ _ =>
        obtain ⟨f2, q2⟩ := z2.mem (List.mem_append_right _ List.mem_cons_self)
        cases q2 with
        | pinD _ hn => exact fun e => hn (e ▸ List.mem_cons_self)
  obtain ⟨ob, ks, vs, da, ⟨F, r1, r2, r3⟩, wr⟩ := l3.dwrite (by rw [List.length_append, List.length_append, List.length_map, List.length_map, n1, n2])
  have split : ∀ {F : Addr → Prop}, RelDs X.K F H (ks2 ++ vs2) (more.map Prod.fst ++ more.map Prod.snd) → RelDs X.K F H ks2 (more.map Prod.fst) ∧ RelDs X.K F H vs2 (more.map Prod.snd) := fun {F} r => by
    have e1 := r.take ks2.length
    have e2 := r.drop ks2.length
    have el : ks2.length = (more.map Prod.fst).length := by rw [List.length_map]; exact n1
    rw [List.take_left, el, List.take_left] at e1
    rw [List.drop_left, el, List.drop_left] at e2
    exact ⟨e1, e2⟩
  obtain ⟨r4, r5⟩ := split r3
  obtain ⟨xs, dd, xr⟩ := keyed hI da r1 c1
  obtain ⟨ys, dd2, yr⟩ := keyed hI db r4 c2
  obtain ⟨ks', vs', xr', tr⟩ := yr.merge xr
  have mu : Mut (H a) := by rw [da.at_]; exact True.intro
  refine call_update_dictH (knd := nkd X) (show X.A.units + 1 + 8 < cLine by omega) hab db.low dd dd2 (.inl fun e => hne ?_) (by rw [xr.len, yr.len]; exact hz) fun h' dd' _ hs => ?_
  · have := xr.len
    rw [e] at this
    exact List.length_eq_zero_iff.mp this.symm
  · obtain ⟨o', ho', do'⟩ := unkeyed dd' xr' (dmerge_all c1 c2)
    refine ⟨.non, _, d_write (t' := s.toks) hI mu hs ⟨o', ho'⟩ (dc_new ho'), rfl, q _ ?_⟩
    have l4 := wr o' ks' vs' do' (dmerge_nodup da.nd) fun F h1 h2 h3 => tr _ _ _ h1 h2 (split h3).1 (split h3).2
    have l5 : Live X.K (upd H a (DcO a o')) ((.ref b, .pinD o2 more ks2 vs2) :: ((.ref a, .od (dmerge kvs more)) :: L)) := l4.perm (List.Perm.swap _ _ _)
    exact l5.tail
theorem x_upd {n : Nat} (hu : X.A.units + 70 < cLine) (ho : PE X o (tVar n)) (he : PE X e (tE X G i)) (hb : attributeBase o "update" X.env (eval o X.env) = eval o X.env) (hfew : Few X [e] cpos) (hline : (apos.endLine == cpos.line) = true) (hs : starEach [e] X.env = (false, eval e X.env) :: starEach [] X.env)
    (hsw : swapsWith (.Call (.Attribute o "update" apos) [e] [] cpos) none pos.line X.env = pure false) :
    PS X (.Expr (.Call (.Attribute o "update" apos) [e] [] cpos) pos) (tSt X G lk (.upd n i)) := by
  refine ps_mono (ps_expr (pe_dm PySem.F.slot_dict_update PySem.F.type_dict_update (mt_upd hu) ho (pa_cons he pa_nil hs) hb hfew hline hs rfl) hsw) fun D σ H q => ?_
  obtain ⟨fr, L, r, fr', ok, l, ee, q⟩ := q
  unfold Tr.exec at ee
  split at ee
  · rename_i kvs0 h0
    obtain ⟨⟨p1, f1⟩, e1, ee⟩ := bnd ee
    obtain ⟨⟨x, f2⟩, e2, ee⟩ := bnd ee
    dsimp only at ee
    split at ee
    · rename_i kvs more hd hx
      obtain ⟨c, ee⟩ := ite_some ee
      cases ee
      simp only [Bool.and_eq_true, decide_eq_true_eq, Bool.not_eq_true'] at c
      obtain ⟨w, hw⟩ := ok.has _ _ h0
      have lw : Live X.K H ((w, .od kvs0) :: (slots σ (fr.set n none) ++ L)) := l.perm (List.Perm.append_right L (slots_at hw h0))
      obtain ⟨aa, ob, ks0, vs0, rfl, da0⟩ : ∃ aa ob ks0 vs0, w = .ref aa ∧ DAt H aa ob kvs0 ks0 vs0 := by
        obtain ⟨fs, nd, rr⟩ := lw
        cases rr with
        | cons z _ => cases z with
          | od z1 z2 z3 => exact ⟨_, _, _, _, rfl, z1⟩
      refine ⟨.ref aa, hw, ⟨aa, ob, kvs0, ks0, vs0, rfl, da0⟩, ?_⟩
      refine ⟨fr, L, p1, f1, ok, l, e1, fun v H1 ok1 o => ?_⟩
      obtain ⟨ok2, l2⟩ := o.force ok1 e2
      have l3 := l2.freeze (force_own e2)
      rw [hx] at l3
      have hn : n < f2.length := (List.getElem?_eq_some_iff.mp hd).1
      refine ⟨aa, kvs, more, slots σ (f2.set n none) ++ L, v, rfl, rfl, c.1.1.1, c.1.1.2, (fun e => by have := c.1.2; rw [e] at this; cases this), by rw [sizeLine_eq]; exact c.2, l3.perm (List.Perm.cons _ (List.Perm.append_right _ (slots_at hw hd))), fun H' l7 => ?_⟩
      exact q σ _ (ok2.put hw) KeepL.refl (l7.perm (List.Perm.append_right L (slots_put hw hn)).symm)
    · cases ee
  · cases ee
end
end Tr

set_option Elab.async false
set_option linter.all false
set_option maxRecDepth 100000
/-! From the model's text to the small language. -/
namespace Tr
open PySem PySem.Spec PyProof.Rows L2
/-- the defs' names (their place is their number), the module's constants -/
structure Tb where
  fs : List Str
  cs : List (Str × D)
  kw : List ((Str × List Str) × List Nat)
structure Ck where
  N : List Str
  sc : Scope
  og : Scope
def posOf (x : Str) : List Str → Option Nat
  | [] => none
  | y :: ys => if x == y then some 0 else (posOf x ys).map (· + 1)
def badName (x : Str) : Bool := x == ("__debug__" : Str) || x == ("__classdict__" : Str) || x == ("__name__" : Str)
def Ck.vis (c : Ck) (x : Str) : Bool := match c.sc.names.lookup x with
  | some .local => true
  | some .cell => true
  | some .free => true
  | _ => false
def Ck.loc (c : Ck) (x : Str) : Bool := match c.sc.names.lookup x with
  | some .local => true
  | some .cell => (match c.og.names.lookup x with
    | some .cell => true
    | _ => false)
  | _ => false
def Ck.lcl (c : Ck) (x : Str) : Bool := match c.sc.names.lookup x with
  | some .local => true
  | _ => false
def Ck.glo (c : Ck) (x : Str) : Bool := (match c.sc.names.lookup x with
  | some .globalImplicit => true
  | _ => false) && !badName x
def plainT : E → Bool
  | .and _ _ => false
  | .or _ _ => false
  | .not _ => false
  | .ite _ _ _ => false
  | _ => true
def noStar : Expr → Bool
  | .Starred _ _ => false
  | _ => true
def notSlice : Expr → Bool
  | .Slice _ _ _ _ => false
  | _ => true
def notComp : Expr → Bool
  | .ListComp _ _ _ _ => false
  | .SetComp _ _ _ _ => false
  | .DictComp _ _ _ _ _ => false
  | _ => true
def notSet : Expr → Bool
  | .Set _ _ _ => false
  | _ => true
def opB : Operator → Option Bop
  | .Add => some .add
  | .Sub => some .sub
  | .Mult => some .mul
  | .FloorDiv => some .fdiv
  | .Mod => some .mod
  | .Pow => some .pow
  | _ => none
def opC : CmpOp → Option Cop
  | .Eq => some .eq
  | .NotEq => some .ne
  | .Lt => some .lt
  | .LtE => some .le
  | .Gt => some .gt
  | .GtE => some .ge
  | .In => some .isin
  | .NotIn => some .notin
  | _ => none
def mapE {α β : Type} (f : α → Option β) : List α → Option (List β)
  | [] => some []
  | x :: xs => (f x).bind fun y => (mapE f xs).map (y :: ·)
def joinB (op : BoolOp) : List E → Option E
  | [] => none
  | [i] => some i
  | i :: is => (joinB op is).map fun j => match op with
    | .And => .and i j
    | .Or => .or i j
def biTab : List (Str × Bi) := [("len", .len), ("abs", .abs), ("max", .max), ("min", .min), ("sum", .sum), ("int", .int), ("str", .str), ("repr", .repr), ("list", .list), ("tuple", .tuple), ("sorted", .sorted), ("all", .all), ("divmod", .divmod), ("dict", .dict)]
def tyTab : List (Str × Ty) := [("int", .int), ("bool", .bool), ("tuple", .tuple), ("str", .str)]
/-- names of the language that no def of the text may have -/
def bNames : List Str := ["len", "abs", "max", "min", "sum", "int", "str", "repr", "list", "tuple", "sorted", "all", "isinstance", "bool", "range", "enumerate", "zip", "divmod", "dict"]
def cName (T : Tb) (c : Ck) (x : Str) : Option E :=
  if badName x then none else if c.vis x then (posOf x c.N).map .var else if c.glo x then (T.cs.lookup x).map .glb else none
def ownOf (c : Ck) (scope : Scope) : List (Str × Nat) := scope.names.filterMap fun y => match y.2 with
  | .local => (posOf y.1 c.N).map fun i => (y.1, i)
  | .cell => (posOf y.1 c.N).map fun i => (y.1, i)
  | _ => none
def cTg (c : Ck) : Nat → Expr → Option Tg
  | 0, _ => none
  | n + 1, e => match e with
    | .Name x _ => if c.loc x then (posOf x c.N).map .n else none
    | .Tuple es _ _ => if es.all noStar then (mapE (cTg c n) es).map .t else none
    | _ => none
def isTupleE : Expr → Bool
  | .Tuple _ _ _ => true
  | _ => false
/-- whose method may be called: a name, an item, what a call gives -/
def recvOk : Expr → Bool
  | .Name _ _ => true
  | .Subscript _ _ _ => true
  | .Call (.Name _ _) (_ :: _) _ _ => true
  | _ => false
/-- the first of several: at its call's arguments -/
def cIt (c : Ck) (rec : Expr → Option E) (tg iter : Expr) : Option It :=
  match iter with
  | .Call (.Name x _) [a] [] _ =>
    if x == ("range" : Str) && c.glo x && noStar a then (rec a).map .rg1
    else if x == ("enumerate" : Str) && c.glo x && noStar a && isTupleE tg then (rec a).map .en
    else (rec iter).map .li
  | .Call (.Name x _) [a, b] [] _ =>
    if x == ("range" : Str) && c.glo x && noStar a && noStar b then (rec a).bind fun i => (rec b).map fun j => .rg2 i j
    else if x == ("zip" : Str) && c.glo x && noStar a && noStar b && isTupleE tg then (rec a).bind fun i => (rec b).map fun j => .zp i j
    else (rec iter).map .li
  | .Call (.Attribute o m apos) [] [] cpos =>
    if m == ("items" : Str) && recvOk o && isTupleE tg && apos.endLine == cpos.line then (rec o).map .im
    else (rec iter).map .li
  | e => if notSet e then (rec e).map .li else none
def cIsi (c : Ck) (rec : Expr → Option E) : List Expr → Option E
  | [a, .Name y _] => if c.glo y && noStar a then (tyTab.lookup y).bind fun t => (rec a).map fun i => .bi (.isinst t) [i] else none
  | _ => none
def cBi (c : Ck) (rec : Expr → Option E) (x : Str) (args : List Expr) : Option E :=
  if x == ("isinstance" : Str) then cIsi c rec args
  else match biTab.lookup x with
    | none => none
    | some b => match args with
      | [] => none
      | [.Call (.Name r p) [a] kw q] =>
        if x == ("list" : Str) && r == ("range" : Str) && c.glo r && kw.isEmpty && noStar a then (rec a).map fun i => .bi .lrange [i]
        else (rec (.Call (.Name r p) [a] kw q)).map fun i => .bi b [i]
      | [.Call (.Name r p) [a, a2] kw q] =>
        if x == ("list" : Str) && r == ("range" : Str) && c.glo r && kw.isEmpty && noStar a && noStar a2 then (rec a).bind fun i => (rec a2).map fun j => .bi .lrange [i, j]
        else (rec (.Call (.Name r p) [a, a2] kw q)).map fun i => .bi b [i]
      | e :: es => if noStar e && es.all noStar then (mapE rec (e :: es)).map (.bi b) else none
def cPart (rec : Expr → Option E) : Option Expr → Option (Option E)
  | none => some none
  | some e => (rec e).map some
def cIfs (rec : Expr → Option E) : List Expr → Option (Option E)
  | [] => some none
  | [e] => (rec e).map some
  | _ => none
/-- the lists of one's own lists (by their names in the laws) -/
def ooName (x : Str) : Bool := x == ("_law_over" : Str)
def isOwn : Expr → Bool
  | .List [.Constant (.int _) _ _, .Constant (.int _) _ _] _ => true
  | _ => false
def cOo (c : Ck) (rec : Expr → Option E) (v i : Expr) : Option E := match v, i with
  | .Subscript (.Name x _) i1 _, .Name y _ => if ooName x && c.vis x && !badName x && c.vis y && !badName y && notSlice i1 then (posOf x c.N).bind fun s => (posOf y c.N).bind fun j => (rec i1).map fun k => .idx2 s k j else none
  | _, _ => none
def blkOf (c : Ck) (scope : Scope) : Ck := ⟨c.N, relS scope c.sc, scope⟩
def cE (T : Tb) : Nat → Ck → Expr → Option E
  | 0, _, _ => none
  | n + 1, c, e => match e with
    | .Constant v _ _ => (match v with
      | .int i => some (.con (.int i))
      | .bool b => some (.con (.bool b))
      | .str x => some (.con (.str x))
      | .none => some (.con .none)
      | _ => none)
    | .Name x _ => cName T c x
    | .Tuple es _ _ => if es.all noStar then (mapE (cE T n c) es).map .tup else none
    | .List es _ => if es.all noStar then (mapE (cE T n c) es).map .lst else none
    | .Dict ks vs _ => (match ks, vs with
      | [], [] => some (.dct [])
      | [some k], [v] => (cE T n c k).bind fun i => (cE T n c v).map fun j => .dct [i, j]
      | _, _ => none)
    | .BinOp a op b _ => (opB op).bind fun o => (cE T n c a).bind fun i => (cE T n c b).map fun j => .bin o i j
    | .UnaryOp op a _ => (match op with
      | .USub => (cE T n c a).map .neg
      | .Not => (cE T n c a).map .not
      | _ => none)
    | .Compare a ops bs _ => (match ops, bs with
      | [op], [b] => (match op, b with
        | .Is, .Constant .none _ _ => (cE T n c a).map fun i => .isc i .none false
        | .Is, .Constant (.bool z) _ _ => (cE T n c a).map fun i => .isc i (.bool z) false
        | .IsNot, .Constant .none _ _ => (cE T n c a).map fun i => .isc i .none true
        | .IsNot, .Constant (.bool z) _ _ => (cE T n c a).map fun i => .isc i (.bool z) true
        | op, b => if behindInMarks op b then none else (opC op).bind fun o => (cE T n c a).bind fun i => (cE T n c b).map fun j => .cmp o i j)
      | [o1, o2], [b, d] => if lastMarks [o1, o2] [b, d] then none else (opC o1).bind fun p => (opC o2).bind fun q => (cE T n c a).bind fun i => (cE T n c b).bind fun j => (cE T n c d).map fun k => .chn p q i j k
      | _, _ => none)
    | .BoolOp op es _ => (mapE (cE T n c) es).bind (joinB op)
    | .IfExp t a b _ => (cE T n c t).bind fun i => (cE T n c a).bind fun j => (cE T n c b).map fun k => .ite i j k
    | .Subscript v i _ => (match i with
      | .Slice none none (some (.UnaryOp .USub (.Constant (.int 1) _ _) _)) _ => (cE T n c v).map fun k => .slc k none none true
      | .Slice lo hi none _ => (cE T n c v).bind fun k => (cPart (cE T n c) lo).bind fun l => (cPart (cE T n c) hi).map fun h => .slc k l h false
      | i => if notSlice i then (match cOo c (cE T n c) v i with
        | some k => some k
        | none => (cE T n c v).bind fun k => (cE T n c i).map fun j => .idx k j) else none)
    | .Call f args kws cpos => (match f, kws with
      | .Attribute o m apos, [] => (match args with
        | [a] => if recvOk o && noStar a && apos.endLine == cpos.line then
            (if m == ("count" : Str) then (cE T n c o).bind fun i => (cE T n c a).map fun j => .mth .count i [j]
            else if m == ("get" : Str) then (cE T n c o).bind fun i => (cE T n c a).map fun j => .mth .get1 i [j]
            else none) else none
        | [a, b] => if m == ("get" : Str) && recvOk o && noStar a && noStar b && apos.endLine == cpos.line then (cE T n c o).bind fun i => (cE T n c a).bind fun j => (cE T n c b).map fun k => .mth .get2 i [j, k] else none
        | [] => (match o with
          | .Name x _ => if m == ("pop" : Str) && c.vis x && !badName x && apos.endLine == cpos.line then (posOf x c.N).map .pop else none
          | _ => none)
        | _ => none)
      | .Name x _, [] => if c.glo x then (match posOf x T.fs with
        | some k => if args.all noStar then (mapE (cE T n c) args).map (.call k) else none
        | none => cBi c (cE T n c) x args) else none
      | .Name x _, k1 :: kws => if c.glo x && args.isEmpty then (posOf x T.fs).bind fun k => (kwSplit (k1 :: kws)).bind fun q => (T.kw.lookup (x, q.1)).bind fun perm => if permOk perm q.1.length then (mapE (cE T n c) q.2).map fun is => .callk k is perm else none else none
      | _, _ => none)
    | .ListComp elt gens scope _ => (match gens with
      | [⟨tg, iter, ifs, 0⟩] =>
        let own := ownOf c scope
        if blkC c.N c.sc scope own && notSet iter then
          (cIt c (cE T n c) tg iter).bind fun it => (cTg (blkOf c scope) n tg).bind fun t => (cIfs (cE T n (blkOf c scope)) ifs).bind fun w => (cE T n (blkOf c scope) elt).bind fun k =>
            if t.ixs.all fun i => (own.map (·.2)).contains i then some (.comp k t it w (own.map (·.2)) (isOwn elt)) else none
        else none
      | [⟨tg, iter, ifs, 0⟩, ⟨tg1, iter1, ifs1, 0⟩] =>
        let own := ownOf c scope
        if blkC c.N c.sc scope own && notSet iter && notSet iter1 then
          (cIt c (cE T n c) tg iter).bind fun it => (cTg (blkOf c scope) n tg).bind fun t => (cIfs (cE T n (blkOf c scope)) ifs).bind fun w =>
          (cIt (blkOf c scope) (cE T n (blkOf c scope)) tg1 iter1).bind fun it1 => (cTg (blkOf c scope) n tg1).bind fun t1 => (cIfs (cE T n (blkOf c scope)) ifs1).bind fun w1 => (cE T n (blkOf c scope) elt).bind fun k =>
            if (t.ixs.all fun i => (own.map (·.2)).contains i) && t1.ixs.all fun i => (own.map (·.2)).contains i then some (.comp2 k t it w t1 it1 w1 (own.map (·.2)) t1.ixs) else none
        else none
      | _ => none)
    | _ => none
/-- plain names, told apart -/
def cNames (c : Ck) : List Expr → Option (List Nat)
  | [] => some []
  | .Name x _ :: es => if c.loc x then (posOf x c.N).bind fun i => (cNames c es).map (i :: ·) else none
  | _ :: _ => none
/-- how a store of several names goes: none: not told; some none: from the left; some names: from the right -/
def swRes (c : Ck) (ts es : List Expr) : Option (Option (List Str)) :=
  if !(ts.length == 2 || ts.length == 3) || es.length != ts.length then some none
  else if (es.any fun | .Starred .. => true | _ => false) then some none
  else
    let line := (ts.head?.map (·.pos.line)).getD 0
    let names := ts.filterMap fun
      | .Name id pos => if c.sc.names.lookup id == some .local && pos.line == line then some id else none
      | _ => none
    if names.length != ts.length || names.eraseDups.length != names.length then some none
    else if es.all (foldedForSure 8) then some none
    else if es.all (constantsAlone 8) then none
    else some (some names)
def ownsName (scope : Scope) (x : Str) : Bool := scope.names.any fun (n, k) => n == x && (k == .local || k == .cell)
def cS (T : Tb) : Nat → Ck → Stmt → S
  | 0, _, _ => .stop
  | n + 1, c, s => match s with
    | .Pass _ => .nop
    | .Expr e pos => (match e with
      | .Constant (.str _) _ _ => .nop
      | .Call (.Attribute (.Name x _) m apos) [a] [] cpos => if c.vis x && !badName x && noStar a && apos.endLine == cpos.line then (match posOf x c.N, cE T n c a with
        | some i, some j => if m == ("append" : Str) then .app i j else if m == ("extend" : Str) then .ext i j else if m == ("update" : Str) then .upd i j else .stop
        | _, _ => .stop) else .stop
      | .Call (.Attribute (.Name x _) m apos) [a, b] [] cpos => if m == ("setdefault" : Str) && c.vis x && !badName x && noStar a && noStar b && apos.endLine == cpos.line then (match posOf x c.N, cE T n c a, cE T n c b with
        | some i, some j, some k => .sdf i j k
        | _, _, _ => .stop) else .stop
      | e => if notComp e then (match cE T n c e with
        | some i => .exp i
        | none => .stop) else .stop)
    | .Return none _ => .retN
    | .Return (some e) _ => (match e with
      | .Name x _ => if c.vis x && !badName x then (match posOf x c.N with
        | some i => .retv i
        | none => .stop) else (match cE T n c e with
        | some i => .ret i
        | none => .stop)
      | e => (match cE T n c e with
        | some i => .ret i
        | none => .stop))
    | .If t a b _ => (match cE T n c t with
      | some i => .iff i (a.map (cS T n c)) (b.map (cS T n c))
      | none => .stop)
    | .While t a [] _ => (match cE T n c t with
      | some i => .whl i (a.map (cS T n c))
      | none => .stop)
    | .For tg iter body [] _ => if notSet iter then (match cIt c (cE T n c) tg iter, cTg c n tg with
      | some it, some t => .for t it (body.map (cS T n c))
      | _, _ => .stop) else .stop
    | .Assign [tg] e pos => (match tg with
      | .Subscript (.Subscript (.Name x _) i1 _) (.Name y _) _ => if ooName x && c.vis x && !badName x && c.vis y && !badName y && notSlice i1 && notComp e then (match posOf x c.N, posOf y c.N, cE T n c i1, cE T n c e with
        | some s, some j, some k, some v => .sidx2 s k j v
        | _, _, _, _ => .stop) else .stop
      | .Subscript (.Name x _) i _ => if c.vis x && !badName x && notComp e && notSlice i then (match posOf x c.N, cE T n c i, cE T n c e with
        | some s, some k, some v => .sidx s k v
        | _, _, _ => .stop) else .stop
      | .Name x p => if c.loc x then (match posOf x c.N, cE T n c e with
        | some i, some k => if notComp e then .asg (.n i) k else (match e with
          | .ListComp _ _ scope q => if c.lcl x && p.line == q.line && !ownsName scope x then .asg (.n i) k else .stop
          | _ => .stop)
        | _, _ => .stop) else .stop
      | .Tuple ts _ _ => if ts.all noStar then (match e with
        | .Tuple es _ _ => if es.all noStar then (match cNames c ts, mapE (cE T n c) es, swRes c ts es with
          | some ix, some is, some none => if decide (is.length = ix.length) && decide ix.Nodup && decide (ts.length ≤ 1000) then .par ix is else .stop
          | some ix, some is, some (some nm) => (match ts, es with
            | [.Name x _, .Name y _], [_, _] => if decide (nm = [x, y]) && c.lcl x && c.lcl y && decide (is.length = ix.length) && decide ix.Nodup then .par ix is else .stop
            | [.Name x _, .Name y _, .Name z _], [_, _, _] => if decide (nm = [x, y, z]) && c.lcl x && c.lcl y && c.lcl z && decide (is.length = ix.length) && decide ix.Nodup then .par ix is else .stop
            | _, _ => .stop)
          | none, _, some none => (match cTg c n tg, cE T n c e with
            | some t, some k => .asg t k
            | _, _ => .stop)
          | _, _, _ => .stop) else .stop
        | e => if notComp e then (match cTg c n tg, cE T n c e with
          | some t, some k => .asg t k
          | _, _ => .stop) else .stop) else .stop
      | _ => .stop)
    | _ => .stop
end Tr

set_option Elab.async false
set_option linter.all false
set_option maxRecDepth 100000
set_option maxHeartbeats 1000000
/-! The compiled text does what the model's text does. -/
namespace Tr
open PySem PySem.Spec PyProof.Rows L2
/-- a def of the table: it stands and keeps its promise to the depth k -/
def FnH (X : Cx) (k : Nat) (G : Fs) (f : Nat) (x : Str) : Prop := ∃ (fa : Addr) (fd : FuncData) (ps : List Str), X.mg x = some (.ref fa) ∧ PySem.W.keepIn X.K (.ref fa) = true ∧ Binds X.K fd ps [] ∧ FnG X.prog X.w X.K X.mg X.base k fa fd ps (spOf X.K (G f))
def FnHK (X : Cx) (k : Nat) (G : Fs) (f : Nat) (x : Str) (ks : List Str) (perm : List Nat) : Prop := ∃ (fa : Addr) (fd : FuncData) (ps : List Str), X.mg x = some (.ref fa) ∧ PySem.W.keepIn X.K (.ref fa) = true ∧ KwB fd ps ks perm ∧ FnG X.prog X.w X.K X.mg X.base k fa fd ps (spOf X.K (G f))
structure Gd (T : Tb) (G : Fs) (k : Nat) (X : Cx) (c : Ck) : Prop where
  N : X.N = c.N
  nd : X.N.Nodup
  sc : X.env.scope = c.sc
  kd : c.sc.kind = .function
  fn : ∀ x, c.og.names.lookup x = some .cell → X.fn x = true
  calm : X.calm = true
  room : Room k X.A
  gu : X.A.guards = some []
  xe : X.xe = fun _ _ => False
  fns : ∀ (f : Nat) (x : Str), T.fs[f]? = some x → FnH X k G f x
  kws : ∀ (x : Str) (ks : List Str) (perm : List Nat), ((x, ks), perm) ∈ T.kw → ∃ f, posOf x T.fs = some f ∧ FnHK X k G f x ks perm
  bis : ∀ x ∈ bNames, X.mg x = none
  cons : ∀ x d, T.cs.lookup x = some d → ∃ u v, X.mg x = some u ∧ RelV v u ∧ ∀ F H, RelD X.K F H v d
theorem posOf_at {x : Str} : ∀ {l : List Str} {i : Nat}, posOf x l = some i → l[i]? = some x
  | [], _, h => by cases h
  | y :: ys, i, h => by
    unfold posOf at h
    by_cases e : (x == y) = true
    · rw [if_pos e] at h
      cases h
      rw [eq_of_beq e]
      rfl
    · rw [if_neg e] at h
      obtain ⟨j, e1, rfl⟩ := mpd h
      simpa using posOf_at e1
theorem star1 {a : Expr} {es : List Expr} {env : Env} (h : noStar a = true) : starEach (a :: es) env = (false, eval a env) :: starEach es env := by
  cases a <;> first | rfl | cases h
theorem starAll : ∀ {es : List Expr} {env : Env}, es.all noStar = true → (starEach es env).any (·.1) = false
  | [], _, _ => rfl
  | a :: es, env, h => by
    rw [List.all_cons, Bool.and_eq_true] at h
    rw [star1 h.1, List.any_cons, starAll h.2]
    rfl
theorem backAll {pos : Pos} : ∀ {l : List (Bool × Sem Value)}, l.any (·.1) = false → (backTo pos l).any (·.1) = false
  | [], _ => rfl
  | (b, t) :: l, h => by
    rw [List.any_cons, Bool.or_eq_false_iff] at h
    show (b || (backTo pos l).any (·.1)) = false
    rw [backAll h.2, Bool.or_false]
    exact h.1
theorem asg1 {a : Expr} {es : List Expr} {env : Env} (h : noStar a = true) : assignEach (a :: es) env = (false, assign a env) :: assignEach es env := by
  cases a <;> first | rfl | cases h
theorem asgLen : ∀ {es : List Expr} {env : Env}, es.all noStar = true → (assignEach es env).length = es.length ∧ (assignEach es env).findIdx? (·.1) = none
  | [], _, _ => ⟨rfl, rfl⟩
  | a :: es, env, h => by
    rw [List.all_cons, Bool.and_eq_true] at h
    obtain ⟨h1, h2⟩ := asgLen (env := env) h.2
    rw [asg1 h.1]
    refine ⟨by rw [List.length_cons, List.length_cons, h1], ?_⟩
    rw [List.findIdx?_cons]
    simp only [Bool.false_eq_true, if_false]
    rw [h2]
    rfl
theorem plainIx {b : Expr} (h : notSlice b = true) : PlainIx b := by
  intro o i
  cases b <;> first | rfl | cases h
theorem swNone {e : Expr} {l : Nat} {env : Env} (h : notComp e = true) (t : Option Expr) : swapsWith e t l env = pure false := by
  cases e <;> first | rfl | cases h
theorem fold_set {e : Expr} {env : Env} (h : notSet e = true) : ∀ x, foldedSetIterable e env x = pure x := by
  intro x
  cases e <;> first | rfl | cases h
section
variable {T : Tb} {G : Fs} {k : Nat} {X : Cx} {c : Ck}
theorem Gd.visOk (g : Gd T G k X c) {x : Str} (h : c.vis x = true) : Vis X.env.scope x := by
  unfold Ck.vis at h
  unfold Vis
  rw [g.sc]
  split at h
  · rename_i e; exact .inl e
  · rename_i e; exact .inr (.inl e)
  · rename_i e; exact .inr (.inr e)
  · cases h
theorem Gd.locOk (g : Gd T G k X c) {x : Str} (h : c.loc x = true) : L2.Loc X.env.scope x ∧ (X.fn x = true ∨ X.env.scope.names.lookup x = some .local) := by
  unfold Ck.loc at h
  unfold L2.Loc
  rw [g.sc]
  split at h
  · rename_i e; exact ⟨.inl e, .inr e⟩
  · rename_i e
    split at h
    · rename_i e2
      exact ⟨.inr e, .inl (g.fn x e2)⟩
    · cases h
  · cases h
theorem Gd.lclOk (g : Gd T G k X c) {x : Str} (h : c.lcl x = true) : X.env.scope.names.lookup x = some .local := by
  unfold Ck.lcl at h
  rw [g.sc]
  split at h
  · assumption
  · cases h
theorem badN {x : Str} (h : badName x = false) : (x == ("__debug__" : Str)) = false ∧ (x == ("__classdict__" : Str)) = false ∧ x ≠ "__name__" := by
  unfold badName at h
  simp only [Bool.or_eq_false_iff] at h
  exact ⟨h.1.1, h.1.2, fun e => by subst e; exact absurd h.2 (by decide)⟩
theorem Gd.gloOk (g : Gd T G k X c) {x : Str} (h : c.glo x = true) : Gl X x ∧ badName x = false := by
  unfold Ck.glo at h
  simp only [Bool.and_eq_true, Bool.not_eq_true'] at h
  refine ⟨?_, h.2⟩
  have h1 := h.1
  split at h1
  · rename_i e
    show X.env.scope.names.lookup x = some .globalImplicit
    rw [g.sc]; exact e
  · cases h1
theorem Gd.at (g : Gd T G k X c) {x : Str} {i : Nat} (h : posOf x c.N = some i) : X.N[i]? = some x := by rw [g.N]; exact posOf_at h
theorem Gd.varE (g : Gd T G k X c) {x : Str} {i : Nat} {pos : Pos} (hv : c.vis x = true) (hb : badName x = false) (h : posOf x c.N = some i) : PE X (.Name x pos) (tVar i) :=
  pe_var (g.at h) (g.visOk hv) (badN hb).1 (badN hb).2.1
theorem Gd.units (g : Gd T G k X c) : X.A.units + 100 < cLine := by have := g.room.un; omega
theorem Gd.units70 (g : Gd T G k X c) : X.A.units + 70 < cLine := by have := g.room.un; omega
theorem relabel_eq (g : Gd T G k X c) (scope : Scope) : relabel scope X.env = relS scope c.sc := by
  unfold relabel relS
  rw [← g.sc]
  rfl
theorem Gd.blk (g : Gd T G k X c) {scope : Scope} (hk : scope.kind = .function) (s : Shared) (H : Hp) (C : Addr) (cl : List (Str × Addr)) (fp : List Addr) : Gd T G k (X.blk s H scope (compEnvC scope cl C X.env) fp) (blkOf c scope) where
  N := g.N
  nd := g.nd
  sc := relabel_eq g scope
  kd := hk
  fn := fun x hx => by
    show (scope.names.lookup x == some .cell) = true
    rw [show scope.names.lookup x = some .cell from hx]
    rfl
  calm := g.calm
  room := g.room
  gu := g.gu
  xe := rfl
  fns := g.fns
  kws := g.kws
  bis := g.bis
  cons := g.cons
theorem mapE_ind {α : Type} {f : Expr → Option α} {P : List Expr → List α → Prop} (h0 : P [] []) (h1 : ∀ a i es is, f a = some i → mapE f es = some is → P es is → P (a :: es) (i :: is)) : ∀ {es is}, mapE f es = some is → P es is
  | [], is, h => by unfold mapE at h; cases h; exact h0
  | a :: es, is, h => by
    unfold mapE at h
    obtain ⟨i, e1, h⟩ := bnd h
    obtain ⟨is', e2, rfl⟩ := mpd h
    exact h1 a i es is' e1 e2 (mapE_ind h0 h1 e2)
/-- the induction's statement -/
def OkE (T : Tb) (G : Fs) (k n : Nat) : Prop := ∀ (c : Ck) (X : Cx) (e : Expr) (i : E), Gd T G k X c → cE T n c e = some i → PE X e (tE X G i) ∧ PT X e (tT X G i)
theorem PT.vac {e : Expr} {t : TT} (h : ∀ σ H Q, ¬ t σ H Q) : PT X e t := ⟨fun _ _ _ _ _ _ q => (h _ _ _ q).elim⟩
theorem args_ok {n : Nat} (ih : OkE T G k n) (g : Gd T G k X c) {es : List Expr} {is : List E} (hs : es.all noStar = true) (h : mapE (cE T n c) es = some is) : PA X es (tAs X G is) ∧ PA X es (tGs X G is) := by
  refine mapE_ind (P := fun es is => es.all noStar = true → PA X es (tAs X G is) ∧ PA X es (tGs X G is)) (fun _ => ⟨a_nil, g_nil⟩) (fun a i es is e1 e2 q hs => ?_) h hs
  rw [List.all_cons, Bool.and_eq_true] at hs
  obtain ⟨q1, q2⟩ := q hs.2
  have pe := (ih c X a i g e1).1
  exact ⟨a_cons pe q1 (star1 hs.1), g_cons pe q2 (star1 hs.1)⟩
theorem tru_def {i : E} (h : plainT i = true) : ∀ fr, tru G i fr = (ev G i fr).bind fun p => (look p.2 p.1).bind fun d => if okTru d then some (truD d, p.2) else none := by
  intro fr
  cases i <;> first | (cases h; done) | (conv => lhs; unfold tru)
theorem bool_ok {op : BoolOp} {pos : Pos} : ∀ {es : List Expr} {is : List E} {j : E}, (∀ (n : Nat) (a : Expr) (i : E), es[n]? = some a → is[n]? = some i → PE X a (tE X G i) ∧ PT X a (tT X G i)) → es.length = is.length → joinB op is = some j →
    PE X (.BoolOp op es pos) (tE X G j) ∧ PW X (.BoolOp op es pos) (tT X G j)
  | [], [], _, _, _, h => by cases h
  | [], _ :: _, _, _, e, _ => by cases e
  | _ :: _, [], _, _, e, _ => by cases e
  | [a], [i], j, hp, _, h => by
    obtain ⟨p1, p2⟩ := hp 0 a i rfl rfl
    cases h
    cases op with
    | And => exact ⟨pe_one p1, pw_and1 p2⟩
    | Or => exact ⟨pe_one p1, pw_or1 p2⟩
  | [_], _ :: _ :: _, _, _, e, _ => by cases e
  | _ :: _ :: _, [_], _, _, e, _ => by cases e
  | a :: b :: es, i :: i2 :: is, j, hp, e, h => by
    obtain ⟨p1, p2⟩ := hp 0 a i rfl rfl
    unfold joinB at h
    obtain ⟨j2, h2, rfl⟩ := mpd h
    obtain ⟨q1, q2⟩ := bool_ok (pos := pos) (fun n a i e1 e2 => hp (n + 1) a i (by simpa using e1) (by simpa using e2)) (by simpa using e) h2
    cases op with
    | And => exact ⟨s_and p1 q1, w_and p2 q2⟩
    | Or => exact ⟨s_or p1 q1, w_or p2 q2⟩
end
end Tr

set_option Elab.async false
set_option linter.all false
set_option maxRecDepth 100000
set_option maxHeartbeats 4000000
namespace Tr
open PySem PySem.Spec PyProof.Rows L2
section
variable {T : Tb} {G : Fs} {k : Nat} {X : Cx} {c : Ck}
theorem opB_eq {op : Operator} {o : Bop} (h : opB op = some o) : op = bopO o := by
  cases op <;> cases h <;> rfl
theorem opC_eq {op : CmpOp} {o : Cop} (h : opC op = some o) : op = copO o := by
  cases op <;> cases h <;> rfl
/-- value and truth, where the truth is the value's -/
theorem both {e : Expr} {i : E} (h : PE X e (tE X G i)) (he : ∀ whole, isTrue e X.env whole = (do let v ← whole; standAt e.pos; holding [v] (truthy v)))
    (hi : plainT i = true) : PE X e (tE X G i) ∧ PT X e (tT X G i) := ⟨h, t_val h he (tru_def hi)⟩
theorem isi_ok {rec : Expr → Option E} (g : Gd T G k X c) (hrec : ∀ a i, rec a = some i → PE X a (tE X G i)) {args : List Expr} {p pos : Pos} {j : E} (hx : c.glo "isinstance" = true) (h : cIsi c rec args = some j) :
    PE X (.Call (.Name "isinstance" p) args [] pos) (tE X G j) ∧ plainT j = true := by
  have gl := g.gloOk hx
  unfold cIsi at h
  split at h
  · rename_i a y py
    obtain ⟨c1, h⟩ := ite_o h
    rw [Bool.and_eq_true] at c1
    obtain ⟨t, e1, h⟩ := bnd h
    obtain ⟨i, e2, rfl⟩ := mpd h
    have gy := g.gloOk c1.1
    have ht : PE X (.Name y py) (tC (.ty (tyS t))) := by
      unfold tyTab at e1
      simp only [List.lookup] at e1
      split at e1
      · rename_i e3; have := eq_of_beq e3; subst this; cases e1
        exact pe_bltn gy.1 (g.bis _ (by simp [bNames])) PyProof.Rows.boot_int rfl (badN gy.2).2.2 (badN gy.2).1
      · split at e1
        · rename_i e3; have := eq_of_beq e3; subst this; cases e1
          exact pe_bltn gy.1 (g.bis _ (by simp [bNames])) (show bootBuiltins "bool" = some (.type "bool") by decide +kernel) rfl (badN gy.2).2.2 (badN gy.2).1
        · split at e1
          · rename_i e3; have := eq_of_beq e3; subst this; cases e1
            exact pe_bltn gy.1 (g.bis _ (by simp [bNames])) (show bootBuiltins "tuple" = some (.type "tuple") by decide +kernel) rfl (badN gy.2).2.2 (badN gy.2).1
          · split at e1
            · rename_i e3; have := eq_of_beq e3; subst this; cases e1
              exact pe_bltn gy.1 (g.bis _ (by simp [bNames])) (show bootBuiltins "str" = some (.type "str") by decide +kernel) rfl (badN gy.2).2.2 (badN gy.2).1
            · cases e1
    exact ⟨s_isi gl.1 (g.bis _ (by simp [bNames])) (hrec a i e2) ht (star1 c1.2) (star1 rfl) (backAll (starAll (by rfl))), rfl⟩
  · cases h
theorem bi_ok {rec : Expr → Option E} (g : Gd T G k X c) (hrec : ∀ a i, rec a = some i → PE X a (tE X G i)) {x : Str} {args : List Expr} {p pos : Pos} {j : E} (hx : c.glo x = true) (h : cBi c rec x args = some j) :
    PE X (.Call (.Name x p) args [] pos) (tE X G j) ∧ plainT j = true := by
  have gl := g.gloOk hx
  unfold cBi at h
  by_cases hi : (x == ("isinstance" : Str)) = true
  · rw [if_pos hi] at h
    have ex := eq_of_beq hi
    subst ex
    exact isi_ok g hrec hx h
  · rw [if_neg hi] at h
    split at h
    · cases h
    · rename_i b hb
      -- the built-in of that name
      have key : ∃ hV : (bootBuiltins x = some (biV b)) , X.mg x = none ∧ plainBi b = true ∧ ((∃ s, biV b = .builtin s) ∨ ∃ s, biV b = .type s) := by
        unfold biTab at hb
        simp only [List.lookup] at hb
        repeat' (split at hb)
        all_goals first
          | (cases hb; done)
          | (rename_i e3; have := eq_of_beq e3; subst this; cases hb; refine ⟨?_, g.bis _ (by simp [bNames]), rfl, ?_⟩ <;> first | exact .inl ⟨_, rfl⟩ | exact .inr ⟨_, rfl⟩ | decide +kernel)
      obtain ⟨hV, hm, hpl, hk⟩ := key
      have cr := cr_biD (X := X) b g.calm g.units g.gu hpl
      have call : ∀ (e : Expr) (es : List Expr) (is : List E), noStar e = true → es.all noStar = true → PA X (e :: es) (tAs X G is) → PE X (.Call (.Name x p) (e :: es) [] pos) (tE X G (.bi b is)) := fun e es is h1 h2 pa => by
        rcases hk with ⟨s, hs⟩ | ⟨s, hs⟩
        · rw [hs] at cr hV
          exact bi_core (pe_callB cr gl.1 hm hV pa (badN gl.2).2.2 (badN gl.2).1 (star1 h1) (backAll (starAll h2)))
        · rw [hs] at cr hV
          exact bi_core (pe_callTy cr gl.1 hm hV pa (badN gl.2).2.2 (badN gl.2).1 (star1 h1) (backAll (starAll h2)))
      split at h
      · cases h
      · rename_i r p2 a kw q
        by_cases hr : (x == ("list" : Str) && r == ("range" : Str) && c.glo r && kw.isEmpty && noStar a) = true
        · rw [if_pos hr] at h
          simp only [Bool.and_eq_true] at hr
          obtain ⟨⟨⟨⟨h1, h2⟩, h3⟩, h4⟩, h5⟩ := hr
          have ex := eq_of_beq h1
          have er := eq_of_beq h2
          subst ex er
          have ek : kw = [] := List.isEmpty_iff.mp h4
          subst ek
          obtain ⟨i, e1, rfl⟩ := mpd h
          have gr := g.gloOk h3
          exact ⟨s_lrange g.calm gl.1 hm gr.1 (g.bis _ (by simp [bNames])) (hrec a i e1) (star1 h5) (star1 rfl), rfl⟩
        · rw [if_neg hr] at h
          obtain ⟨i, e1, rfl⟩ := mpd h
          exact ⟨call _ [] [i] rfl rfl (a_cons (hrec _ i e1) a_nil (star1 rfl)), rfl⟩
      · rename_i r p2 a a2 kw q
        by_cases hr : (x == ("list" : Str) && r == ("range" : Str) && c.glo r && kw.isEmpty && noStar a && noStar a2) = true
        · rw [if_pos hr] at h
          simp only [Bool.and_eq_true] at hr
          obtain ⟨⟨⟨⟨⟨h1, h2⟩, h3⟩, h4⟩, h5⟩, h6⟩ := hr
          have ex := eq_of_beq h1
          have er := eq_of_beq h2
          subst ex er
          have ek : kw = [] := List.isEmpty_iff.mp h4
          subst ek
          obtain ⟨i, e1, h⟩ := bnd h
          obtain ⟨j, e2, rfl⟩ := mpd h
          have gr := g.gloOk h3
          exact ⟨s_lrange2 g.calm gl.1 hm gr.1 (g.bis _ (by simp [bNames])) (hrec a i e1) (hrec a2 j e2) (star1 h5) (star1 h6) (backAll (starAll (by rw [List.all_cons, h6]; rfl))) (star1 rfl), rfl⟩
        · rw [if_neg hr] at h
          obtain ⟨i, e1, rfl⟩ := mpd h
          exact ⟨call _ [] [i] rfl rfl (a_cons (hrec _ i e1) a_nil (star1 rfl)), rfl⟩
      · rename_i e es hne hne2
        obtain ⟨c1, h⟩ := ite_o h
        rw [Bool.and_eq_true] at c1
        obtain ⟨is, e1, rfl⟩ := mpd h
        refine ⟨call e es is c1.1 c1.2 ?_, rfl⟩
        have : (e :: es).all noStar = true := by rw [List.all_cons, c1.1, c1.2]; rfl
        exact mapE_ind (f := rec) (P := fun es is => es.all noStar = true → PA X es (tAs X G is)) (fun _ => a_nil) (fun a i es is e1 e2 q hs => by
          rw [List.all_cons, Bool.and_eq_true] at hs
          exact a_cons (hrec a i e1) (q hs.2) (star1 hs.1)) e1 this
theorem recvBase {o : Expr} {m : Str} {env : Env} (h : recvOk o = true) : attributeBase o m env (eval o env) = eval o env := by
  unfold recvOk at h
  split at h <;> first | rfl | cases h
theorem it_ok {rec : Expr → Option E} (g : Gd T G k X c) (hrec : ∀ a i, rec a = some i → PE X a (tE X G i)) {tg iter : Expr} {it : It} (h : cIt c rec tg iter = some it) : PI X tg iter (tI X G it) := by
  have tup : ∀ {tg : Expr}, isTupleE tg = true → ∃ es kk p, tg = .Tuple es kk p := fun {tg} h => by
    cases tg <;> first | exact ⟨_, _, _, rfl⟩ | cases h
  unfold cIt at h
  split at h
  · rename_i x p a pos
    by_cases h1 : (x == ("range" : Str) && c.glo x && noStar a) = true
    · rw [if_pos h1] at h
      simp only [Bool.and_eq_true] at h1
      have ex := eq_of_beq h1.1.1
      subst ex
      obtain ⟨i, e1, rfl⟩ := mpd h
      exact i_rg1 (g.gloOk h1.1.2).1 (g.bis _ (by simp [bNames])) (hrec a i e1) (star1 h1.2)
    · rw [if_neg h1] at h
      by_cases h2 : (x == ("enumerate" : Str) && c.glo x && noStar a && isTupleE tg) = true
      · rw [if_pos h2] at h
        simp only [Bool.and_eq_true] at h2
        have ex := eq_of_beq h2.1.1.1
        subst ex
        obtain ⟨i, e1, rfl⟩ := mpd h
        obtain ⟨es, kk, p3, rfl⟩ := tup h2.2
        exact i_en (g.gloOk h2.1.1.2).1 (g.bis _ (by simp [bNames])) (hrec a i e1) (star1 h2.1.2)
      · rw [if_neg h2] at h
        obtain ⟨i, e1, rfl⟩ := mpd h
        exact i_li (hrec _ i e1)
  · rename_i x p a b pos
    by_cases h1 : (x == ("range" : Str) && c.glo x && noStar a && noStar b) = true
    · rw [if_pos h1] at h
      simp only [Bool.and_eq_true] at h1
      have ex := eq_of_beq h1.1.1.1
      subst ex
      obtain ⟨i, e1, h⟩ := bnd h
      obtain ⟨j, e2, rfl⟩ := mpd h
      exact i_rg2 (g.gloOk h1.1.1.2).1 (g.bis _ (by simp [bNames])) (hrec a i e1) (hrec b j e2) (by rw [star1 h1.1.2, star1 h1.2]; rfl) (star1 h1.2)
    · rw [if_neg h1] at h
      by_cases h2 : (x == ("zip" : Str) && c.glo x && noStar a && noStar b && isTupleE tg) = true
      · rw [if_pos h2] at h
        simp only [Bool.and_eq_true] at h2
        have ex := eq_of_beq h2.1.1.1.1
        subst ex
        obtain ⟨i, e1, h⟩ := bnd h
        obtain ⟨j, e2, rfl⟩ := mpd h
        obtain ⟨es, kk, p3, rfl⟩ := tup h2.2
        exact i_zp (g.gloOk h2.1.1.1.2).1 (g.bis _ (by simp [bNames])) (hrec a i e1) (hrec b j e2) (star1 h2.1.1.2) (star1 h2.1.2) (backAll (starAll (by rw [List.all_cons, h2.1.2]; rfl)))
      · rw [if_neg h2] at h
        obtain ⟨i, e1, rfl⟩ := mpd h
        exact i_li (hrec _ i e1)
  · rename_i o m apos cpos
    by_cases h1 : (m == ("items" : Str) && recvOk o && isTupleE tg && apos.endLine == cpos.line) = true
    · rw [if_pos h1] at h
      simp only [Bool.and_eq_true] at h1
      have ex := eq_of_beq h1.1.1.1
      subst ex
      obtain ⟨i, e1, rfl⟩ := mpd h
      obtain ⟨es, kk, p3, rfl⟩ := tup h1.1.2
      exact i_im (hrec o i e1) (recvBase h1.1.1.2) h1.2
    · rw [if_neg h1] at h
      obtain ⟨i, e1, rfl⟩ := mpd h
      exact i_li (hrec _ i e1)
  · obtain ⟨c1, h⟩ := ite_o h
    obtain ⟨i, e1, rfl⟩ := mpd h
    exact i_li (hrec _ i e1)
theorem mapT_ind {α β : Type} {f : α → Option β} {P : List α → List β → Prop} (h0 : P [] []) (h1 : ∀ a i es is, f a = some i → P es is → P (a :: es) (i :: is)) : ∀ {es is}, mapE f es = some is → P es is
  | [], is, h => by unfold mapE at h; cases h; exact h0
  | a :: es, is, h => by
    unfold mapE at h
    obtain ⟨i, e1, h⟩ := bnd h
    obtain ⟨is', e2, rfl⟩ := mpd h
    exact h1 a i es is' e1 (mapT_ind h0 h1 e2)
theorem tg_ok (lk : List Nat) (g : Gd T G k X c) : ∀ {n : Nat} {e : Expr} {t : Tg}, cTg c n e = some t → PG X e (gT X.K lk t) := by
  intro n
  induction n with
  | zero => intro e t h; cases h
  | succ n ih =>
    intro e t h
    unfold cTg at h
    split at h
    · rename_i x p
      obtain ⟨c1, h⟩ := ite_o h
      obtain ⟨i, e1, rfl⟩ := mpd h
      exact g_n (pg_name g.nd (g.at e1) (g.locOk c1).1 (g.locOk c1).2)
    · rename_i es kk p
      obtain ⟨c1, h⟩ := ite_o h
      obtain ⟨ts, e1, rfl⟩ := mpd h
      have key : es.all noStar = true → PGs X es (gTs X.K lk ts) ∧ es.length = ts.length := mapT_ind (P := fun es ts => es.all noStar = true → PGs X es (gTs X.K lk ts) ∧ es.length = ts.length) (fun _ => ⟨gs_nil, rfl⟩) (fun a i es is e1 q hs => by
        rw [List.all_cons, Bool.and_eq_true] at hs
        obtain ⟨q1, q2⟩ := q hs.2
        refine ⟨gs_cons (ih e1) q1 ?_, by rw [List.length_cons, List.length_cons, q2]⟩
        rw [asg1 hs.1]
        rfl) e1
      obtain ⟨k1, k2⟩ := key c1
      obtain ⟨l1, l2⟩ := asgLen (env := X.env) c1
      exact g_t g.calm k1 k2 l1 l2
    · cases h
end
end Tr

set_option Elab.async false
set_option linter.all false
set_option maxRecDepth 100000
set_option maxHeartbeats 4000000
namespace Tr
open PySem PySem.Spec PyProof.Rows L2
section
variable {T : Tb} {G : Fs} {k : Nat} {X : Cx} {c : Ck}
theorem part_ok {rec : Expr → Option E} (hrec : ∀ a i, rec a = some i → PE X a (tE X G i)) {o : Option Expr} {l : Option E} (h : cPart rec o = some l) : PO X o (tPart' X G l) := by
  cases o with
  | none => unfold cPart at h; cases h; exact p_none
  | some e =>
    unfold cPart at h
    obtain ⟨i, e1, rfl⟩ := mpd h
    exact p_some (hrec e i e1)
theorem ifs_ok {rec : Expr → Option E} (hrec : ∀ a i, rec a = some i → PT X a (tT X G i)) {es : List Expr} {w : Option E} (h : cIfs rec es = some w) : PTs X es (tB' X.K (truO G w)) := by
  match es, h with
  | [], h =>
    unfold cIfs at h
    cases h
    refine ⟨fun pins s σ H Q I q => ?_⟩
    obtain ⟨fr, L, b, fr', ok, l, ee, q⟩ := q
    unfold truO at ee
    cases ee
    exact pts_nil.run pins s σ H Q I (q H ok l)
  | [e], h =>
    unfold cIfs at h
    obtain ⟨i, e1, rfl⟩ := mpd h
    refine ⟨fun pins s σ H Q I q => ?_⟩
    refine (pts_one (hrec e i e1)).run pins s σ H Q I ?_
    obtain ⟨fr, L, b, fr', ok, l, ee, q⟩ := q
    exact ⟨fr, L, b, fr', ok, l, by unfold truO at ee; exact ee, q⟩
theorem fewOk {a : Expr} {env : Env} {cpos : Pos} (h : noStar a = true) : ((backTo cpos (starEach [a] env)).all (fun x => !x.1) && (backToKw cpos (keywordEach [] env)).all (fun x => x.1.isSome)
      && decide ([a].length + ([] : List Keyword).length + (if ([] : List Keyword).isEmpty then 0 else 1) < 30)) = true := by
  rw [star1 h]
  rfl
theorem few2 {a b : Expr} {env : Env} {cpos : Pos} (h : noStar a = true) (h2 : noStar b = true) : ((backTo cpos (starEach [a, b] env)).all (fun x => !x.1) && (backToKw cpos (keywordEach [] env)).all (fun x => x.1.isSome)
      && decide ([a, b].length + ([] : List Keyword).length + (if ([] : List Keyword).isEmpty then 0 else 1) < 30)) = true := by
  rw [star1 h, star1 h2]
  rfl
theorem baseName {x : Str} {p : Pos} {m : Str} {env : Env} : attributeBase (.Name x p) m env (eval (.Name x p) env) = eval (.Name x p) env := rfl
/-- what a comprehension's parts are -/
structure CompOk (T : Tb) (G : Fs) (k : Nat) (X : Cx) (tg iter elt : Expr) (ifs : List Expr) (scope : Scope) (own : List (Str × Nat)) (i : E) (tt : TT) (te : TE) (gg : TG) (ti : TI) : Prop where
  blk : BlkOk X.N X.env.scope scope own
  it : PI X tg iter ti
  tg : ∀ (s : Shared) (H : Hp) (C : Addr) (cl : List (Str × Addr)) (fp : List Addr), PG (X.blk s H scope (compEnvC scope cl C X.env) fp) tg gg
  tests : ∀ (s : Shared) (H : Hp) (C : Addr) (cl : List (Str × Addr)) (fp : List Addr), PTs (X.blk s H scope (compEnvC scope cl C X.env) fp) ifs tt
  elt : ∀ (s : Shared) (H : Hp) (C : Addr) (cl : List (Str × Addr)) (fp : List Addr), PE (X.blk s H scope (compEnvC scope cl C X.env) fp) elt te
  set : ∀ x, foldedSetIterable iter X.env x = pure x
  core : ∀ σ H Q, tE X G i σ H Q → tLc ti gg tt te (own.map (·.2)) σ H Q
def cComp (T : Tb) (n : Nat) (c : Ck) (elt : Expr) (gens : List Comprehension) (scope : Scope) : Option E := match gens with
  | [⟨tg, iter, ifs, 0⟩] =>
    let own := ownOf c scope
    if blkC c.N c.sc scope own && notSet iter then
      (cIt c (cE T n c) tg iter).bind fun it => (cTg (blkOf c scope) n tg).bind fun t => (cIfs (cE T n (blkOf c scope)) ifs).bind fun w => (cE T n (blkOf c scope) elt).bind fun k =>
        if t.ixs.all fun i => (own.map (·.2)).contains i then some (.comp k t it w (own.map (·.2)) (isOwn elt)) else none
    else none
  | _ => none
theorem comp_ok {n : Nat} (ih : OkE T G k n) (g : Gd T G k X c) {elt : Expr} {gens : List Comprehension} {scope : Scope} {i : E} (h : cComp T n c elt gens scope = some i) :
    ∃ tg iter ifs own tt te gg ti, gens = [⟨tg, iter, ifs, 0⟩] ∧ CompOk T G k X tg iter elt ifs scope own i tt te gg ti ∧ plainT i = true := by
  unfold cComp at h
  split at h
  · rename_i tg iter ifs
    dsimp only at h
    obtain ⟨c1, h⟩ := ite_o h
    rw [Bool.and_eq_true] at c1
    obtain ⟨it, e1, h⟩ := bnd h
    obtain ⟨t, e2, h⟩ := bnd h
    obtain ⟨w, e3, h⟩ := bnd h
    obtain ⟨kk, e4, h⟩ := bnd h
    obtain ⟨c2, h⟩ := ite_o h
    cases h
    have bo : BlkOk X.N X.env.scope scope (ownOf c scope) := by rw [g.N, g.sc]; exact blkOk_by c1.1
    have hk := bo.kind
    refine ⟨tg, iter, ifs, ownOf c scope, tB' X.K (truO G w), tP X.K (ev G kk), gT X.K [] t, tI X G it, rfl, ⟨bo, it_ok g (fun a i e => (ih c X a i g e).1) e1, ?_, ?_, ?_, fold_set c1.2, ?_⟩, rfl⟩
    · exact fun s H C cl fp => tg_ok [] (g.blk hk s H C cl fp) e2
    · exact fun s H C cl fp => ifs_ok (X := X.blk s H scope (compEnvC scope cl C X.env) fp) (fun a i e => (ih _ _ a i (g.blk hk s H C cl fp) e).2) e3
    · exact fun s H C cl fp => (ih _ _ elt kk (g.blk hk s H C cl fp) e4).1
    · have hw : ∀ i ∈ t.ixs, i ∈ (ownOf c scope).map (·.2) := fun i hi => List.contains_iff_mem.mp (List.all_eq_true.mp c2 i hi)
      intro σ H Q q
      cases ho : isOwn elt with
      | true => rw [ho] at q; exact comp_coreO hw q
      | false => rw [ho] at q; exact comp_core hw q
  · cases h
theorem mem_lookupP {α β : Type} [BEq α] [LawfulBEq α] {a : α} {b : β} : ∀ {l : List (α × β)}, l.lookup a = some b → (a, b) ∈ l
  | [], h => by cases h
  | (x, y) :: l, h => by
    rw [List.lookup_cons] at h
    cases c : a == x with
    | true =>
      rw [c] at h
      cases h
      rw [eq_of_beq c]
      exact List.mem_cons_self
    | false =>
      rw [c] at h
      exact List.mem_cons_of_mem _ (mem_lookupP h)
/-- of two clauses -/
structure Comp2Ok (T : Tb) (G : Fs) (k : Nat) (X : Cx) (tg iter tg1 iter1 elt : Expr) (ifs ifs1 : List Expr) (scope : Scope) (own : List (Str × Nat)) (vs1 : List Nat) (i : E) (tt tt1 : TT) (te : TE) (gg gg1 : TG) (ti ti1 : TI) : Prop where
  blk : BlkOk X.N X.env.scope scope own
  hv : ∀ i ∈ vs1, i ∈ own.map (·.2)
  it : PI X tg iter ti
  tg : ∀ (s : Shared) (H : Hp) (C : Addr) (cl : List (Str × Addr)) (fp : List Addr), PG (X.blk s H scope (compEnvC scope cl C X.env) fp) tg gg
  tests : ∀ (s : Shared) (H : Hp) (C : Addr) (cl : List (Str × Addr)) (fp : List Addr), PTs (X.blk s H scope (compEnvC scope cl C X.env) fp) ifs tt
  it1 : ∀ (s : Shared) (H : Hp) (C : Addr) (cl : List (Str × Addr)) (fp : List Addr), PI (X.blk s H scope (compEnvC scope cl C X.env) fp) tg1 iter1 ti1
  tg1 : ∀ (s : Shared) (H : Hp) (C : Addr) (cl : List (Str × Addr)) (fp : List Addr), PG (X.blk s H scope (compEnvC scope cl C X.env) fp) tg1 gg1
  tests1 : ∀ (s : Shared) (H : Hp) (C : Addr) (cl : List (Str × Addr)) (fp : List Addr), PTs (X.blk s H scope (compEnvC scope cl C X.env) fp) ifs1 tt1
  elt : ∀ (s : Shared) (H : Hp) (C : Addr) (cl : List (Str × Addr)) (fp : List Addr), PE (X.blk s H scope (compEnvC scope cl C X.env) fp) elt te
  set : ∀ x, foldedSetIterable iter X.env x = pure x
  set1 : ∀ env x, foldedSetIterable iter1 env x = pure x
  core : ∀ σ H Q, tE X G i σ H Q → tLc2 ti gg tt ti1 gg1 tt1 te (own.map (·.2)) vs1 σ H Q
def cComp2 (T : Tb) (n : Nat) (c : Ck) (elt tg iter : Expr) (ifs : List Expr) (tg1 iter1 : Expr) (ifs1 : List Expr) (scope : Scope) : Option E :=
  let own := ownOf c scope
  if blkC c.N c.sc scope own && notSet iter && notSet iter1 then
    (cIt c (cE T n c) tg iter).bind fun it => (cTg (blkOf c scope) n tg).bind fun t => (cIfs (cE T n (blkOf c scope)) ifs).bind fun w =>
    (cIt (blkOf c scope) (cE T n (blkOf c scope)) tg1 iter1).bind fun it1 => (cTg (blkOf c scope) n tg1).bind fun t1 => (cIfs (cE T n (blkOf c scope)) ifs1).bind fun w1 => (cE T n (blkOf c scope) elt).bind fun k =>
      if (t.ixs.all fun i => (own.map (·.2)).contains i) && t1.ixs.all fun i => (own.map (·.2)).contains i then some (.comp2 k t it w t1 it1 w1 (own.map (·.2)) t1.ixs) else none
  else none
theorem comp2_ok {n : Nat} (ih : OkE T G k n) (g : Gd T G k X c) {elt tg iter tg1 iter1 : Expr} {ifs ifs1 : List Expr} {scope : Scope} {i : E} (h : cComp2 T n c elt tg iter ifs tg1 iter1 ifs1 scope = some i) :
    ∃ own vs1 tt tt1 te gg gg1 ti ti1, Comp2Ok T G k X tg iter tg1 iter1 elt ifs ifs1 scope own vs1 i tt tt1 te gg gg1 ti ti1 ∧ plainT i = true := by
  unfold cComp2 at h
  dsimp only at h
  obtain ⟨c1, h⟩ := ite_o h
  rw [Bool.and_eq_true, Bool.and_eq_true] at c1
  obtain ⟨it, e1, h⟩ := bnd h
  obtain ⟨t, e2, h⟩ := bnd h
  obtain ⟨w, e3, h⟩ := bnd h
  obtain ⟨it1, e5, h⟩ := bnd h
  obtain ⟨t1, e6, h⟩ := bnd h
  obtain ⟨w1, e7, h⟩ := bnd h
  obtain ⟨kk, e4, h⟩ := bnd h
  obtain ⟨c2, h⟩ := ite_o h
  rw [Bool.and_eq_true] at c2
  cases h
  have bo : BlkOk X.N X.env.scope scope (ownOf c scope) := by rw [g.N, g.sc]; exact blkOk_by c1.1.1
  have hk := bo.kind
  have hw : ∀ i ∈ t.ixs, i ∈ (ownOf c scope).map (·.2) := fun i hi => List.contains_iff_mem.mp (List.all_eq_true.mp c2.1 i hi)
  have hw1 : ∀ i ∈ t1.ixs, i ∈ (ownOf c scope).map (·.2) := fun i hi => List.contains_iff_mem.mp (List.all_eq_true.mp c2.2 i hi)
  refine ⟨ownOf c scope, t1.ixs, tB' X.K (truO G w), tB' X.K (truO G w1), tP X.K (ev G kk), gT X.K [] t, gT X.K [] t1, tI X G it, tI X G it1, ⟨bo, hw1, it_ok g (fun a i e => (ih c X a i g e).1) e1, ?_, ?_, ?_, ?_, ?_, ?_, fold_set c1.1.2, fun env x => fold_set c1.2 x, ?_⟩, rfl⟩
  · exact fun s H C cl fp => tg_ok [] (g.blk hk s H C cl fp) e2
  · exact fun s H C cl fp => ifs_ok (X := X.blk s H scope (compEnvC scope cl C X.env) fp) (fun a i e => (ih _ _ a i (g.blk hk s H C cl fp) e).2) e3
  · exact fun s H C cl fp => it_ok (g.blk hk s H C cl fp) (fun a i e => (ih _ _ a i (g.blk hk s H C cl fp) e).1) e5
  · exact fun s H C cl fp => tg_ok [] (g.blk hk s H C cl fp) e6
  · exact fun s H C cl fp => ifs_ok (X := X.blk s H scope (compEnvC scope cl C X.env) fp) (fun a i e => (ih _ _ a i (g.blk hk s H C cl fp) e).2) e7
  · exact fun s H C cl fp => (ih _ _ elt kk (g.blk hk s H C cl fp) e4).1
  · exact fun σ H Q q => comp2_core hw (fun i hi => hi) hw1 q
theorem oo_ok {rec : Expr → Option E} (g : Gd T G k X c) (hrec : ∀ a i, rec a = some i → PE X a (tE X G i)) {v i : Expr} {p : Pos} {j : E} (hn : notSlice i = true) (h : cOo c rec v i = some j) : PE X (.Subscript v i p) (tE X G j) ∧ plainT j = true := by
  unfold cOo at h
  split at h
  · rename_i x q i1 p1 y q2
    obtain ⟨c1, h⟩ := ite_o h
    simp only [Bool.and_eq_true, Bool.not_eq_true'] at c1
    obtain ⟨s, e1, h⟩ := bnd h
    obtain ⟨jj, e2, h⟩ := bnd h
    obtain ⟨kk, e3, rfl⟩ := mpd h
    exact ⟨s_idx2 (g.varE c1.1.1.1.1.2 c1.1.1.1.2 e1) (hrec _ _ e3) (g.varE c1.1.1.2 c1.1.2 e2) (plainIx c1.2) (plainIx hn), rfl⟩
  · cases h
theorem name_ok (g : Gd T G k X c) {x : Str} {pos : Pos} {i : E} (h : cName T c x = some i) : PE X (.Name x pos) (tE X G i) ∧ plainT i = true := by
  unfold cName at h
  by_cases hb : badName x = true
  · rw [if_pos hb] at h; cases h
  · rw [if_neg hb] at h
    have hb : badName x = false := by simpa using hb
    by_cases hv : c.vis x = true
    · rw [if_pos hv] at h
      obtain ⟨j, e1, rfl⟩ := mpd h
      exact ⟨s_var (g.varE hv hb e1), rfl⟩
    · rw [if_neg hv] at h
      obtain ⟨c1, h⟩ := ite_o h
      obtain ⟨d, e1, rfl⟩ := mpd h
      obtain ⟨u, v, m1, r, hd⟩ := g.cons x d e1
      have gl := g.gloOk c1
      exact ⟨s_glb (pe_glob gl.1 m1 r (badN hb).1) hd, rfl⟩
def cCmp (rec : Expr → Option E) (a : Expr) (op : CmpOp) (b : Expr) : Option E := match op, b with
  | .Is, .Constant .none _ _ => (rec a).map fun i => .isc i .none false
  | .Is, .Constant (.bool z) _ _ => (rec a).map fun i => .isc i (.bool z) false
  | .IsNot, .Constant .none _ _ => (rec a).map fun i => .isc i .none true
  | .IsNot, .Constant (.bool z) _ _ => (rec a).map fun i => .isc i (.bool z) true
  | op, b => if behindInMarks op b then none else (opC op).bind fun o => (rec a).bind fun i => (rec b).map fun j => .cmp o i j
theorem cmp_ok {rec : Expr → Option E} (g : Gd T G k X c) (hrec : ∀ a i, rec a = some i → PE X a (tE X G i)) {a b : Expr} {op : CmpOp} {pos : Pos} {i : E} (h : cCmp rec a op b = some i) : PE X (.Compare a [op] [b] pos) (tE X G i) ∧ PT X (.Compare a [op] [b] pos) (tT X G i) := by
  unfold cCmp at h
  split at h
  · obtain ⟨j, e1, rfl⟩ := mpd h; exact ⟨s_isN (hrec a j e1), t_isN (hrec a j e1)⟩
  · obtain ⟨j, e1, rfl⟩ := mpd h; exact ⟨s_isB (hrec a j e1), t_isB (hrec a j e1)⟩
  · obtain ⟨j, e1, rfl⟩ := mpd h; exact ⟨s_noN (hrec a j e1), t_noN (hrec a j e1)⟩
  · obtain ⟨j, e1, rfl⟩ := mpd h; exact ⟨s_noB (hrec a j e1), t_noB (hrec a j e1)⟩
  · split at h
    · cases h
    · rename_i hm
      have hm : behindInMarks op b = false := by simpa using hm
      obtain ⟨o, e1, h2⟩ := bnd h
      clear h
      have eo := opC_eq e1
      subst eo
      obtain ⟨j, e2, h3⟩ := bnd h2
      obtain ⟨l, e3, rfl⟩ := mpd h3
      exact ⟨s_cmp g.units70 (hrec a j e2) (hrec b l e3) hm, t_cmp g.units70 (hrec a j e2) (hrec b l e3) hm⟩
theorem mapE_at {α β : Type} {f : α → Option β} : ∀ {es : List α} {is : List β}, mapE f es = some is → es.length = is.length ∧ ∀ (n : Nat) (a : α) (i : β), es[n]? = some a → is[n]? = some i → f a = some i
  | [], is, h => by unfold mapE at h; cases h; exact ⟨rfl, fun n a i e => by simp at e⟩
  | a :: es, is, h => by
    unfold mapE at h
    obtain ⟨i, e1, h⟩ := bnd h
    obtain ⟨is', e2, rfl⟩ := mpd h
    obtain ⟨q1, q2⟩ := mapE_at e2
    refine ⟨by rw [List.length_cons, List.length_cons, q1], fun n b j hb hj => ?_⟩
    cases n with
    | zero => simp at hb hj; subst hb hj; exact e1
    | succ n => exact q2 n b j (by simpa using hb) (by simpa using hj)
theorem okE : ∀ n, OkE T G k n := by
  intro n
  induction n with
  | zero => intro c X e i g h; cases h
  | succ n ih =>
    intro c X e i g h
    have hrec : ∀ a i, cE T n c a = some i → PE X a (tE X G i) := fun a i e => (ih c X a i g e).1
    have hrecT : ∀ a i, cE T n c a = some i → PT X a (tT X G i) := fun a i e => (ih c X a i g e).2
    cases e with
    | Constant v j p =>
      simp only [cE] at h
      cases v <;> simp only [] at h <;> first
        | (cases h; done)
        | (cases h; exact both (s_con pe_int rfl) (fun _ => rfl) rfl)
        | (cases h; exact both (s_con pe_bl rfl) (fun _ => rfl) rfl)
        | (cases h; exact both (s_con pe_str rfl) (fun _ => rfl) rfl)
        | (cases h; exact both (s_con pe_non rfl) (fun _ => rfl) rfl)
    | Name x p =>
      simp only [cE] at h
      obtain ⟨h1, h2⟩ := name_ok (pos := p) g h
      exact both h1 (fun _ => rfl) h2
    | Tuple es j p =>
      simp only [cE] at h
      obtain ⟨c1, h⟩ := ite_o h
      obtain ⟨is, e1, rfl⟩ := mpd h
      exact both (s_tup (args_ok ih g c1 e1).2) (fun _ => rfl) rfl
    | List es p =>
      simp only [cE] at h
      obtain ⟨c1, h⟩ := ite_o h
      obtain ⟨is, e1, rfl⟩ := mpd h
      exact both (s_lst (args_ok ih g c1 e1).2) (fun _ => rfl) rfl
    | Dict ks vs p =>
      simp only [cE] at h
      split at h
      · cases h
        exact both s_dct0 (fun _ => rfl) rfl
      · obtain ⟨i1, e1, h8⟩ := bnd h
        obtain ⟨i2, e2, rfl⟩ := mpd h8
        exact both (s_dct1 g.units70 (hrec _ _ e1) (hrec _ _ e2)) (fun _ => rfl) rfl
      · cases h
    | BinOp a op b p =>
      simp only [cE] at h
      obtain ⟨o, e1, h2⟩ := bnd h
      clear h
      have eo := opB_eq e1
      subst eo
      obtain ⟨i1, e2, h3⟩ := bnd h2
      obtain ⟨i2, e3, rfl⟩ := mpd h3
      exact both (s_bin (hrec _ _ e2) (hrec _ _ e3)) (fun _ => rfl) rfl
    | UnaryOp op a p =>
      simp only [cE] at h
      cases op <;> simp only [] at h <;> first | (cases h; done) | skip
      · obtain ⟨i1, e2, rfl⟩ := mpd h
        exact ⟨s_not (hrec _ _ e2), t_not (hrecT _ _ e2)⟩
      · obtain ⟨i1, e2, rfl⟩ := mpd h
        exact both (s_neg (hrec _ _ e2)) (fun _ => rfl) rfl
    | Compare a ops bs p =>
      simp only [cE] at h
      split at h
      · rename_i op b
        exact cmp_ok g hrec h
      · rename_i o1 o2 b d
        split at h
        · cases h
        · rename_i hm
          have hm : lastMarks [o1, o2] [b, d] = false := by simpa using hm
          obtain ⟨p1, e1, h2⟩ := bnd h
          obtain ⟨p2, e2, h3⟩ := bnd h2
          clear h h2
          have eo1 := opC_eq e1
          have eo2 := opC_eq e2
          subst eo1 eo2
          obtain ⟨i1, e3, h4⟩ := bnd h3
          obtain ⟨i2, e4, h5⟩ := bnd h4
          obtain ⟨i3, e5, rfl⟩ := mpd h5
          exact ⟨s_chn g.units70 (hrec _ _ e3) (hrec _ _ e4) (hrec _ _ e5) hm, t_chn g.units70 (hrec _ _ e3) (hrec _ _ e4) (hrec _ _ e5) hm⟩
      · cases h
    | BoolOp op es p =>
      simp only [cE] at h
      obtain ⟨is, e1, h⟩ := bnd h
      obtain ⟨q1, q2⟩ := mapE_at e1
      obtain ⟨r1, r2⟩ := bool_ok (pos := p) (fun n a i ha hi => ih c X a i g (q2 n a i ha hi)) q1 h
      exact ⟨r1, r2.pt⟩
    | IfExp t a b p =>
      simp only [cE] at h
      obtain ⟨i1, e1, h⟩ := bnd h
      obtain ⟨i2, e2, h⟩ := bnd h
      obtain ⟨i3, e3, rfl⟩ := mpd h
      refine ⟨s_ite (hrecT _ _ e1) (hrec _ _ e2) (hrec _ _ e3), PT.vac fun σ H Q q => ?_⟩
      obtain ⟨fr, L, z, fr', ok, l, ee, q⟩ := q
      unfold tru at ee
      cases ee
    | Subscript v i p =>
      simp only [cE] at h
      split at h
      · obtain ⟨i1, e1, rfl⟩ := mpd h
        exact both (s_rev (hrec _ _ e1)) (fun _ => rfl) rfl
      · rename_i lo hi q
        obtain ⟨i1, e1, h⟩ := bnd h
        obtain ⟨l, e2, h⟩ := bnd h
        obtain ⟨hh, e3, rfl⟩ := mpd h
        exact both (s_slc (hrec _ _ e1) (part_ok hrec e2) (part_ok hrec e3)) (fun _ => rfl) rfl
      · obtain ⟨c1, h⟩ := ite_o h
        split at h
        · rename_i kk hk
          cases h
          obtain ⟨q1, q2⟩ := oo_ok (p := p) g hrec c1 hk
          exact both q1 (fun _ => rfl) q2
        · obtain ⟨i1, e1, h⟩ := bnd h
          obtain ⟨i2, e2, rfl⟩ := mpd h
          exact both (s_idx g.units70 (hrec _ _ e1) (hrec _ _ e2) (plainIx c1)) (fun _ => rfl) rfl
    | Call f args kws p =>
      simp only [cE] at h
      split at h
      · rename_i o m apos
        split at h
        · rename_i a
          obtain ⟨c1, h9⟩ := ite_o h
          clear h
          simp only [Bool.and_eq_true] at c1
          by_cases m1 : (m == ("count" : Str)) = true
          · rw [if_pos m1] at h9
            have em := eq_of_beq m1
            subst em
            obtain ⟨i1, e1, h8⟩ := bnd h9
            obtain ⟨i2, e2, rfl⟩ := mpd h8
            exact both (s_count (hrec _ _ e1) (hrec _ _ e2) (by have := g.units; omega) (recvBase c1.1.1) (fewOk c1.1.2) c1.2 (star1 c1.1.2)) (fun _ => rfl) rfl
          · rw [if_neg m1] at h9
            obtain ⟨m2, h10⟩ := ite_o h9
            have em := eq_of_beq m2
            subst em
            obtain ⟨i1, e1, h8⟩ := bnd h10
            obtain ⟨i2, e2, rfl⟩ := mpd h8
            exact both (s_get1 g.units70 (hrec _ _ e1) (hrec _ _ e2) (recvBase c1.1.1) (fewOk c1.1.2) c1.2 (star1 c1.1.2)) (fun _ => rfl) rfl
        · rename_i a b
          obtain ⟨c1, h9⟩ := ite_o h
          clear h
          simp only [Bool.and_eq_true] at c1
          have em := eq_of_beq c1.1.1.1.1
          subst em
          obtain ⟨i1, e1, h8⟩ := bnd h9
          obtain ⟨i2, e2, h7⟩ := bnd h8
          obtain ⟨i3, e3, rfl⟩ := mpd h7
          exact both (s_get2 g.units70 (hrec _ _ e1) (hrec _ _ e2) (hrec _ _ e3) (recvBase c1.1.1.1.2) (few2 c1.1.1.2 c1.1.2) c1.2 (star1 c1.1.1.2) (star1 c1.1.2) (backAll (starAll (by rw [List.all_cons, c1.1.2]; rfl)))) (fun _ => rfl) rfl
        · split at h
          · rename_i x q
            obtain ⟨c1, h9⟩ := ite_o h
            clear h
            simp only [Bool.and_eq_true, Bool.not_eq_true'] at c1
            have em := eq_of_beq c1.1.1.1
            subst em
            obtain ⟨k, e1, rfl⟩ := mpd h9
            exact both (s_pop (g.varE c1.1.1.2 c1.1.2 e1) baseName c1.2) (fun _ => rfl) rfl
          · cases h
        · cases h
      · rename_i x q
        obtain ⟨c1, h⟩ := ite_o h
        have gl := g.gloOk c1
        split at h
        · rename_i f hf
          obtain ⟨c2, h⟩ := ite_o h
          obtain ⟨is, e1, rfl⟩ := mpd h
          obtain ⟨fa, fd, ps, m1, kp, bd, F⟩ := g.fns f x (posOf_at hf)
          cases args with
          | nil =>
            cases e1
            refine both (call_core (pe_mono (pe_callG0 F g.room g.gu gl.1 m1 kp bd (badN gl.2).1) fun σ H Q q => ?_)) (fun _ => rfl) rfl
            obtain ⟨fr, L, ps', fr', ok, l, ee, q⟩ := q
            unfold evs at ee
            cases ee
            exact q [] H ok ⟨.nil, l⟩
          | cons e es =>
            rw [List.all_cons, Bool.and_eq_true] at c2
            have pa := (args_ok ih g (by rw [List.all_cons, c2.1, c2.2]; rfl) e1).1
            exact both (call_core (pe_callG F g.room g.gu gl.1 m1 kp bd pa (badN gl.2).1 (star1 c2.1) (backAll (starAll c2.2)))) (fun _ => rfl) rfl
        · obtain ⟨h1, h2⟩ := bi_ok (p := q) (pos := p) g hrec c1 h
          exact both h1 (fun _ => rfl) h2
      · rename_i x q k1 kws
        obtain ⟨c1, h9⟩ := ite_o h
        clear h
        rw [Bool.and_eq_true] at c1
        have gl := g.gloOk c1.1
        have ea : args = [] := List.isEmpty_iff.mp c1.2
        subst ea
        obtain ⟨kf, e1, h8⟩ := bnd h9
        obtain ⟨⟨ks, es⟩, e2, h7⟩ := bnd h8
        obtain ⟨perm, e3, h6⟩ := bnd h7
        obtain ⟨c2, h5⟩ := ite_o h6
        obtain ⟨is, e4, rfl⟩ := mpd h5
        clear h9 h8 h7 h6
        obtain ⟨f', e5, fa, fd, ps, m1, kp, kb, F⟩ := g.kws x ks perm (mem_lookupP e3)
        rw [e1] at e5
        cases e5
        obtain ⟨w1, w2, w3, w4⟩ := kwSplit_is e2 p X.env
        obtain ⟨pk, hl⟩ := kw_ok hrec (mapE (cE T n c)) rfl (fun e es is he => by
          unfold mapE at he
          obtain ⟨i, q1, he⟩ := bnd he
          obtain ⟨is', q2, rfl⟩ := mpd he
          exact ⟨i, is', q1, q2, rfl⟩) e2 e4
        refine both (callk_core (by rw [hl, w4]; exact c2) (pe_callGK F g.room g.gu gl.1 m1 kp kb pk w1 w2 (fun σ H Q q => ?_) (badN gl.2).1 ?_)) (fun _ => rfl) rfl
        · have := tAs_len q
          rw [hl, w4] at this
          exact this
        · rw [w3]; rfl
      · cases h
    | ListComp elt gens scope p =>
      simp only [cE] at h
      split at h
      · rename_i tg0 iter0 ifs0
        have h : cComp T n c elt [⟨tg0, iter0, ifs0, 0⟩] scope = some i := h
        obtain ⟨tg, iter, ifs, own, tt, te, gg, ti, e0, C, hp⟩ := comp_ok ih g h
        rw [e0]
        exact both (pe_mono (pe_lc g.calm g.nd C.it C.blk C.tg C.tests C.elt C.set) C.core) (fun _ => rfl) hp
      · rename_i tg iter ifs tg1 iter1 ifs1
        have h : cComp2 T n c elt tg iter ifs tg1 iter1 ifs1 scope = some i := h
        obtain ⟨own, vs1, tt, tt1, te, gg, gg1, ti, ti1, C, hp⟩ := comp2_ok ih g h
        exact both (pe_mono (pe_lc2 g.calm g.nd C.it C.blk C.hv C.tg C.tests C.it1 C.tg1 C.tests1 C.elt C.set C.set1) C.core) (fun _ => rfl) hp
      · cases h
    | _ => cases h
end
end Tr

set_option Elab.async false
set_option linter.all false
set_option maxRecDepth 100000
set_option maxHeartbeats 4000000
namespace Tr
open PySem PySem.Spec PyProof.Rows L2
section
variable {T : Tb} {G : Fs} {k : Nat} {X : Cx} {c : Ck}
theorem Gd.kf (g : Gd T G k X c) : X.env.scope.kind = .function := by rw [g.sc]; exact g.kd
theorem Gd.bk (g : Gd T G k X c) : X.env.blockKind = .function := by
  unfold Env.blockKind
  rw [g.kf]
  rfl
theorem swRes_ok (g : Gd T G k X c) {ts es : List Expr} {j j2 : Nat} {p p2 : Pos} {r : Option (List Str)} (h : swRes c ts es = some r) : swappedStores [.Tuple ts j p] (.Tuple es j2 p2) X.env = pure r := by
  unfold swRes at h
  unfold swappedStores
  have hb := g.bk
  have hk : ∀ x, X.env.kindOf x = c.sc.names.lookup x := fun x => by
    show X.env.scope.names.lookup x = _
    rw [g.sc]
  simp only [hb, hk] at h ⊢
  by_cases c1 : (!(ts.length == 2 || ts.length == 3) || es.length != ts.length) = true
  · rw [if_pos c1] at h
    cases h
    have c1' : (!(ts.length == 2 || ts.length == 3) || es.length != ts.length || (ScopeKind.function != ScopeKind.function)) = true := by rw [c1]; rfl
    exact (if_pos c1').trans rfl
  · rw [if_neg c1] at h
    have c1' : ¬ (!(ts.length == 2 || ts.length == 3) || es.length != ts.length || (ScopeKind.function != ScopeKind.function)) = true := by
      rw [Bool.not_eq_true] at c1
      rw [c1]
      decide
    refine (if_neg c1').trans ?_
    split at h
    · rename_i c2
      cases h
      exact (if_pos (by exact c2)).trans rfl
    · rename_i c2
      refine (if_neg (by exact c2)).trans ?_
      split at h
      · rename_i c3
        cases h
        exact (if_pos (by exact c3)).trans rfl
      · rename_i c3
        refine (if_neg (by exact c3)).trans ?_
        split at h
        · rename_i c4
          cases h
          exact (if_pos (by exact c4)).trans rfl
        · rename_i c4
          refine (if_neg (by exact c4)).trans ?_
          split at h
          · cases h
          · rename_i c5
            cases h
            exact (if_neg (by exact c5)).trans rfl
theorem names_ok (g : Gd T G k X c) : ∀ {ts : List Expr} {ix : List Nat}, cNames c ts = some ix → PGs X ts (gSet ix) ∧ ts.length = ix.length ∧ ts.all noStar = true
  | [], ix, h => by unfold cNames at h; cases h; exact ⟨gset_nil, rfl, rfl⟩
  | t :: ts, ix, h => by
    cases t with
    | Name x p =>
      unfold cNames at h
      obtain ⟨c1, h⟩ := ite_o h
      obtain ⟨i, e1, h⟩ := bnd h
      obtain ⟨is, e2, rfl⟩ := mpd h
      obtain ⟨q1, q2, q3⟩ := names_ok g e2
      exact ⟨gset_cons (pg_name g.nd (g.at e1) (g.locOk c1).1 (g.locOk c1).2) q1 rfl, by rw [List.length_cons, List.length_cons, q2], by rw [List.all_cons, q3]; rfl⟩
    | _ => unfold cNames at h; cases h
/-- the induction's statement -/
def OkS (T : Tb) (G : Fs) (k n : Nat) : Prop := ∀ (c : Ck) (X : Cx) (lk : List Nat) (s : Stmt), Gd T G k X c → PS X s (tSt X G lk (cS T n c s))
theorem list_ok {n : Nat} (ih : OkS T G k n) (g : Gd T G k X c) (lk : List Nat) : ∀ (ss : List Stmt), PSs X ss (tSs X G lk (ss.map (cS T n c)))
  | [] => xs_nil
  | s :: ss => xs_cons (ih c X lk s g) (list_ok ih g lk ss)
end
end Tr

set_option Elab.async false
set_option linter.all false
set_option maxRecDepth 100000
set_option maxHeartbeats 4000000
namespace Tr
open PySem PySem.Spec PyProof.Rows L2
section
variable {T : Tb} {G : Fs} {k : Nat} {X : Cx} {c : Ck} {lk : List Nat}
theorem asgSub {x : Str} {q p : Pos} {b : Expr} (hb : notSlice b = true) (v : Value) : assign (.Subscript (.Name x q) b p) X.env v = (do
      let ov ← holding [v] (eval (.Name x q) X.env)
      let iv ← holding [v, ov] (eval b X.env)
      standAt p
      holding [v, ov, iv] (setItem ov iv v)
      release [v, ov, iv] []) := by
  cases b <;> first | rfl | cases hb
theorem swS {e t : Expr} {l : Nat} {env : Env} (h : notComp e = true) : swapsWithSole [t] e l env = pure false := swNone h (some t)
theorem stNone {t e : Expr} {env : Env} (h : isTupleE t = false ∨ isTupleE e = false) (hl : ∀ es p, t ≠ .List es p) : swappedStores [t] e env = pure none := by
  unfold swappedStores
  cases t <;> first
    | rfl
    | (exact absurd rfl (hl _ _))
    | (cases e <;> first | rfl | (rcases h with h | h <;> cases h))
theorem two_names {x y : Str} {px py : Pos} {ix : List Nat} (h : cNames c [.Name x px, .Name y py] = some ix) : ∃ i j, ix = [i, j] ∧ posOf x c.N = some i ∧ posOf y c.N = some j := by
  unfold cNames cNames cNames at h
  obtain ⟨_, h1⟩ := ite_o h
  obtain ⟨i, e1, h2⟩ := bnd h1
  obtain ⟨is, h3, e3⟩ := mpd h2
  obtain ⟨_, h4⟩ := ite_o h3
  obtain ⟨j, e2, h5⟩ := bnd h4
  obtain ⟨is', h6, e6⟩ := mpd h5
  cases h6
  subst e6
  exact ⟨i, j, e3.symm, e1, e2⟩
theorem three_names {x y z : Str} {px py pz : Pos} {ix : List Nat} (h : cNames c [.Name x px, .Name y py, .Name z pz] = some ix) : ∃ i j l, ix = [i, j, l] ∧ posOf x c.N = some i ∧ posOf y c.N = some j ∧ posOf z c.N = some l := by
  unfold cNames at h
  obtain ⟨_, h1⟩ := ite_o h
  obtain ⟨i, e1, h2⟩ := bnd h1
  obtain ⟨is, h3, e3⟩ := mpd h2
  obtain ⟨j, l, e4, e5, e6⟩ := two_names h3
  subst e4
  exact ⟨i, j, l, e3.symm, e1, e5, e6⟩
/-- a store in a name, by the plain reading -/
theorem asg_name {te : TE} {i : Nat} {D : Ends} {σ : St} {H : Hp} (h : tAsg te (gT X.K lk (.n i)) D σ H) (hm : ∀ (Q Q' : VK), (∀ v H', Q v H' → Q' v H') → te σ H Q → te σ H Q') : tAsg te (gName i) D σ H := by
  refine hm _ _ (fun v H' q => ?_) h
  obtain ⟨fr, L, x, fr', ok, l, e, q⟩ := q
  obtain ⟨h1, h2, rfl⟩ := putTg_len e
  exact q _ (ok.set h2) ⟨fun j hj => by
    have : i ≠ j := fun z => hj (by subst z; unfold Tg.ixs; exact List.mem_cons_self)
    rw [List.getElem?_set_ne this], fun j hj => by
    have : i ≠ j := fun z => h1 (z ▸ hj)
    rw [List.getElem?_set_ne this]⟩ (set_slots ok h2 l)
theorem okS : ∀ n, OkS T G k n := by
  intro n
  induction n with
  | zero => intro c X lk s g; exact x_stop
  | succ n ih =>
    intro c X lk s g
    have hE : ∀ a i, cE T n c a = some i → PE X a (tE X G i) := fun a i e => (okE n c X a i g e).1
    have hT : ∀ a i, cE T n c a = some i → PT X a (tT X G i) := fun a i e => (okE n c X a i g e).2
    cases s with
    | Pass p => exact x_nop ps_pass
    | Return o p =>
      cases o with
      | none => exact x_retN
      | some e =>
        simp only [cS]
        split
        · rename_i x q
          by_cases h1 : (c.vis x && !badName x) = true
          · rw [if_pos h1]
            rw [Bool.and_eq_true] at h1
            split
            · rename_i i hi
              exact x_retv (g.varE h1.1 (by simpa using h1.2) hi)
            · exact x_stop
          · rw [if_neg h1]
            split
            · rename_i i hi; exact x_ret (hE _ _ hi)
            · exact x_stop
        · split
          · rename_i i hi; exact x_ret (hE _ _ hi)
          · exact x_stop
    | If t a b p =>
      simp only [cS]
      split
      · rename_i i hi
        exact x_iff (hT _ _ hi) (list_ok ih g lk a) (list_ok ih g lk b)
      · exact x_stop
    | While t a o p =>
      cases o with
      | cons _ _ => exact x_stop
      | nil =>
        simp only [cS]
        split
        · rename_i i hi
          exact x_whl g.xe (hT _ _ hi) (list_ok ih g lk a)
        · exact x_stop
    | For tg iter body o p =>
      cases o with
      | cons _ _ => exact x_stop
      | nil =>
        simp only [cS]
        by_cases h1 : notSet iter = true
        · rw [if_pos h1]
          split
          · rename_i it t h2 h3
            exact x_for g.xe g.calm (it_ok g hE h2) (tg_ok lk g h3) (list_ok ih g lk body) (fold_set h1)
          · exact x_stop
        · rw [if_neg h1]; exact x_stop
    | Expr e p =>
      simp only [cS]
      split
      · exact x_nop ps_doc
      · rename_i x q m apos a cpos
        by_cases h1 : (c.vis x && !badName x && noStar a && apos.endLine == cpos.line) = true
        · rw [if_pos h1]
          simp only [Bool.and_eq_true, Bool.not_eq_true'] at h1
          split
          · rename_i i j hi hj
            by_cases m1 : (m == ("append" : Str)) = true
            · rw [if_pos m1]
              have em := eq_of_beq m1
              subst em
              exact x_app (g.varE h1.1.1.1 h1.1.1.2 hi) (hE _ _ hj) baseName (fewOk h1.1.2) h1.2 (star1 h1.1.2) rfl
            · rw [if_neg m1]
              by_cases m2 : (m == ("extend" : Str)) = true
              · rw [if_pos m2]
                have em := eq_of_beq m2
                subst em
                exact x_ext (g.varE h1.1.1.1 h1.1.1.2 hi) (hE _ _ hj) baseName (fewOk h1.1.2) h1.2 (star1 h1.1.2) rfl
              · rw [if_neg m2]
                by_cases m3 : (m == ("update" : Str)) = true
                · rw [if_pos m3]
                  have em := eq_of_beq m3
                  subst em
                  exact x_upd g.units70 (g.varE h1.1.1.1 h1.1.1.2 hi) (hE _ _ hj) baseName (fewOk h1.1.2) h1.2 (star1 h1.1.2) rfl
                · rw [if_neg m3]; exact x_stop
          · exact x_stop
        · rw [if_neg h1]; exact x_stop
      · rename_i x q m apos a b cpos
        by_cases h1 : (m == ("setdefault" : Str) && c.vis x && !badName x && noStar a && noStar b && apos.endLine == cpos.line) = true
        · rw [if_pos h1]
          simp only [Bool.and_eq_true, Bool.not_eq_true'] at h1
          have em := eq_of_beq h1.1.1.1.1.1
          subst em
          split
          · rename_i i j k hi hj hk
            exact x_sdf g.units70 (g.varE h1.1.1.1.1.2 h1.1.1.1.2 hi) (hE _ _ hj) (hE _ _ hk) baseName (few2 h1.1.1.2 h1.1.2) h1.2 (star1 h1.1.1.2) (star1 h1.1.2) (backAll (starAll (by rw [List.all_cons, h1.1.2]; rfl))) rfl
          · exact x_stop
        · rw [if_neg h1]; exact x_stop
      · by_cases h1 : notComp e = true
        · rw [if_pos h1]
          split
          · rename_i i hi; exact x_exp (hE _ _ hi) (swNone h1 none)
          · exact x_stop
        · rw [if_neg h1]; exact x_stop
    | Assign tgs e p =>
      rcases tgs with _ | ⟨tg, _ | ⟨t2, ts2⟩⟩
      · exact x_stop
      · simp only [cS]
        split
        · rename_i x q b pb y qy p2
          by_cases h1 : (ooName x && c.vis x && !badName x && c.vis y && !badName y && notSlice b && notComp e) = true
          · rw [if_pos h1]
            simp only [Bool.and_eq_true, Bool.not_eq_true'] at h1
            split
            · rename_i s' j' k' v hs hj hk hv
              exact x_sidx2 (g.varE h1.1.1.1.1.1.2 h1.1.1.1.1.2 hs) (hE _ _ hk) (g.varE h1.1.1.1.2 h1.1.1.2 hj) (hE _ _ hv) (plainIx h1.1.2) (fun v => rfl) (swS h1.2) (stNone (.inl rfl) (fun _ _ => nofun)) rfl
            · exact x_stop
          · rw [if_neg h1]; exact x_stop
        · rename_i x q b p2
          by_cases h1 : (c.vis x && !badName x && notComp e && notSlice b) = true
          · rw [if_pos h1]
            simp only [Bool.and_eq_true, Bool.not_eq_true'] at h1
            split
            · rename_i s' k' v hs hk hv
              exact x_sidx g.units70 (g.varE h1.1.1.1 h1.1.1.2 hs) (hE _ _ hk) (hE _ _ hv) (asgSub h1.2) (swS h1.1.2) (stNone (.inl rfl) (fun _ _ => nofun)) rfl
            · exact x_stop
          · rw [if_neg h1]; exact x_stop
        · rename_i x q
          by_cases h1 : c.loc x = true
          · rw [if_pos h1]
            split
            · rename_i i kk hi hk
              have pg : PG X (.Name x q) (gT X.K lk (.n i)) := g_n (pg_name g.nd (g.at hi) (g.locOk h1).1 (g.locOk h1).2)
              by_cases h2 : notComp e = true
              · rw [if_pos h2]
                exact x_asg (hE _ _ hk) pg (swS h2) (stNone (.inl rfl) (fun _ _ => nofun)) rfl
              · rw [if_neg h2]
                split
                · rename_i elt gens scope q2
                  by_cases h3 : (c.lcl x && q.line == q2.line && !ownsName scope x) = true
                  · rw [if_pos h3]
                    simp only [Bool.and_eq_true, Bool.not_eq_true'] at h3
                    cases n with
                    | zero => cases hk
                    | succ n =>
                      simp only [cE] at hk
                      split at hk
                      · rename_i tg0 iter0 ifs0
                        have hk' : cComp T n c elt [⟨tg0, iter0, ifs0, 0⟩] scope = some kk := hk
                        obtain ⟨tg, iter, ifs, own, tt, te, gg, ti, e0, C, hp⟩ := comp_ok (okE n) g hk'
                        rw [e0]
                        have sw : swapsWith (.ListComp elt [⟨tg, iter, ifs, 0⟩] scope q2) (some (.Name x q)) p.line X.env = pure true := by
                          exact sw_true g.kf (g.lclOk h3.1.1) h3.1.2 h3.2
                        refine ps_mono (ps_setLc g.calm g.nd (g.at hi) (g.lclOk h3.1.1) sw C.it C.blk C.tg C.tests C.elt C.set) fun D σ H z => ?_
                        have z2 : tAsg (tE X G kk) (gT X.K lk (.n i)) D σ H := asg_core (fun Q z => z) z
                        exact C.core _ _ _ (asg_name z2 fun Q Q' m h => tP_imp h m)
                      · rename_i tg iter ifs tg1 iter1 ifs1
                        have hk' : cComp2 T n c elt tg iter ifs tg1 iter1 ifs1 scope = some kk := hk
                        obtain ⟨own, vs1, tt, tt1, te, gg, gg1, ti, ti1, C, hp⟩ := comp2_ok (okE n) g hk'
                        have sw : swapsWith (.ListComp elt [⟨tg, iter, ifs, 0⟩, ⟨tg1, iter1, ifs1, 0⟩] scope q2) (some (.Name x q)) p.line X.env = pure true := by
                          exact sw_true g.kf (g.lclOk h3.1.1) h3.1.2 h3.2
                        refine ps_mono (ps_setLc2 g.calm g.nd (g.at hi) (g.lclOk h3.1.1) sw C.it C.blk C.hv C.tg C.tests C.it1 C.tg1 C.tests1 C.elt C.set C.set1) fun D σ H z => ?_
                        have z2 : tAsg (tE X G kk) (gT X.K lk (.n i)) D σ H := asg_core (fun Q z => z) z
                        exact C.core _ _ _ (asg_name z2 fun Q Q' m h => tP_imp h m)
                      · cases hk
                  · rw [if_neg h3]; exact x_stop
                · exact x_stop
            · exact x_stop
          · rw [if_neg h1]; exact x_stop
        · rename_i ts kt pt
          by_cases h0 : ts.all noStar = true
          · rw [if_pos h0]
            split
            · rename_i es k2 p2
              by_cases h1 : es.all noStar = true
              · rw [if_pos h1]
                split
                · rename_i ix is e1 e2 e3
                  by_cases h2 : (decide (is.length = ix.length) && decide ix.Nodup && decide (ts.length ≤ 1000)) = true
                  · rw [if_pos h2]
                    simp only [Bool.and_eq_true, decide_eq_true_eq] at h2
                    obtain ⟨q1, q2, q3⟩ := names_ok g e1
                    obtain ⟨l1, l2⟩ := asgLen (env := X.env) h0
                    have pa := (args_ok (okE n) g h1 e2).2
                    have hl := (mapE_at e2).1
                    exact x_par (par_any g.calm pa q1 q2 l1 l2 (by rw [hl]; exact h2.1.1) (by rw [sizeLine_eq, ← q2]; omega) rfl (swRes_ok g e3) rfl)
                  · rw [if_neg h2]; exact x_stop
                · rename_i ix is nm e1 e2 e3
                  split
                  · rename_i x px y py a b
                    by_cases h2 : (decide (nm = [x, y]) && c.lcl x && c.lcl y && decide (is.length = ix.length) && decide ix.Nodup) = true
                    · rw [if_pos h2]
                      simp only [Bool.and_eq_true, decide_eq_true_eq] at h2
                      obtain ⟨⟨⟨⟨h3, h4⟩, h5⟩, h6⟩, h7⟩ := h2
                      subst h3
                      have pa := (args_ok (okE n) g h1 e2).2
                      obtain ⟨i, j, rfl, n1, n2⟩ := two_names e1
                      have hne : i ≠ j := by
                        intro z; subst z; simp at h7
                      exact x_par (par_2 g.calm g.nd (g.at n1) (g.at n2) hne (g.lclOk h4) (g.lclOk h5) pa (swRes_ok g e3) rfl)
                    · rw [if_neg h2]; exact x_stop
                  · rename_i x px y py z pz a b d
                    by_cases h2 : (decide (nm = [x, y, z]) && c.lcl x && c.lcl y && c.lcl z && decide (is.length = ix.length) && decide ix.Nodup) = true
                    · rw [if_pos h2]
                      simp only [Bool.and_eq_true, decide_eq_true_eq] at h2
                      obtain ⟨⟨⟨⟨⟨h3, h4⟩, h5⟩, h5b⟩, h6⟩, h7⟩ := h2
                      subst h3
                      have pa := (args_ok (okE n) g h1 e2).2
                      obtain ⟨i, j, l, rfl, n1, n2, n3⟩ := three_names e1
                      simp only [List.nodup_cons, List.mem_cons, not_or, List.not_mem_nil, not_false_eq_true, List.nodup_nil, and_true] at h7
                      exact x_par (par_3 g.calm g.nd (g.at n1) (g.at n2) (g.at n3) h7.1.1 h7.1.2 h7.2 (g.lclOk h4) (g.lclOk h5) (g.lclOk h5b) pa (swRes_ok g e3) rfl)
                    · rw [if_neg h2]; exact x_stop
                  · exact x_stop
                · rename_i e1 e3
                  split
                  · rename_i t kk q1 q2
                    exact x_asg (hE _ _ q2) (tg_ok lk g q1) (swS rfl) (swRes_ok g e3) rfl
                  · exact x_stop
                · exact x_stop
              · rw [if_neg h1]; exact x_stop
            · rename_i hne
              by_cases h1 : notComp e = true
              · rw [if_pos h1]
                split
                · rename_i t kk e1 e2
                  have ht : isTupleE e = false := by
                    cases e <;> first | rfl | exact absurd rfl (hne _ _ _)
                  exact x_asg (hE _ _ e2) (tg_ok lk g e1) (swS h1) (stNone (.inr ht) (fun _ _ => nofun)) rfl
                · exact x_stop
              · rw [if_neg h1]; exact x_stop
          · rw [if_neg h0]; exact x_stop
        · exact x_stop
      · exact x_stop
    | _ => exact x_stop
end
end Tr

set_option Elab.async false
set_option linter.all false
set_option maxRecDepth 100000
set_option maxHeartbeats 1000000
/-! Defs: the promise by the interpreter, depth by depth. -/
namespace Tr
open PySem PySem.Spec PyProof.Rows L2
/-- the frozen arguments, once more -/
def fzs : List V → List Vl → List (V × Vl)
  | v :: vs, x :: xs => if x.isFz then (v, x) :: fzs vs xs else fzs vs xs
  | _, _ => []
section
variable {K : PySem.W.Frag} {H : Hp} {L : List (V × Vl)}
theorem fzs_live : ∀ {vs : List V} {xs : List Vl} {L : List (V × Vl)}, (∀ p ∈ vs.zip xs, p ∈ L) → Live K H L → Live K H (fzs vs xs ++ L)
  | [], _, _, _, l => by unfold fzs; exact l
  | _ :: _, [], _, _, l => by unfold fzs; exact l
  | v :: vs, x :: xs, L, h, l => by
    have ih := fzs_live (vs := vs) (xs := xs) (L := L) (fun p hp => h p (List.mem_cons_of_mem _ hp)) l
    unfold fzs
    split
    · rename_i hx
      exact ih.again0 (List.mem_append_right _ (h _ List.mem_cons_self)) hx
    · exact ih
theorem own_mem : ∀ {xs : List Vl} {n i : Nat} {x : Vl}, xs[i]? = some x → x.isFz = false → n + i ∈ ownIx n xs
  | [], _, _, _, e, _ => by simp at e
  | y :: xs, n, 0, x, e, h => by
    simp at e
    subst e
    unfold ownIx
    rw [if_neg (by rw [h]; decide)]
    exact List.mem_cons_self
  | y :: xs, n, i + 1, x, e, h => by
    have ih := own_mem (xs := xs) (n := n + 1) (i := i) (x := x) (by simpa using e) h
    have e2 : n + 1 + i = n + (i + 1) := by omega
    rw [e2] at ih
    unfold ownIx
    split
    · exact ih
    · exact List.mem_cons_of_mem _ ih
theorem fin_ok : ∀ {xs : List Vl} {vs : List V} {σ : St} {fr : Fm} {ps : List Vl} {L : List (V × Vl)}, vs.length = xs.length → finals xs fr = some ps → (∀ (i : Nat) (x : Vl) (v : V), xs[i]? = some x → x.isFz = false → vs[i]? = some v → σ[i]? = some (some v)) → Live K H (slots σ fr ++ (fzs vs xs ++ L)) → Live K H (vs.zip ps ++ L)
  | [], vs, σ, fr, ps, L, hl, e, hk, l => by
    unfold finals at e
    cases e
    cases vs with
    | nil => exact l.right
    | cons _ _ => cases hl
  | x :: xs, [], σ, fr, ps, L, hl, e, hk, l => by cases hl
  | x :: xs, v :: vs, σ, [], ps, L, hl, e, hk, l => by unfold finals at e; cases e
  | x :: xs, v :: vs, σ, o :: fr, ps, L, hl, e, hk, l => by
    unfold finals at e
    have hk' : ∀ (τ : St) (s : Option V), σ = s :: τ → ∀ (i : Nat) (x : Vl) (v : V), xs[i]? = some x → x.isFz = false → vs[i]? = some v → τ[i]? = some (some v) := fun τ s es i y w h1 h2 h3 => by
      have := hk (i + 1) y w (by simpa using h1) h2 (by simpa using h3)
      rw [es] at this
      simpa using this
    split at e
    · rename_i hx
      obtain ⟨ps', e1, rfl⟩ := mpd e
      have ef : fzs (v :: vs) (x :: xs) = (v, x) :: fzs vs xs := by
        conv => lhs; unfold fzs
        rw [if_pos hx]
      rw [ef] at l
      rw [List.zip_cons_cons]
      cases σ with
      | nil =>
        have l1 : Live K H ((v, x) :: (fzs vs xs ++ L)) := l.right (L1 := slots [] (o :: fr))
        refine (fin_ok (σ := []) (fr := fr) (L := (v, x) :: L) (by simpa using hl) e1 (fun i y w h1 h2 h3 => ?_) ?_).perm (zip_perm_mid _ _ _).symm
        · have := hk (i + 1) y w (by simpa using h1) h2 (by simpa using h3)
          simp at this
        · have e0 : slots [] fr = [] := by cases fr <;> rfl
          rw [e0]
          exact l1.perm (zip_perm_mid _ _ _)
      | cons s τ =>
        have l1 : Live K H (slots τ fr ++ ((v, x) :: (fzs vs xs ++ L))) := by
          cases s with
          | none => cases o <;> exact l
          | some w => cases o with
            | none => exact l
            | some y =>
              have l0 : Live K H ((w, y) :: (slots τ fr ++ ((v, x) :: (fzs vs xs ++ L)))) := l
              exact l0.tail
        refine (fin_ok (σ := τ) (fr := fr) (L := (v, x) :: L) (by simpa using hl) e1 (hk' τ s rfl) ?_).perm (zip_perm_mid _ _ _).symm
        exact l1.perm (List.Perm.append_left _ (zip_perm_mid _ _ _))
    · rename_i hx
      have hx : x.isFz = false := by simpa using hx
      split at e
      · rename_i y
        obtain ⟨ps', e1, rfl⟩ := mpd e
        have ef : fzs (v :: vs) (x :: xs) = fzs vs xs := by
          conv => lhs; unfold fzs
          rw [if_neg (by rw [hx]; decide)]
        rw [ef] at l
        rw [List.zip_cons_cons]
        have h0 := hk 0 x v rfl hx rfl
        cases σ with
        | nil => simp at h0
        | cons s τ =>
          simp at h0
          subst h0
          have l0 : Live K H ((v, y) :: (slots τ fr ++ (fzs vs xs ++ L))) := l
          refine (fin_ok (σ := τ) (fr := fr) (L := (v, y) :: L) (by simpa using hl) e1 (hk' τ (some v) rfl) ?_).perm (zip_perm_mid _ _ _).symm
          exact l0.perm ((zip_perm_mid _ _ _).trans (List.Perm.append_left _ (zip_perm_mid _ _ _)))
      · cases e
theorem slots_nil {σ : St} : ∀ {n : Nat}, slots σ (List.replicate n none) = [] := by
  induction σ with
  | nil => intro n; cases n <;> rfl
  | cons s σ ih => intro n; cases n with
    | zero => cases s <;> rfl
    | succ n => rw [List.replicate_succ]; cases s <;> exact ih
theorem slots_start : ∀ {vs : List V} {xs : List Vl} {n m : Nat}, vs.length = xs.length → slots (vs.map some ++ List.replicate n none) (xs.map some ++ List.replicate m none) = vs.zip xs
  | [], [], n, m, _ => by
    show slots (List.replicate n none) (List.replicate m none) = []
    exact slots_nil
  | [], _ :: _, _, _, e => by cases e
  | _ :: _, [], _, _, e => by cases e
  | v :: vs, x :: xs, n, m, e => by
    show (v, x) :: slots (vs.map some ++ List.replicate n none) (xs.map some ++ List.replicate m none) = _
    rw [slots_start (by simpa using e)]
    rfl
end
/-- a def of the text by its number -/
structure Df where
  nm : Str
  st : Stmt
  N : List Str
  ps : List Str
def ckOf (d : Df) : Ck := ⟨d.N, defScope d.st, defScope d.st⟩
/-- how deep texts go -/
def deep : Nat := 40
def fnOfD (T : Tb) (d : Df) : Fn := ⟨d.ps.length, d.N.length, (defBody d.st).map (cS T deep (ckOf d))⟩
def prgOf (T : Tb) (ds : List Df) (f : Nat) : Option Fn := (ds[f]?).map (fnOfD T)
/-- what is known of a def -/
structure DfOk (K : PySem.W.Frag) (mg : Str → Option Value) (d : Df) (fa : Addr) (fd : FuncData) : Prop where
  mg : mg d.nm = some (.ref fa)
  fn : L2.Fun K d.nm d.nm d.st fa fd
  bd : Binds K fd d.ps []
  sc : FnScope d.N d.ps (defScope d.st)
/-- how a call of the def by names binds -/
def KwSt (d : Df) (ks : List Str) (perm : List Nat) : Prop := ∀ (kV doc pm : Value) (an : Option Addr) (cdv ct : Value) (ws : List Value), ws.length = ks.length → ∃ us, pickP ws perm = some us ∧ us.length = d.ps.length ∧ bindArgs (PySem.W.fnOf d.nm d.nm (defArgs d.st) (defBody d.st) (defScope d.st) .none kV doc pm an cdv ct) ⟨[], ks.zip ws⟩ = pure (d.ps.zip us)
theorem KwSt.kwB {K : PySem.W.Frag} {d : Df} {ks : List Str} {perm : List Nat} {fa : Addr} {fd : FuncData} (h : KwSt d ks perm) (F : L2.Fun K d.nm d.nm d.st fa fd) : KwB fd d.ps ks perm := by
  obtain ⟨oc, od, kV, doc, pm, an, cdv, ct, osl, rfl, _, _⟩ := F.ex
  intro s ws hl
  obtain ⟨us, h1, h2, h3⟩ := h kV doc pm an cdv ct ws hl
  exact ⟨us, h1, h2, .of_eq h3⟩
structure Env1 (K : PySem.W.Frag) (mg : Str → Option Value) (T : Tb) (ds : List Df) : Prop where
  names : T.fs = ds.map Df.nm
  fns : ∀ (f : Nat) (d : Df), ds[f]? = some d → ∃ fa fd, DfOk K mg d fa fd
  kws : ∀ (x : Str) (ks : List Str) (perm : List Nat), ((x, ks), perm) ∈ T.kw → ∃ f d, posOf x T.fs = some f ∧ ds[f]? = some d ∧ d.nm = x ∧ KwSt d ks perm
  bis : ∀ x ∈ bNames, mg x = none
  cons : ∀ x d, T.cs.lookup x = some d → ∃ u v, mg x = some u ∧ RelV v u ∧ ∀ F H, RelD K F H v d
theorem fn_depth {P : Program} {w : World} {K : PySem.W.Frag} {mg : Str → Option Value} {base : Heap} {T : Tb} {ds : List Df} (E : Env1 K mg T ds) : ∀ (k : Nat) (f : Nat) (d : Df) (fa : Addr) (fd : FuncData), ds[f]? = some d → DfOk K mg d fa fd → FnG P w K mg base k fa fd d.ps (spOf K (callN (prgOf T ds) k f)) := by
  intro k
  induction k with
  | zero =>
    intro f d fa fd hd D
    refine ⟨fun vs H Q h => ?_, fun A outer s H args us vs Q hr hgu e0 hb hv h => ?_⟩
    · obtain ⟨xs, L, a, ps, _, _, e, _⟩ := h; cases e
    · obtain ⟨xs, L, a, ps, _, _, e, _⟩ := h; cases e
  | succ k ih =>
    intro f d fa fd hd D
    have hp : ∀ xs a ps, callN (prgOf T ds) (k + 1) f xs = some (a, ps) → runF (callN (prgOf T ds) k) (fnOfD T d) xs = some (a, ps) := fun xs a ps e => by
      unfold callN at e
      obtain ⟨fn, e1, e2⟩ := bnd e
      unfold prgOf at e1
      rw [hd] at e1
      cases e1
      exact e2
    refine fnG_of D.fn D.sc (fun vs H Q h => ?_) fun cdv A outer s H vs Q hr hgu h => ?_
    · obtain ⟨xs, L, a, ps, hl, _, e, _⟩ := h
      have e := hp _ _ _ e
      unfold runF at e
      obtain ⟨c, _⟩ := ite_o e
      simp only [Bool.and_eq_true, decide_eq_true_eq, beq_iff_eq] at c
      rw [hl, c.1]
      rfl
    · obtain ⟨xs, L, a, ps, hl, lv, e, q⟩ := h
      have e := hp _ _ _ e
      unfold runF at e
      obtain ⟨c, e⟩ := ite_o e
      simp only [Bool.and_eq_true, decide_eq_true_eq, beq_iff_eq] at c
      obtain ⟨⟨r, fr'⟩, e1, e⟩ := bnd e
      obtain ⟨ps', e2, e⟩ := mpd e
      have g : Gd T (callN (prgOf T ds) k) k (bodyX P w K mg base d.N d.nm (defScope d.st) fa cdv A outer s H) (ckOf d) := {
        N := rfl
        nd := D.sc.nd
        sc := rfl
        kd := D.sc.kind
        fn := fun _ _ => rfl
        calm := rfl
        room := hr
        gu := hgu
        xe := rfl
        fns := fun f' x hx => by
          rw [E.names, List.getElem?_map] at hx
          obtain ⟨d', hd', rfl⟩ := Option.map_eq_some_iff.mp hx
          obtain ⟨fa', fd', D'⟩ := E.fns f' d' hd'
          exact ⟨fa', fd', d'.ps, D'.mg, D'.fn.kp, D'.bd, ih f' d' fa' fd' hd' D'⟩
        kws := fun x ks perm hx => by
          obtain ⟨f', d', h1, h2, rfl, h4⟩ := E.kws x ks perm hx
          obtain ⟨fa', fd', D'⟩ := E.fns f' d' h2
          exact ⟨f', h1, fa', fd', d'.ps, D'.mg, D'.fn.kp, h4.kwB D'.fn, ih f' d' fa' fd' h2 D'⟩
        bis := E.bis
        cons := E.cons }
      refine ⟨_, list_ok (okS deep) g (ownIx 0 xs) (defBody d.st), ?_⟩
      have lN : d.ps.length ≤ d.N.length := c.2
      have hlp : xs.length = d.ps.length := c.1
      have lv2 : Live K H (fzs vs xs ++ (vs.zip xs ++ L)) := fzs_live (fun p hp => List.mem_append_left _ hp) lv
      refine ⟨xs.map some ++ List.replicate ((fnOfD T d).ns - (fnOfD T d).np) none, fzs vs xs ++ L, r, fr', ⟨?_, fun i x hx => ?_⟩, ?_, e1, fun σ' H' ok' kp => ?_⟩
      · unfold L2.start fnOfD
        simp only [List.length_append, List.length_map, List.length_replicate]
        omega
      · have hi : i < xs.length := by
          by_cases hi : i < xs.length
          · exact hi
          · rw [List.getElem?_append_right (by simpa using hi), List.getElem?_replicate] at hx
            split at hx <;> cases hx
        refine ⟨vs[i]'(by omega), ?_⟩
        unfold L2.start
        rw [List.getElem?_append_left (by simp; omega), List.getElem?_map, List.getElem?_eq_getElem (by omega)]
        rfl
      · unfold L2.start
        rw [slots_start hl]
        exact lv2.perm (perm_mid _ _ _)
      · have fin : ∀ {v : V} {x : Vl}, Live K H' ((v, x) :: (slots σ' fr' ++ (fzs vs xs ++ L))) → Live K H' ((v, x) :: (vs.zip ps' ++ L)) := fun {v x} l => by
          have l1 : Live K H' (slots σ' fr' ++ (fzs vs xs ++ ((v, x) :: L))) := l.perm ((zip_perm_mid _ _ _).trans (List.Perm.append_left _ (zip_perm_mid _ _ _)))
          refine (fin_ok hl e2 (fun i y w h1 h2 h3 => ?_) l1).perm (zip_perm_mid _ _ _).symm
          have := kp i (by have := own_mem (n := 0) h1 h2; rwa [Nat.zero_add] at this)
          rw [this]
          unfold L2.start
          have hi := (List.getElem?_eq_some_iff.mp h3).1
          rw [List.getElem?_append_left (by simpa using hi), List.getElem?_map, h3]
          rfl
        cases r with
        | nx =>
          cases e
          exact fun l => q .non H' (fin (l.scal rfl))
        | rt x =>
          cases e
          exact fun v l => q v H' (fin l)
/-- the law: where the interpreter, at the script, says True -/
theorem law_true {K : PySem.W.Frag} {g : List Vl → Option (Vl × List Vl)} {H : Hp} {a : Addr} {ns : List Int} {F : Addr → Prop} (hs : StS K (fun _ => False) H a ns) {ps : List Vl} (h : g [.scr ns] = some (.fz (.bool true), ps)) : spOf K g [.ref a] H (fun v _ => v = .bl true) := by
  refine ⟨[.scr ns], [], _, ps, rfl, ⟨[], List.nodup_nil, ?_⟩, h, fun v H' l => bool_of l⟩
  refine .cons (f := []) (.scr ?_) .nil
  rcases hs with ⟨o, h1, h2⟩ | h1
  · exact .inl ⟨o, h1, by simp⟩
  · exact .inr h1
end Tr

set_option Elab.async false
set_option linter.all false
set_option maxRecDepth 100000
set_option maxHeartbeats 4000000
/-! What many of the laws' own defs do, by the interpreter alone. -/
namespace Tr
open PySem
abbrev cI (n : Int) : E := .con (.int n)
abbrev nI (n : Int) : E := (E.con (.int n)).neg
/-! ### one step each, for simp -/
section
variable (G : Fs) (lk : List Nat)
@[simp] theorem ev_con (d : D) (fr : Fm) : ev G (.con d) fr = some (.st (.fz d), fr) := by unfold ev; rfl
@[simp] theorem ev_glb (d : D) (fr : Fm) : ev G (.glb d) fr = some (.st (.fz d), fr) := by unfold ev; rfl
@[simp] theorem ev_var (i : Nat) (fr : Fm) : ev G (.var i) fr = match fr[i]? with
    | some (some _) => some (.sl i, fr)
    | _ => none := by unfold ev; rfl
@[simp] theorem ev_tup (es : List E) (fr : Fm) : ev G (.tup es) fr = (gens G es fr).bind fun r => if okSz r.1.length then some (.st (.fz (.tuple (froz r.1))), r.2) else none := by (conv => lhs; unfold ev) <;> rfl
@[simp] theorem ev_lst (es : List E) (fr : Fm) : ev G (.lst es) fr = (gens G es fr).bind fun r => if okSz r.1.length then some (.st (.ol (froz r.1)), r.2) else none := by (conv => lhs; unfold ev) <;> rfl
@[simp] theorem ev_bin (op : Bop) (a b : E) (fr : Fm) : ev G (.bin op a b) fr = (ev G a fr).bind fun p => (ev G b p.2).bind fun q => (lookM q.2 p.1).bind fun x => (lookM q.2 q.1).bind fun y => (binD op x y).map fun z => (.st z, q.2) := by (conv => lhs; unfold ev) <;> rfl
@[simp] theorem ev_neg (a : E) (fr : Fm) : ev G (.neg a) fr = (ev G a fr).bind fun p => match look p.2 p.1 with
    | some (.int i) => some (.st (.fz (.int (-i))), p.2)
    | _ => none := by (conv => lhs; unfold ev) <;> rfl
@[simp] theorem ev_not (a : E) (fr : Fm) : ev G (.not a) fr = (ev G a fr).bind fun p => (look p.2 p.1).bind fun d => if okTru d then some (.st (.fz (.bool (!truD d))), p.2) else none := by (conv => lhs; unfold ev) <;> rfl
@[simp] theorem ev_cmp (op : Cop) (a b : E) (fr : Fm) : ev G (.cmp op a b) fr = (ev G a fr).bind fun p => (ev G b p.2).bind fun q => (look q.2 p.1).bind fun x => (look q.2 q.1).bind fun y => (cmpD op x y).map fun z => (.st (.fz (.bool z)), q.2) := by (conv => lhs; unfold ev) <;> rfl
@[simp] theorem ev_chn (op1 op2 : Cop) (a b c : E) (fr : Fm) : ev G (.chn op1 op2 a b c) fr = (ev G a fr).bind fun p => (ev G b p.2).bind fun q => (look q.2 p.1).bind fun x => (look q.2 q.1).bind fun y => (cmpD op1 x y).bind fun z =>
      if z then (ev G c q.2).bind fun r => (look r.2 q.1).bind fun y' => (look r.2 r.1).bind fun w => (cmpD op2 y' w).map fun z' => (.st (.fz (.bool z')), r.2)
      else some (.st (.fz (.bool false)), q.2) := by (conv => lhs; unfold ev) <;> rfl
@[simp] theorem ev_isc (a : E) (c : D) (no : Bool) (fr : Fm) : ev G (.isc a c no) fr = (ev G a fr).bind fun p => (look p.2 p.1).bind fun x => match c, x with
    | .none, .none => some (.st (.fz (.bool (!no))), p.2)
    | .none, _ => some (.st (.fz (.bool no)), p.2)
    | .bool b, .bool b' => some (.st (.fz (.bool ((b == b') != no))), p.2)
    | _, _ => none := by (conv => lhs; unfold ev) <;> rfl
@[simp] theorem ev_and (a b : E) (fr : Fm) : ev G (.and a b) fr = (ev G a fr).bind fun p => (force p.1 p.2).bind fun x => match x.1 with
    | .fz (.bool true) => ev G b x.2
    | .fz (.bool false) => some (.st (.fz (.bool false)), x.2)
    | .fz d => if okTru d then (if truD d then ev G b x.2 else some (.st (.fz d), x.2)) else none
    | _ => none := by (conv => lhs; unfold ev) <;> rfl
@[simp] theorem ev_or (a b : E) (fr : Fm) : ev G (.or a b) fr = (ev G a fr).bind fun p => (force p.1 p.2).bind fun x => match x.1 with
    | .fz (.bool true) => some (.st (.fz (.bool true)), x.2)
    | .fz (.bool false) => ev G b x.2
    | .fz d => if okTru d then (if truD d then some (.st (.fz d), x.2) else ev G b x.2) else none
    | _ => none := by (conv => lhs; unfold ev) <;> rfl
@[simp] theorem ev_ite (c a b : E) (fr : Fm) : ev G (.ite c a b) fr = (tru G c fr).bind fun t => if t.1 then ev G a t.2 else ev G b t.2 := by (conv => lhs; unfold ev) <;> rfl
@[simp] theorem ev_idx (a i : E) (fr : Fm) : ev G (.idx a i) fr = (ev G a fr).bind fun p => (ev G i p.2).bind fun q => (look q.2 p.1).bind fun x => (look q.2 q.1).bind fun y => (idxD x y).map fun z => (.st (.fz z), q.2) := by (conv => lhs; unfold ev) <;> rfl
@[simp] theorem ev_slc (a : E) (lo hi : Option E) (back : Bool) (fr : Fm) : ev G (.slc a lo hi back) fr = (ev G a fr).bind fun p => (part G lo p.2).bind fun l => (part G hi l.2).bind fun u => (look u.2 p.1).bind fun x => (slcD back l.1 u.1 x).map fun z => (.st z, u.2) := by (conv => lhs; unfold ev) <;> rfl
@[simp] theorem ev_call (f : Nat) (args : List E) (fr : Fm) : ev G (.call f args) fr = (evs G args fr).bind fun r => (lend r.1 r.2).bind fun q => (G f q.1).map fun a => (.st a.1, give r.1 a.2 q.2) := by (conv => lhs; unfold ev) <;> rfl
@[simp] theorem ev_bi (b : Bi) (os : List E) (fr : Fm) : ev G (.bi b os) fr = (evs G os fr).bind fun r => (looks r.2 r.1).bind fun ds => (biD b ds).map fun z => (.st z, r.2) := by (conv => lhs; unfold ev) <;> rfl
@[simp] theorem ev_dct (kvs : List E) (fr : Fm) : ev G (.dct kvs) fr = (gens G kvs fr).bind fun r => match r.1 with
    | [] => some (.st (.od []), r.2)
    | [k, v] => if kfit [] k.strip then some (.st (.od [(k.strip, v.strip)]), r.2) else none
    | _ => none := by (conv => lhs; unfold ev) <;> rfl
@[simp] theorem ev_mth (m : Mt) (a : E) (os : List E) (fr : Fm) : ev G (.mth m a os) fr = (ev G a fr).bind fun p => (look p.2 p.1).bind fun d0 => if mtOk m d0 then (evs G os p.2).bind fun r => (looks r.2 (p.1 :: r.1)).bind fun ds => (mthD m ds).map fun z => (.st (.fz z), r.2) else none := by (conv => lhs; unfold ev) <;> rfl
@[simp] theorem ev_pop (s : Nat) (fr : Fm) : ev G (.pop s) fr = match fr[s]? with
    | some (some (.ol ds)) => if ds.isEmpty then none else (ds.getLast?).map fun d => (.st (.fz d), fr.set s (some (.ol ds.dropLast)))
    | _ => none := by (conv => lhs; unfold ev) <;> rfl
@[simp] theorem evs_nil (fr : Fm) : evs G [] fr = some ([], fr) := by unfold evs; rfl
@[simp] theorem evs_cons (e : E) (es : List E) (fr : Fm) : evs G (e :: es) fr = (ev G e fr).bind fun p => (evs G es p.2).map fun r => (p.1 :: r.1, r.2) := by (conv => lhs; unfold evs) <;> rfl
@[simp] theorem gens_nil (fr : Fm) : gens G [] fr = some ([], fr) := by unfold gens; rfl
@[simp] theorem gens_cons (e : E) (es : List E) (fr : Fm) : gens G (e :: es) fr = (ev G e fr).bind fun p => (force p.1 p.2).bind fun x => (gens G es x.2).map fun r => (x.1 :: r.1, r.2) := by (conv => lhs; unfold gens) <;> rfl
@[simp] theorem part_none (fr : Fm) : part G none fr = some (none, fr) := by unfold part; rfl
@[simp] theorem part_some (e : E) (fr : Fm) : part G (some e) fr = (ev G e fr).bind fun p => match look p.2 p.1 with
    | some (.int i) => some (some i, p.2)
    | _ => none := by (conv => lhs; unfold part) <;> rfl
@[simp] theorem tru_and (a b : E) (fr : Fm) : tru G (.and a b) fr = (tru G a fr).bind fun t => if t.1 then tru G b t.2 else some (false, t.2) := by (conv => lhs; unfold tru) <;> rfl
@[simp] theorem tru_or (a b : E) (fr : Fm) : tru G (.or a b) fr = (tru G a fr).bind fun t => if t.1 then some (true, t.2) else tru G b t.2 := by (conv => lhs; unfold tru) <;> rfl
@[simp] theorem tru_not (a : E) (fr : Fm) : tru G (.not a) fr = (tru G a fr).map fun t => (!t.1, t.2) := by (conv => lhs; unfold tru) <;> rfl
theorem tru_else {e : E} (h : plainT e = true) (fr : Fm) : tru G e fr = (ev G e fr).bind fun p => (look p.2 p.1).bind fun d => if okTru d then some (truD d, p.2) else none := tru_def h fr
@[simp] theorem tru_cmp (op : Cop) (a b : E) (fr : Fm) : tru G (.cmp op a b) fr = (ev G (.cmp op a b) fr).bind fun p => (look p.2 p.1).bind fun d => if okTru d then some (truD d, p.2) else none := tru_else G rfl fr
@[simp] theorem tru_chn (op1 op2 : Cop) (a b c : E) (fr : Fm) : tru G (.chn op1 op2 a b c) fr = (ev G (.chn op1 op2 a b c) fr).bind fun p => (look p.2 p.1).bind fun d => if okTru d then some (truD d, p.2) else none := tru_else G rfl fr
@[simp] theorem tru_isc' (a : E) (c : D) (no : Bool) (fr : Fm) : tru G (.isc a c no) fr = (ev G (.isc a c no) fr).bind fun p => (look p.2 p.1).bind fun d => if okTru d then some (truD d, p.2) else none := tru_else G rfl fr
@[simp] theorem tru_call (f : Nat) (args : List E) (fr : Fm) : tru G (.call f args) fr = (ev G (.call f args) fr).bind fun p => (look p.2 p.1).bind fun d => if okTru d then some (truD d, p.2) else none := tru_else G rfl fr
@[simp] theorem tru_bi (b : Bi) (os : List E) (fr : Fm) : tru G (.bi b os) fr = (ev G (.bi b os) fr).bind fun p => (look p.2 p.1).bind fun d => if okTru d then some (truD d, p.2) else none := tru_else G rfl fr
@[simp] theorem tru_var (i : Nat) (fr : Fm) : tru G (.var i) fr = (ev G (.var i) fr).bind fun p => (look p.2 p.1).bind fun d => if okTru d then some (truD d, p.2) else none := tru_else G rfl fr
@[simp] theorem tru_con (d : D) (fr : Fm) : tru G (.con d) fr = (ev G (.con d) fr).bind fun p => (look p.2 p.1).bind fun d => if okTru d then some (truD d, p.2) else none := tru_else G rfl fr
@[simp] theorem tru_idx (a i : E) (fr : Fm) : tru G (.idx a i) fr = (ev G (.idx a i) fr).bind fun p => (look p.2 p.1).bind fun d => if okTru d then some (truD d, p.2) else none := tru_else G rfl fr
@[simp] theorem truO_none (fr : Fm) : truO G none fr = some (true, fr) := by unfold truO; rfl
@[simp] theorem truO_some (e : E) (fr : Fm) : truO G (some e) fr = tru G e fr := by unfold truO; rfl
@[simp] theorem its_li (e : E) (fr : Fm) : its G (.li e) fr = (ev G e fr).bind fun p => (force p.1 p.2).bind fun x => match x.1 with
    | .fz (.list ds) => some (ds, x.2)
    | .fz (.tuple ds) => some (ds, x.2)
    | .fz (.dict kvs) => some (kvs.map (·.1), x.2)
    | .ol ds => some (ds, x.2)
    | _ => none := by (conv => lhs; unfold its) <;> rfl
@[simp] theorem its_im (e : E) (fr : Fm) : its G (.im e) fr = (ev G e fr).bind fun p => (force p.1 p.2).bind fun x => match x.1.strip with
    | .dict kvs => some (kvs.map fun p => .tuple [p.1, p.2], x.2)
    | _ => none := by (conv => lhs; unfold its) <;> rfl
@[simp] theorem its_rg1 (a : E) (fr : Fm) : its G (.rg1 a) fr = (ev G a fr).bind fun p => match look p.2 p.1 with
    | some (.int n) => if smallI n then some (rangeD 0 n, p.2) else none
    | _ => none := by (conv => lhs; unfold its) <;> rfl
@[simp] theorem its_rg2 (a b : E) (fr : Fm) : its G (.rg2 a b) fr = (ev G a fr).bind fun p => (ev G b p.2).bind fun q => match look q.2 p.1, look q.2 q.1 with
    | some (.int m), some (.int n) => if smallI m && smallI n then some (rangeD m n, q.2) else none
    | _, _ => none := by (conv => lhs; unfold its) <;> rfl
@[simp] theorem its_en (e : E) (fr : Fm) : its G (.en e) fr = (ev G e fr).bind fun p => (force p.1 p.2).bind fun x => match x.1 with
    | .fz (.list ds) => some (enumD ds, x.2)
    | .fz (.tuple ds) => some (enumD ds, x.2)
    | .ol ds => some (enumD ds, x.2)
    | _ => none := by (conv => lhs; unfold its) <;> rfl
@[simp] theorem its_zp (a b : E) (fr : Fm) : its G (.zp a b) fr = (ev G a fr).bind fun p => (force p.1 p.2).bind fun x => (ev G b x.2).bind fun q => (force q.1 q.2).bind fun y => match x.1.strip, y.1.strip with
    | .list xs, .list ys => some (pairs xs ys, y.2)
    | .tuple xs, .tuple ys => some (pairs xs ys, y.2)
    | .tuple xs, .list ys => some (pairs xs ys, y.2)
    | .list xs, .tuple ys => some (pairs xs ys, y.2)
    | _, _ => none := by (conv => lhs; unfold its) <;> rfl
@[simp] theorem exec_asg (tg : Tg) (e : E) (fr : Fm) : Tr.exec G lk (.asg tg e) fr = (ev G e fr).bind fun p => (force p.1 p.2).bind fun x => (putTg lk tg x.1 x.2).map fun fr1 => (.nx, fr1) := by (conv => lhs; unfold Tr.exec) <;> rfl
@[simp] theorem exec_par (is : List Nat) (es : List E) (fr : Fm) : Tr.exec G lk (.par is es) fr = (gens G es fr).bind fun r => if is.length == r.1.length && is.Nodup then (putTgsV lk is r.1 r.2).map fun fr1 => (.nx, fr1) else none := by (conv => lhs; unfold Tr.exec) <;> rfl
@[simp] theorem exec_sidx (s : Nat) (i v : E) (fr : Fm) : Tr.exec G lk (.sidx s i v) fr = (ev G v fr).bind fun p => (force p.1 p.2).bind fun x => match x.2[s]? with
    | some (some (.ol _)) => (ev G i x.2).bind fun q => match look q.2 q.1, q.2[s]? with
      | some (.int k), some (some (.ol ds)) => (placeD ds.length k).map fun j => (.nx, q.2.set s (some (.ol (ds.set j x.1.strip))))
      | _, _ => none
    | some (some (.od _)) => (ev G i x.2).bind fun q => match look q.2 q.1, q.2[s]? with
      | some k, some (some (.od kvs)) => if kfit kvs k && decide (kvs.length < 16777216) then some (.nx, q.2.set s (some (.od (dput kvs k x.1.strip)))) else none
      | _, _ => none
    | _ => none := by (conv => lhs; unfold Tr.exec) <;> rfl
@[simp] theorem exec_ext (s : Nat) (e : E) (fr : Fm) : Tr.exec G lk (.ext s e) fr = match fr[s]? with
    | some (some (.ol _)) => (ev G e fr).bind fun p => (force p.1 p.2).bind fun x => match x.2[s]?, x.1.strip with
      | some (some (.ol ds)), .list es => if decide (ds.length + es.length ≤ 16777216) then some (.nx, x.2.set s (some (.ol (ds ++ es)))) else none
      | _, _ => none
    | _ => none := by (conv => lhs; unfold Tr.exec) <;> rfl
@[simp] theorem exec_upd (s : Nat) (e : E) (fr : Fm) : Tr.exec G lk (.upd s e) fr = match fr[s]? with
    | some (some (.od _)) => (ev G e fr).bind fun p => (force p.1 p.2).bind fun x => match x.2[s]?, x.1.strip with
      | some (some (.od kvs)), .dict more => if kvs.all (fun p => tkey p.1) && more.all (fun p => tkey p.1) && !kvs.isEmpty && decide (kvs.length + more.length ≤ 16777216) then some (.nx, x.2.set s (some (.od (dmerge kvs more)))) else none
      | _, _ => none
    | _ => none := by (conv => lhs; unfold Tr.exec) <;> rfl
@[simp] theorem exec_sdf (s : Nat) (i v : E) (fr : Fm) : Tr.exec G lk (.sdf s i v) fr = match fr[s]? with
    | some (some (.od _)) => (gens G [i, v] fr).bind fun r => match r.1, r.2[s]? with
      | [k, x], some (some (.od kvs)) => if tkey k.strip && kvs.all (fun p => tkey p.1) && decide (kvs.length < 16777216) then some (.nx, if (dget kvs k.strip).isSome then r.2 else r.2.set s (some (.od (dput kvs k.strip x.strip)))) else none
      | _, _ => none
    | _ => none := by (conv => lhs; unfold Tr.exec) <;> rfl
theorem exec_whl (c : E) (body : List S) (fr : Fm) : Tr.exec G lk (.whl c body) fr = whileN (fun fr => tru G c fr) (fun fr => Tr.execs G lk body fr) fuel fr := by (conv => lhs; unfold Tr.exec) <;> rfl
@[simp] theorem exec_exp (e : E) (fr : Fm) : Tr.exec G lk (.exp e) fr = (ev G e fr).map fun p => (.nx, p.2) := by (conv => lhs; unfold Tr.exec) <;> rfl
@[simp] theorem exec_app (s : Nat) (e : E) (fr : Fm) : Tr.exec G lk (.app s e) fr = match fr[s]? with
    | some (some (.ol _)) => (ev G e fr).bind fun p => (force p.1 p.2).bind fun x => match x.2[s]? with
      | some (some (.ol ds)) => if decide (ds.length < 16777216) then some (.nx, x.2.set s (some (.ol (ds ++ [x.1.strip])))) else none
      | _ => none
    | _ => none := by (conv => lhs; unfold Tr.exec) <;> rfl
@[simp] theorem exec_ret (e : E) (fr : Fm) : Tr.exec G lk (.ret e) fr = (ev G e fr).bind fun p => (force p.1 p.2).map fun x => (.rt x.1, x.2) := by (conv => lhs; unfold Tr.exec) <;> rfl
@[simp] theorem exec_retv (s : Nat) (fr : Fm) : Tr.exec G lk (.retv s) fr = match fr[s]? with
    | some (some x) => if lk.contains s then none else some (.rt x, fr.set s none)
    | _ => none := by (conv => lhs; unfold Tr.exec) <;> rfl
@[simp] theorem exec_retN (fr : Fm) : Tr.exec G lk .retN fr = some (.rt (.fz .none), fr) := by unfold Tr.exec; rfl
@[simp] theorem exec_iff (c : E) (a b : List S) (fr : Fm) : Tr.exec G lk (.iff c a b) fr = (tru G c fr).bind fun t => if t.1 then Tr.execs G lk a t.2 else Tr.execs G lk b t.2 := by (conv => lhs; unfold Tr.exec) <;> rfl
@[simp] theorem exec_for (tg : Tg) (it : It) (body : List S) (fr : Fm) : Tr.exec G lk (.for tg it body) fr = (its G it fr).bind fun q => forN (turnF G lk tg body) q.1 q.2 := by
  (conv => lhs; unfold Tr.exec) <;> rfl
@[simp] theorem exec_nop (fr : Fm) : Tr.exec G lk .nop fr = some (.nx, fr) := by unfold Tr.exec; rfl
@[simp] theorem execs_nil (fr : Fm) : Tr.execs G lk [] fr = some (.nx, fr) := by unfold Tr.execs; rfl
@[simp] theorem execs_cons (s : S) (ss : List S) (fr : Fm) : Tr.execs G lk (s :: ss) fr = (Tr.exec G lk s fr).bind fun r => match r.1 with
    | .nx => Tr.execs G lk ss r.2
    | .rt x => some (.rt x, r.2) := by (conv => lhs; unfold Tr.execs) <;> rfl
@[simp] theorem putTg_n (i : Nat) (x : Vl) (fr : Fm) : putTg lk (.n i) x fr = if lk.contains i || decide (fr.length ≤ i) then none else some (fr.set i (some x)) := by unfold putTg; rfl
@[simp] theorem putTg_t (ts : List Tg) (ds : List D) (fr : Fm) : putTg lk (.t ts) (.fz (.tuple ds)) fr = putTgs lk ts ds fr := by (conv => lhs; unfold putTg) <;> rfl
@[simp] theorem putTgs_nil (fr : Fm) : putTgs lk [] [] fr = some fr := by unfold putTgs; rfl
@[simp] theorem putTgs_cons (t : Tg) (ts : List Tg) (d : D) (ds : List D) (fr : Fm) : putTgs lk (t :: ts) (d :: ds) fr = (putTg lk t (.fz d) fr).bind fun fr1 => putTgs lk ts ds fr1 := by (conv => lhs; unfold putTgs) <;> rfl
@[simp] theorem putV_nil (fr : Fm) : putTgsV lk [] [] fr = some fr := by unfold putTgsV; rfl
@[simp] theorem putV_cons (t : Nat) (ts : List Nat) (d : Vl) (ds : List Vl) (fr : Fm) : putTgsV lk (t :: ts) (d :: ds) fr = (putTg lk (.n t) d fr).bind fun fr1 => putTgsV lk ts ds fr1 := by (conv => lhs; unfold putTgsV) <;> rfl
end
@[simp] theorem look_st (fr : Fm) (x : Vl) : look fr (.st x) = x.flat := rfl
@[simp] theorem look_sl (fr : Fm) (i : Nat) : look fr (.sl i) = match fr[i]? with
    | some (some x) => x.flat
    | _ => none := rfl
@[simp] theorem lookM_st (fr : Fm) (x : Vl) : lookM fr (.st x) = x.flatM := rfl
@[simp] theorem lookM_sl (fr : Fm) (i : Nat) : lookM fr (.sl i) = match fr[i]? with
    | some (some x) => x.flatM
    | _ => none := rfl
@[simp] theorem looks_nil (fr : Fm) : looks fr [] = some [] := rfl
@[simp] theorem looks_cons (fr : Fm) (p : Pd) (ps : List Pd) : looks fr (p :: ps) = (look fr p).bind fun d => (looks fr ps).map (d :: ·) := rfl
@[simp] theorem force_st (x : Vl) (fr : Fm) : force (.st x) fr = if x.own then some (x, fr) else none := rfl
@[simp] theorem force_sl (i : Nat) (fr : Fm) : force (.sl i) fr = match fr[i]? with
    | some (some (.fz d)) => some (.fz d, fr)
    | some (some (.ol ds)) => some (.fz (.list ds), fr.set i (some (.fz (.list ds))))
    | some (some (.od kvs)) => some (.fz (.dict kvs), fr.set i (some (.fz (.dict kvs))))
    | some (some (.oo xss)) => some (.fz (.list (xss.map .list)), fr.set i (some (.fz (.list (xss.map .list)))))
    | _ => none := rfl
@[simp] theorem lend_nil (fr : Fm) : lend [] fr = some ([], fr) := rfl
@[simp] theorem lend_st (x : Vl) (ps : List Pd) (fr : Fm) : lend (.st x :: ps) fr = (lend ps fr).map fun r => (x :: r.1, r.2) := rfl
@[simp] theorem lend_sl (i : Nat) (ps : List Pd) (fr : Fm) : lend (.sl i :: ps) fr = match fr[i]? with
    | some (some (.fz d)) => (lend ps fr).map fun r => (.fz d :: r.1, r.2)
    | some (some (.scr ns)) => (lend ps fr).map fun r => (.scr ns :: r.1, r.2)
    | some (some x) => (lend ps (fr.set i none)).map fun r => (x :: r.1, r.2)
    | _ => none := rfl
@[simp] theorem give_nil (xs : List Vl) (fr : Fm) : give [] xs fr = fr := by cases xs <;> rfl
@[simp] theorem give_st (y : Vl) (ps : List Pd) (x : Vl) (xs : List Vl) (fr : Fm) : give (.st y :: ps) (x :: xs) fr = give ps xs fr := rfl
@[simp] theorem give_sl (i : Nat) (ps : List Pd) (x : Vl) (xs : List Vl) (fr : Fm) : give (.sl i :: ps) (x :: xs) fr = give ps xs (match fr[i]? with
    | some none => fr.set i (some x)
    | _ => fr) := rfl
@[simp] theorem flat_fz (d : D) : (Vl.fz d).flat = some d := rfl
@[simp] theorem flat_ol (ds : List D) : (Vl.ol ds).flat = some (.list ds) := rfl
@[simp] theorem flat_scr (ns : List Int) : (Vl.scr ns).flat = some (.list (ns.map .int)) := rfl
@[simp] theorem flatM_fz (d : D) : (Vl.fz d).flatM = some d := rfl
@[simp] theorem flatM_ol (ds : List D) : (Vl.ol ds).flatM = some (.list ds) := rfl
@[simp] theorem own_fz (d : D) : (Vl.fz d).own = true := rfl
@[simp] theorem own_ol (ds : List D) : (Vl.ol ds).own = true := rfl
@[simp] theorem strip_fz (d : D) : (Vl.fz d).strip = d := rfl
@[simp] theorem strip_ol (ds : List D) : (Vl.ol ds).strip = .list ds := rfl
@[simp] theorem isFz_fz (d : D) : (Vl.fz d).isFz = true := rfl
@[simp] theorem isFz_ol (ds : List D) : (Vl.ol ds).isFz = false := rfl
@[simp] theorem isFz_scr (ns : List Int) : (Vl.scr ns).isFz = true := rfl
@[simp] theorem froz_nil : froz [] = [] := rfl
@[simp] theorem froz_cons (x : Vl) (xs : List Vl) : froz (x :: xs) = x.strip :: froz xs := rfl
@[simp] theorem ownIx_nil (i : Nat) : ownIx i [] = [] := rfl
@[simp] theorem ownIx_cons (i : Nat) (x : Vl) (xs : List Vl) : ownIx i (x :: xs) = if x.isFz then ownIx (i + 1) xs else i :: ownIx (i + 1) xs := rfl
@[simp] theorem finals_nil (fr : Fm) : finals [] fr = some [] := by cases fr <;> rfl
@[simp] theorem finals_cons (x : Vl) (xs : List Vl) (o : Option Vl) (fr : Fm) : finals (x :: xs) (o :: fr) = if x.isFz then (finals xs fr).map (x :: ·) else match o with
    | some y => (finals xs fr).map (y :: ·)
    | none => none := rfl
@[simp] theorem okTru_int (i : Int) : okTru (.int i) = true := rfl
@[simp] theorem okTru_bool (b : Bool) : okTru (.bool b) = true := rfl
@[simp] theorem okTru_list (b : List D) : okTru (.list b) = true := rfl
@[simp] theorem okTru_tup (b : List D) : okTru (.tuple b) = true := rfl
@[simp] theorem truD_bool (b : Bool) : truD (.bool b) = b := rfl
@[simp] theorem truD_int (b : Int) : truD (.int b) = (b != 0) := rfl
@[simp] theorem cmpD_lt (a b : Int) : cmpD .lt (.int a) (.int b) = some (decide (a < b)) := rfl
@[simp] theorem cmpD_le (a b : Int) : cmpD .le (.int a) (.int b) = some (decide (a ≤ b)) := rfl
@[simp] theorem cmpD_gt (a b : Int) : cmpD .gt (.int a) (.int b) = some (decide (b < a)) := rfl
@[simp] theorem cmpD_ge (a b : Int) : cmpD .ge (.int a) (.int b) = some (decide (b ≤ a)) := rfl
@[simp] theorem binD_add (a b : Int) : binD .add (.int a) (.int b) = some (.fz (.int (a + b))) := rfl
@[simp] theorem binD_sub (a b : Int) : binD .sub (.int a) (.int b) = some (.fz (.int (a - b))) := rfl
@[simp] theorem binD_addT (a b : List D) : binD .add (.tuple a) (.tuple b) = if okSz (a.length + b.length) then some (.fz (.tuple (a ++ b))) else none := rfl
@[simp] theorem binD_addL (a b : List D) : binD .add (.list a) (.list b) = if okSz (a.length + b.length) then some (.ol (a ++ b)) else none := rfl
@[simp] theorem slcD_T (lo hi : Option Int) (xs : List D) : slcD false lo hi (.tuple xs) = some (.fz (.tuple (cutL xs lo hi))) := rfl
@[simp] theorem slcD_L (lo hi : Option Int) (xs : List D) : slcD false lo hi (.list xs) = some (.ol (cutL xs lo hi)) := rfl
theorem okSz_ok {n : Nat} (h : n ≤ 16777216) : okSz n = true := decide_eq_true h
@[simp] theorem biD_lenT (xs : List D) : biD .len [.tuple xs] = some (.fz (.int xs.length)) := rfl
@[simp] theorem biD_lenL (xs : List D) : biD .len [.list xs] = some (.fz (.int xs.length)) := rfl
@[simp] theorem biD_abs (i : Int) : biD .abs [.int i] = some (.fz (.int (if i < 0 then -i else i))) := rfl
@[simp] theorem biD_max2 (i j : Int) : biD .max [.int i, .int j] = some (.fz (.int (if j > i then j else i))) := rfl
@[simp] theorem biD_min2 (i j : Int) : biD .min [.int i, .int j] = some (.fz (.int (if j < i then j else i))) := rfl
@[simp] theorem biD_int (i : Int) : biD .int [.int i] = some (.fz (.int i)) := rfl
@[simp] theorem biD_intB (b : Bool) : biD .int [.bool b] = some (.fz (.int (if b then 1 else 0))) := rfl
@[simp] theorem biD_list (xs : List D) : biD .list [.tuple xs] = some (.ol xs) := rfl
@[simp] theorem biD_listL (xs : List D) : biD .list [.list xs] = some (.ol xs) := rfl
@[simp] theorem biD_tup (xs : List D) : biD .tuple [.tuple xs] = some (.fz (.tuple xs)) := rfl
@[simp] theorem biD_tupL (xs : List D) : biD .tuple [.list xs] = some (.fz (.tuple xs)) := rfl
@[simp] theorem biD_isinst (t : Ty) (d : D) : biD (.isinst t) [d] = some (.fz (.bool (isTy t d))) := rfl
@[simp] theorem biD_all (xs : List D) : biD .all [.list xs] = (boolsD xs).map fun bs => .fz (.bool (bs.all id)) := rfl
/-! ### comprehensions and loops -/
theorem mix_of_wipe {ws : List Nat} : ∀ {k : Nat} {a b : Fm}, wipeP ws k a = wipeP ws k b → mixP ws k b a = b
  | k, [], [], _ => rfl
  | k, [], _ :: _, h => by unfold wipeP at h; cases h
  | k, _ :: _, [], h => by unfold wipeP at h; cases h
  | k, x :: a, y :: b, h => by
    unfold wipeP at h
    have h1 := (List.cons.inj h).1
    have h2 := mix_of_wipe (List.cons.inj h).2
    unfold mixP
    rw [h2]
    split
    · rfl
    · rename_i hc
      rw [if_neg hc, if_neg hc] at h1
      rw [h1]
theorem unwipe_of {ws : List Nat} {a b : Fm} (h : wipeF a ws = wipeF b ws) : unwipe b a ws = b := mix_of_wipe h
def turn0 (G : Fs) (elt : E) (tg : Tg) (cond : Option E) (d : D) (g0 : Fm) : R (Option Vl) :=
  (putTg [] tg (.fz d) g0).bind fun fr2 => (truO G cond fr2).bind fun t => if t.1 then (ev G elt t.2).bind fun p => (force p.1 p.2).map fun x => (some x.1, x.2) else some (none, t.2)
theorem compN_of {G : Fs} {elt : E} {tg : Tg} {cond : Option E} {ws : List Nat} {g0 : Fm} {f : D → Option Vl} : ∀ {ds : List D}, (∀ d ∈ ds, ∃ g, turn0 G elt tg cond d g0 = some (f d, g) ∧ wipeF g ws = g0) → ∀ fr, wipeF fr ws = g0 → ∃ fr', compN (turnC G elt tg cond ws) ds fr = some (ds.filterMap f, fr') ∧ wipeF fr' ws = g0
  | [], _, fr, hf => ⟨fr, rfl, hf⟩
  | d :: ds, h, fr, hf => by
    obtain ⟨g, e1, e2⟩ := h d List.mem_cons_self
    obtain ⟨fr', e3, e4⟩ := compN_of (fun d hd => h d (List.mem_cons_of_mem _ hd)) g e2
    refine ⟨fr', ?_, e4⟩
    unfold compN
    have : turnC G elt tg cond ws d fr = some (f d, g) := by
      rw [← e1]
      unfold turnC turn0
      rw [hf]
    rw [this]
    show (compN (turnC G elt tg cond ws) ds g).map _ = _
    rw [e3]
    cases hd : f d with
    | none => simp [hd]
    | some x => simp [hd]
theorem turnC_eq {G : Fs} {elt : E} {tg : Tg} {cond : Option E} {ws : List Nat} {g0 fr : Fm} {d : D} (h : wipeF fr ws = g0) : turnC G elt tg cond ws d fr = turn0 G elt tg cond d g0 := by
  unfold turnC turn0
  rw [h]
theorem compN_map {α : Type} {G : Fs} {elt : E} {tg : Tg} {cond : Option E} {ws : List Nat} {g0 : Fm} {enc f : α → D} : ∀ {l : List α}, (∀ x ∈ l, ∃ g, turn0 G elt tg cond (enc x) g0 = some (some (.fz (f x)), g) ∧ wipeF g ws = g0) → ∀ fr, wipeF fr ws = g0 → ∃ fr', compN (turnC G elt tg cond ws) (l.map enc) fr = some (l.map fun x => Vl.fz (f x), fr') ∧ wipeF fr' ws = g0
  | [], _, fr, hf => ⟨fr, rfl, hf⟩
  | d :: ds, h, fr, hf => by
    obtain ⟨g, e1, e2⟩ := h d List.mem_cons_self
    obtain ⟨fr', e3, e4⟩ := compN_map (fun d hd => h d (List.mem_cons_of_mem _ hd)) g e2
    refine ⟨fr', ?_, e4⟩
    rw [List.map_cons]
    unfold compN
    rw [turnC_eq hf, e1]
    show (compN (turnC G elt tg cond ws) (ds.map enc) g).map _ = _
    rw [e3]
    rfl
theorem compN_filter {α : Type} {G : Fs} {elt : E} {tg : Tg} {cond : Option E} {ws : List Nat} {g0 : Fm} {enc f : α → D} {p : α → Bool} : ∀ {l : List α}, (∀ x ∈ l, ∃ g, turn0 G elt tg cond (enc x) g0 = some (if p x then some (.fz (f x)) else none, g) ∧ wipeF g ws = g0) → ∀ fr, wipeF fr ws = g0 → ∃ fr', compN (turnC G elt tg cond ws) (l.map enc) fr = some ((l.filter p).map fun x => Vl.fz (f x), fr') ∧ wipeF fr' ws = g0
  | [], _, fr, hf => ⟨fr, rfl, hf⟩
  | d :: ds, h, fr, hf => by
    obtain ⟨g, e1, e2⟩ := h d List.mem_cons_self
    obtain ⟨fr', e3, e4⟩ := compN_filter (fun d hd => h d (List.mem_cons_of_mem _ hd)) g e2
    refine ⟨fr', ?_, e4⟩
    rw [List.map_cons]
    unfold compN
    rw [turnC_eq hf, e1]
    show (compN (turnC G elt tg cond ws) (ds.map enc) g).map _ = _
    rw [e3]
    cases hp : p d with
    | true => simp [hp]
    | false => simp [hp]
@[simp] theorem bools_map {α : Type} (p : α → Bool) : ∀ (l : List α), boolsD (l.map fun x => .bool (p x)) = some (l.map p)
  | [] => rfl
  | x :: l => by
    rw [List.map_cons, List.map_cons]
    show (boolsD (l.map fun x => .bool (p x))).map _ = _
    rw [bools_map p l]
    rfl
/-- a comprehension whose turns change nothing else -/
theorem ev_comp_of {G : Fs} {elt : E} {tg : Tg} {it : It} {cond : Option E} {ws : List Nat} {fr fr1 : Fm} {ds : List D} (f : D → Option D) (hi : its G it fr = some (ds, fr1))
    (ht : ∀ d ∈ ds, ∃ g, turn0 G elt tg cond d (wipeF fr1 ws) = some ((f d).map Vl.fz, g) ∧ wipeF g ws = wipeF fr1 ws) (hsz : ds.length ≤ 16777216) : ev G (.comp elt tg it cond ws false) fr = some (.st (.ol (ds.filterMap f)), fr1) := by
  obtain ⟨fr', e1, e2⟩ := compN_of (f := fun d => (f d).map Vl.fz) ht fr1 rfl
  unfold ev
  rw [hi]
  show (compN (turnC G elt tg cond ws) ds fr1).bind _ = _
  rw [e1]
  have e3 : froz (ds.filterMap fun d => (f d).map Vl.fz) = ds.filterMap f := by
    clear e1 e2 ht hi hsz
    induction ds with
    | nil => rfl
    | cons d ds ih =>
      cases hd : f d with
      | none => simp [hd]; exact ih
      | some x =>
        simp only [List.filterMap_cons, hd, Option.map_some]
        unfold froz at ih ⊢
        rw [List.map_cons, ih]
        rfl
  have hs : okSz (ds.filterMap fun d => (f d).map Vl.fz).length = true := by
    unfold okSz
    refine decide_eq_true (Nat.le_trans (List.length_filterMap_le _ _) hsz)
  show (if okSz (ds.filterMap fun d => (f d).map Vl.fz).length then _ else _) = _
  rw [if_pos hs, if_neg (by decide), e3, unwipe_of e2]
/-- the same over encoded items, all kept -/
theorem ev_comp_map {α : Type} {G : Fs} {elt : E} {tg : Tg} {it : It} {cond : Option E} {ws : List Nat} {fr fr1 : Fm} (l : List α) (enc f : α → D) (hi : its G it fr = some (l.map enc, fr1))
    (ht : ∀ x ∈ l, ∃ g, turn0 G elt tg cond (enc x) (wipeF fr1 ws) = some (some (.fz (f x)), g) ∧ wipeF g ws = wipeF fr1 ws) (hsz : l.length ≤ 16777216) : ev G (.comp elt tg it cond ws false) fr = some (.st (.ol (l.map f)), fr1) := by
  obtain ⟨fr', e1, e2⟩ := compN_map (ws := ws) (g0 := wipeF fr1 ws) (f := f) ht fr1 rfl
  unfold ev
  rw [hi]
  show (compN (turnC G elt tg cond ws) (l.map enc) fr1).bind _ = _
  rw [e1]
  have hs : okSz (l.map fun x => Vl.fz (f x)).length = true := by
    unfold okSz
    exact decide_eq_true (by rw [List.length_map]; exact hsz)
  show (if okSz (l.map fun x => Vl.fz (f x)).length then _ else _) = _
  rw [if_pos hs, if_neg (by decide), unwipe_of e2]
  have : froz (l.map fun x => Vl.fz (f x)) = l.map f := by
    unfold froz
    rw [List.map_map]
    rfl
  rw [this]
/-- .. those that pass -/
theorem ev_comp_filter {α : Type} {G : Fs} {elt : E} {tg : Tg} {it : It} {cond : Option E} {ws : List Nat} {fr fr1 : Fm} (l : List α) (enc f : α → D) (p : α → Bool) (hi : its G it fr = some (l.map enc, fr1))
    (ht : ∀ x ∈ l, ∃ g, turn0 G elt tg cond (enc x) (wipeF fr1 ws) = some (if p x then some (.fz (f x)) else none, g) ∧ wipeF g ws = wipeF fr1 ws) (hsz : l.length ≤ 16777216) : ev G (.comp elt tg it cond ws false) fr = some (.st (.ol ((l.filter p).map f)), fr1) := by
  obtain ⟨fr', e1, e2⟩ := compN_filter (ws := ws) (g0 := wipeF fr1 ws) (f := f) (p := p) ht fr1 rfl
  unfold ev
  rw [hi]
  show (compN (turnC G elt tg cond ws) (l.map enc) fr1).bind _ = _
  rw [e1]
  have hs : okSz ((l.filter p).map fun x => Vl.fz (f x)).length = true := by
    unfold okSz
    exact decide_eq_true (by rw [List.length_map]; exact Nat.le_trans (List.length_filter_le _ _) hsz)
  show (if okSz ((l.filter p).map fun x => Vl.fz (f x)).length then _ else _) = _
  rw [if_pos hs, if_neg (by decide), unwipe_of e2]
  have : froz ((l.filter p).map fun x => Vl.fz (f x)) = (l.filter p).map f := by
    unfold froz
    rw [List.map_map]
    rfl
  rw [this]
theorem forN_nx {turn : D → Fm → R Sg} (I : List D → Fm → Prop) : ∀ {ds done : List D} {fr : Fm}, I done fr → (∀ d done g, I done g → d ∈ ds → ∃ g', turn d g = some (.nx, g') ∧ I (done ++ [d]) g') → ∃ g', forN turn ds fr = some (.nx, g') ∧ I (done ++ ds) g'
  | [], done, fr, h0, _ => ⟨fr, rfl, by rw [List.append_nil]; exact h0⟩
  | d :: ds, done, fr, h0, hs => by
    obtain ⟨g, e1, i1⟩ := hs d done fr h0 List.mem_cons_self
    obtain ⟨g', e2, i2⟩ := forN_nx I i1 (fun d' done' g' hi hm => hs d' done' g' hi (List.mem_cons_of_mem _ hm))
    refine ⟨g', ?_, by rw [List.append_assoc] at i2; exact i2⟩
    unfold forN
    rw [e1]
    exact e2
/-- the same where the invariant does not ask what was done -/
theorem forN_inv {turn : D → Fm → R Sg} (I : Fm → Prop) {ds : List D} {fr : Fm} (h0 : I fr) (hs : ∀ d g, I g → d ∈ ds → ∃ g', turn d g = some (.nx, g') ∧ I g') : ∃ g', forN turn ds fr = some (.nx, g') ∧ I g' :=
  let ⟨g', e, i⟩ := forN_nx (fun _ g => I g) (done := []) h0 fun d _ g hi hm => hs d g hi hm
  ⟨g', e, i⟩

/-! ### data -/
/-- a tuple of numbers -/
def tI' (ns : List Int) : D := .tuple (ns.map .int)
def lI (ns : List Int) : D := .list (ns.map .int)
/-- a stand -/
def sD (p : Int) (hs : List Int) : D := .tuple [.int p, tI' hs]
def at' (hs : List Int) (q : Int) : Int := hs.getD q.toNat 0
theorem place_ok {n : Nat} {q : Int} (h0 : 0 ≤ q) (h1 : q < n) : placeD n q = some q.toNat := by
  unfold placeD L2.ixN
  simp [h0, h1]
theorem idx_tup {hs : List Int} {q : Int} (h0 : 0 ≤ q) (h1 : q < hs.length) : idxD (.tuple (hs.map .int)) (.int q) = some (.int (at' hs q)) := by
  simp only [idxD, List.length_map]
  rw [place_ok h0 h1]
  simp only [Option.bind_some, List.getElem?_map, at', List.getD_eq_getElem?_getD]
  have : q.toNat < hs.length := by omega
  rw [List.getElem?_eq_getElem this]
  rfl
theorem idx_lst {hs : List Int} {q : Int} (h0 : 0 ≤ q) (h1 : q < hs.length) : idxD (.list (hs.map .int)) (.int q) = some (.int (at' hs q)) := by
  simp only [idxD, List.length_map]
  rw [place_ok h0 h1]
  simp only [Option.bind_some, List.getElem?_map, at', List.getD_eq_getElem?_getD]
  have : q.toNat < hs.length := by omega
  rw [List.getElem?_eq_getElem this]
  rfl
end Tr
namespace Tr
open PySem
/-! ### the program's first defs -/
theorem callN_of {P : Nat → Option Fn} {f : Nat} {fn : Fn} {k : Nat} {xs : List Vl} (h : P f = some fn) : callN P (k + 1) f xs = runF (callN P k) fn xs := by
  show (P f).bind (fun fn => runF (callN P k) fn xs) = _
  rw [h]
  rfl
def isWholeFn : Fn := ⟨1, 1, [S.ret ((E.bi (Bi.isinst Ty.int) [E.var 0]).and (E.bi (Bi.isinst Ty.bool) [E.var 0]).not)]⟩
def isWithinFn (iw : Nat) : Fn := ⟨3, 3, [S.ret ((E.call iw [E.var 0]).and (E.chn Cop.le Cop.le (E.var 1) (E.var 0) (E.var 2)))]⟩
def isLongFn : Fn := ⟨3, 3, [S.ret ((E.bi (Bi.isinst Ty.tuple) [E.var 0]).and (E.chn Cop.le Cop.le (E.var 1) (E.bi Bi.len [E.var 0]) (E.var 2)))]⟩
def areCountsFn (il iw : Nat) : Fn := ⟨1, 2, [S.ret ((E.call il [E.var 0, E.glb (.int 2), E.glb (.int 5)]).and (E.bi Bi.all [((E.call iw [E.var 1]).and (E.cmp Cop.ge (E.var 1) (cI 0))).comp (Tg.n 1) (It.li (E.var 0)) none [1] false]))]⟩
def isStandFn (il ic ii : Nat) : Fn := ⟨1, 1, [S.ret ((E.call il [E.var 0, cI 2, cI 2]).and ((E.call ic [(E.var 0).idx (cI 1)]).and (E.call ii [(E.var 0).idx (cI 0), cI 0, E.bin Bop.sub (E.bi Bi.len [(E.var 0).idx (cI 1)]) (cI 1)])))]⟩
def needStandFn (is : Nat) : Fn := ⟨1, 1, [S.iff (E.call is [E.var 0]).not [S.stop] []]⟩
def isWhole : D → Bool
  | .int _ => true
  | _ => false
def PWhole (G : Fs) (f : Nat) : Prop := ∀ d, G f [.fz d] = some (.fz (.bool (isWhole d)), [.fz d])
theorem whole_run (G : Fs) (d : D) : runF G isWholeFn [.fz d] = some (.fz (.bool (isWhole d)), [.fz d]) := by
  cases d <;> simp [runF, isWholeFn, ownIx, Vl.isFz, execs, exec, ev, evs, looks, look, Vl.flat, biD, isTy, force, Vl.own, okTru, truD, finals, isWhole]
def PWithin (G : Fs) (f : Nat) : Prop := ∀ i a b : Int, a ≤ i → i ≤ b → G f [.fz (.int i), .fz (.int a), .fz (.int b)] = some (.fz (.bool true), [.fz (.int i), .fz (.int a), .fz (.int b)])
theorem within_run {G : Fs} {iw : Nat} (h : PWhole G iw) {i a b : Int} (h1 : a ≤ i) (h2 : i ≤ b) : runF G (isWithinFn iw) [.fz (.int i), .fz (.int a), .fz (.int b)] = some (.fz (.bool true), [.fz (.int i), .fz (.int a), .fz (.int b)]) := by
  simp [runF, isWithinFn, ownIx, Vl.isFz, execs, exec, ev, evs, lend, h _, give, force, Vl.own, look, Vl.flat, cmpD, finals, isWhole, h1, h2]
def PLong (G : Fs) (f : Nat) : Prop := ∀ (xs : List D) (a b : Int), a ≤ (xs.length : Int) → (xs.length : Int) ≤ b → G f [.fz (.tuple xs), .fz (.int a), .fz (.int b)] = some (.fz (.bool true), [.fz (.tuple xs), .fz (.int a), .fz (.int b)])
theorem long_run (G : Fs) {xs : List D} {a b : Int} (h1 : a ≤ (xs.length : Int)) (h2 : (xs.length : Int) ≤ b) : runF G isLongFn [.fz (.tuple xs), .fz (.int a), .fz (.int b)] = some (.fz (.bool true), [.fz (.tuple xs), .fz (.int a), .fz (.int b)]) := by
  simp [runF, isLongFn, ownIx, Vl.isFz, execs, exec, ev, evs, looks, look, Vl.flat, biD, isTy, force, Vl.own, cmpD, finals, h1, h2]
/-- heights -/
def IsHs (hs : List Int) : Prop := 2 ≤ hs.length ∧ hs.length ≤ 5 ∧ ∀ h ∈ hs, 0 ≤ h
def PCounts (G : Fs) (f : Nat) : Prop := ∀ hs, IsHs hs → G f [.fz (tI' hs)] = some (.fz (.bool true), [.fz (tI' hs)])
theorem counts_run {G : Fs} {il iw : Nat} (hl : PLong G il) (hw : PWhole G iw) {hs : List Int} (h : IsHs hs) : runF G (areCountsFn il iw) [.fz (tI' hs)] = some (.fz (.bool true), [.fz (tI' hs)]) := by
  obtain ⟨h1, h2, h3⟩ := h
  have e1 := hl (hs.map .int) 2 5 (by simp; omega) (by simp; omega)
  have ec : ev G (((E.call iw [E.var 1]).and (E.cmp Cop.ge (E.var 1) (cI 0))).comp (Tg.n 1) (It.li (E.var 0)) none [1] false) [some (.fz (.tuple (hs.map .int))), none] = some (.st (.ol (hs.map fun _ => .bool true)), [some (.fz (.tuple (hs.map .int))), none]) := by
    refine ev_comp_map hs .int (fun _ => .bool true) ?_ ?_ (by omega)
    · simp
    · intro n hn
      have := h3 n hn
      simp [turn0, wipeF, wipeP, hw _, isWhole, this]
  have e2 := bools_map (fun _ => true) hs
  simp only [tI'] at *
  simp [runF, areCountsFn, e1, ec, e2]
def IsSt (p : Int) (hs : List Int) : Prop := IsHs hs ∧ 0 ≤ p ∧ p < hs.length
def PStand (G : Fs) (f : Nat) : Prop := ∀ p hs, IsSt p hs → G f [.fz (sD p hs)] = some (.fz (.bool true), [.fz (sD p hs)])
@[simp] theorem idx_0 (x : D) (xs : List D) : idxD (.tuple (x :: xs)) (.int 0) = some x := by
  simp only [idxD, List.length_cons]
  rw [place_ok (by omega) (by omega)]
  rfl
@[simp] theorem idx_1 (x y : D) (xs : List D) : idxD (.tuple (x :: y :: xs)) (.int 1) = some y := by
  simp only [idxD, List.length_cons]
  rw [place_ok (by omega) (by omega)]
  rfl
theorem stand_run {G : Fs} {il ic ii : Nat} (hl : PLong G il) (hc : PCounts G ic) (hi : PWithin G ii) {p : Int} {hs : List Int} (h : IsSt p hs) : runF G (isStandFn il ic ii) [.fz (sD p hs)] = some (.fz (.bool true), [.fz (sD p hs)]) := by
  obtain ⟨h1, h2, h3⟩ := h
  have e1 := hl [.int p, tI' hs] 2 2 (by simp) (by simp)
  have e2 := hc hs h1
  have e3 := hi p 0 ((hs.length : Int) - 1) h2 (by omega)
  simp only [tI', sD] at *
  simp [runF, isStandFn, e1, e2, e3]
def PNeed (G : Fs) (f : Nat) : Prop := ∀ p hs, IsSt p hs → G f [.fz (sD p hs)] = some (.fz .none, [.fz (sD p hs)])
theorem need_run {G : Fs} {is : Nat} (hs' : PStand G is) {p : Int} {hs : List Int} (h : IsSt p hs) : runF G (needStandFn is) [.fz (sD p hs)] = some (.fz .none, [.fz (sD p hs)]) := by
  have e1 := hs' p hs h
  simp only [sD] at *
  simp [runF, needStandFn, e1]
end Tr

set_option Elab.async false
set_option linter.all false
set_option maxRecDepth 100000
set_option maxHeartbeats 4000000
/-! The program's steps, by the interpreter alone. -/
namespace Tr
open PySem
def isLetFn : Fn := ⟨2, 5, [S.asg (Tg.t [Tg.n 2, Tg.n 3]) (E.var 0), S.asg (Tg.n 4) (E.bin Bop.add (E.var 2) (E.var 1)), S.ret ((E.chn Cop.le Cop.lt (cI 0) (E.var 4) (E.bi Bi.len [E.var 3])).and (E.cmp Cop.le (E.bi Bi.abs [E.bin Bop.sub ((E.var 3).idx (E.var 4)) ((E.var 3).idx (E.var 2))]) (cI 1)))]⟩
def raisedFn : Fn := ⟨2, 2, [S.ret (E.bin Bop.add (E.bin Bop.add ((E.var 0).slc none (some (E.var 1)) false) (E.tup [E.bin Bop.add ((E.var 0).idx (E.var 1)) (cI 1)])) ((E.var 0).slc (some (E.bin Bop.add (E.var 1) (cI 1))) none false))]⟩
def stepByFn (ra : Nat) : Fn := ⟨2, 4, [S.asg (Tg.t [Tg.n 2, Tg.n 3]) (E.var 0), S.ret (E.tup [E.bin Bop.add (E.var 2) (E.var 1), E.call ra [E.var 3, E.var 2]])]⟩
def sTup : D := .tuple [.int (-1), .int 1]
def stepsByFn (il : Nat) : Fn := ⟨1, 2, [S.ret (E.bi Bi.tuple [(E.var 1).comp (Tg.n 1) (It.li (E.glb sTup)) (some (E.call il [E.var 0, E.var 1])) [1] false])]⟩
def stepsFn (ns sb : Nat) : Fn := ⟨1, 1, [S.exp (E.call ns [E.var 0]), S.ret (E.call sb [E.var 0])]⟩
def isStepFn (iw : Nat) : Fn := ⟨1, 1, [S.ret ((E.call iw [E.var 0]).and (E.cmp Cop.isin (E.var 0) (E.glb sTup)))]⟩
def needStepFn (is : Nat) : Fn := ⟨1, 1, [S.iff (E.call is [E.var 0]).not [S.stop] []]⟩
def needLetFn (ns nt il : Nat) : Fn := ⟨2, 2, [S.exp (E.call ns [E.var 0]), S.exp (E.call nt [E.var 1]), S.iff (E.call il [E.var 0, E.var 1]).not [S.stop] []]⟩
def steppedFn (nl sb : Nat) : Fn := ⟨2, 2, [S.exp (E.call nl [E.var 0, E.var 1]), S.ret (E.call sb [E.var 0, E.var 1])]⟩
/-- a step is let -/
def letB (p : Int) (hs : List Int) (s : Int) : Bool := decide (0 ≤ p + s) && decide (p + s < hs.length) && decide (at' hs (p + s) - at' hs p ≤ 1) && decide (-1 ≤ at' hs (p + s) - at' hs p)
def raiseH (hs : List Int) (p : Int) : List Int := hs.set p.toNat (at' hs p + 1)
def PLet (G : Fs) (f : Nat) : Prop := ∀ p hs s, IsSt p hs → G f [.fz (sD p hs), .fz (.int s)] = some (.fz (.bool (letB p hs s)), [.fz (sD p hs), .fz (.int s)])
theorem let_run (G : Fs) {p : Int} {hs : List Int} {s : Int} (h : IsSt p hs) : runF G isLetFn [.fz (sD p hs), .fz (.int s)] = some (.fz (.bool (letB p hs s)), [.fz (sD p hs), .fz (.int s)]) := by
  obtain ⟨h1, h2, h3⟩ := h
  have e1 := idx_tup h2 h3
  simp only [sD, tI']
  by_cases c : 0 ≤ p + s ∧ p + s < hs.length
  · have e2 := idx_tup c.1 c.2
    have e3 : decide ((if at' hs (p + s) - at' hs p < 0 then -(at' hs (p + s) - at' hs p) else at' hs (p + s) - at' hs p) ≤ 1) = (decide (at' hs (p + s) - at' hs p ≤ 1) && decide (-1 ≤ at' hs (p + s) - at' hs p)) := by
      rw [← Bool.decide_and]
      congr 1
      apply propext
      split <;> omega
    simp [runF, isLetFn, letB, e1, e2, c.1, c.2]
    rw [← e3]
  · by_cases c0 : 0 ≤ p + s
    · have c1 : ¬ (p + s < hs.length) := fun z => c ⟨c0, z⟩
      simp [runF, isLetFn, letB, c0, c1]
    · simp [runF, isLetFn, letB, c0]
theorem cut_take {hs : List Int} {p : Int} (h0 : 0 ≤ p) (h1 : p < hs.length) : cutL (hs.map PyData.int) none (some p) = (hs.map PyData.int).take p.toNat := by
  unfold cutL
  have e : HT.sIx (hs.map PyData.int).length 0 none = 0 := by rfl
  have e2 : HT.sIx (hs.map PyData.int).length (hs.map PyData.int).length (some p) = p.toNat := by
    unfold HT.sIx
    simp
    split <;> omega
  rw [e, e2]
  simp
theorem cut_drop {hs : List Int} {p : Int} (h0 : 0 ≤ p) (h1 : p < hs.length) : cutL (hs.map PyData.int) (some (p + 1)) none = (hs.map PyData.int).drop (p.toNat + 1) := by
  unfold cutL
  have e : HT.sIx (hs.map PyData.int).length 0 (some (p + 1)) = p.toNat + 1 := by
    unfold HT.sIx
    simp
    split <;> omega
  have e2 : HT.sIx (hs.map PyData.int).length (hs.map PyData.int).length none = hs.length := by
    unfold HT.sIx
    simp
  rw [e, e2]
  refine List.take_of_length_le ?_
  simp
def PRaised (G : Fs) (f : Nat) : Prop := ∀ p hs, IsSt p hs → G f [.fz (tI' hs), .fz (.int p)] = some (.fz (tI' (raiseH hs p)), [.fz (tI' hs), .fz (.int p)])
theorem raise_eq {hs : List Int} {p : Int} (h0 : 0 ≤ p) (h1 : p < hs.length) : (hs.map PyData.int).take p.toNat ++ (.int (at' hs p + 1) :: (hs.map PyData.int).drop (p.toNat + 1)) = (raiseH hs p).map .int := by
  unfold raiseH
  have : p.toNat < hs.length := by omega
  rw [List.set_eq_take_append_cons_drop, if_pos this]
  simp
theorem raised_run (G : Fs) {p : Int} {hs : List Int} (h : IsSt p hs) : runF G raisedFn [.fz (tI' hs), .fz (.int p)] = some (.fz (tI' (raiseH hs p)), [.fz (tI' hs), .fz (.int p)]) := by
  obtain ⟨⟨h1, h2, h4⟩, h0, h3⟩ := h
  have e1 := idx_tup h0 h3
  have e2 := cut_take h0 h3
  have e3 := cut_drop h0 h3
  have e4 := raise_eq h0 h3
  simp only [tI']
  have z1 : okSz (min p.toNat hs.length + 1) = true := okSz_ok (by omega)
  have z2 : okSz (min p.toNat hs.length + (hs.length - (p.toNat + 1) + 1)) = true := okSz_ok (by omega)
  have z4 : okSz (min p.toNat hs.length + 1 + (hs.length - (p.toNat + 1))) = true := okSz_ok (by omega)
  have z3 : okSz 1 = true := by decide
  simp [runF, raisedFn, e1, e2, e3, z1, z2, z3, z4, e4]
def PStepBy (G : Fs) (f : Nat) : Prop := ∀ p hs s, IsSt p hs → G f [.fz (sD p hs), .fz (.int s)] = some (.fz (sD (p + s) (raiseH hs p)), [.fz (sD p hs), .fz (.int s)])
theorem stepBy_run {G : Fs} {ra : Nat} (hr : PRaised G ra) {p : Int} {hs : List Int} {s : Int} (h : IsSt p hs) : runF G (stepByFn ra) [.fz (sD p hs), .fz (.int s)] = some (.fz (sD (p + s) (raiseH hs p)), [.fz (sD p hs), .fz (.int s)]) := by
  have e1 := hr p hs h
  have z3 : okSz 2 = true := by decide
  simp only [sD, tI'] at *
  simp [runF, stepByFn, e1, z3]
/-- the steps that are let -/
def lets (p : Int) (hs : List Int) : List Int := [-1, 1].filter (letB p hs)
def PStepsBy (G : Fs) (f : Nat) : Prop := ∀ p hs, IsSt p hs → G f [.fz (sD p hs)] = some (.fz (tI' (lets p hs)), [.fz (sD p hs)])
theorem stepsBy_run {G : Fs} {il : Nat} (hl : PLet G il) {p : Int} {hs : List Int} (h : IsSt p hs) : runF G (stepsByFn il) [.fz (sD p hs)] = some (.fz (tI' (lets p hs)), [.fz (sD p hs)]) := by
  have ec : ev G ((E.var 1).comp (Tg.n 1) (It.li (E.glb sTup)) (some (E.call il [E.var 0, E.var 1])) [1] false) [some (.fz (sD p hs)), none] = some (.st (.ol (([-1, 1].filter (letB p hs)).map .int)), [some (.fz (sD p hs)), none]) := by
    refine ev_comp_filter ([-1, 1] : List Int) .int .int (letB p hs) (by simp [sTup]) (fun n _ => ?_) (by decide)
    have e1 := hl p hs n h
    simp only [sD, tI'] at *
    cases hb : letB p hs n <;> simp [turn0, wipeF, wipeP, e1, hb]
  simp only [sD, tI', lets] at *
  simp [runF, stepsByFn, ec]
def PSteps (G : Fs) (f : Nat) : Prop := PStepsBy G f
theorem steps_run {G : Fs} {ns sb : Nat} (hn : PNeed G ns) (hb : PStepsBy G sb) {p : Int} {hs : List Int} (h : IsSt p hs) : runF G (stepsFn ns sb) [.fz (sD p hs)] = some (.fz (tI' (lets p hs)), [.fz (sD p hs)]) := by
  have e1 := hn p hs h
  have e2 := hb p hs h
  simp only [sD, tI'] at *
  simp [runF, stepsFn, e1, e2]
def IsStp (s : Int) : Prop := s = -1 ∨ s = 1
def PIsStep (G : Fs) (f : Nat) : Prop := ∀ s, IsStp s → G f [.fz (.int s)] = some (.fz (.bool true), [.fz (.int s)])
theorem isStep_run {G : Fs} {iw : Nat} (hw : PWhole G iw) {s : Int} (h : IsStp s) : runF G (isStepFn iw) [.fz (.int s)] = some (.fz (.bool true), [.fz (.int s)]) := by
  have e1 := hw (.int s)
  have e2 : cmpD .isin (.int s) sTup = some true := by
    rcases h with rfl | rfl <;> decide +kernel
  simp [runF, isStepFn, e1, e2, isWhole]
def PNeedStep (G : Fs) (f : Nat) : Prop := ∀ s, IsStp s → G f [.fz (.int s)] = some (.fz .none, [.fz (.int s)])
theorem needStep_run {G : Fs} {is : Nat} (hi : PIsStep G is) {s : Int} (h : IsStp s) : runF G (needStepFn is) [.fz (.int s)] = some (.fz .none, [.fz (.int s)]) := by
  simp [runF, needStepFn, hi s h]
def PNeedLet (G : Fs) (f : Nat) : Prop := ∀ p hs s, IsSt p hs → IsStp s → letB p hs s = true → G f [.fz (sD p hs), .fz (.int s)] = some (.fz .none, [.fz (sD p hs), .fz (.int s)])
theorem needLet_run {G : Fs} {ns nt il : Nat} (h1 : PNeed G ns) (h2 : PNeedStep G nt) (h3 : PLet G il) {p : Int} {hs : List Int} {s : Int} (h : IsSt p hs) (hs' : IsStp s) (hl : letB p hs s = true) :
    runF G (needLetFn ns nt il) [.fz (sD p hs), .fz (.int s)] = some (.fz .none, [.fz (sD p hs), .fz (.int s)]) := by
  have e1 := h1 p hs h
  have e2 := h2 s hs'
  have e3 := h3 p hs s h
  rw [hl] at e3
  simp only [sD, tI'] at *
  simp [runF, needLetFn, e1, e2, e3]
def PStepped (G : Fs) (f : Nat) : Prop := ∀ p hs s, IsSt p hs → IsStp s → letB p hs s = true → G f [.fz (sD p hs), .fz (.int s)] = some (.fz (sD (p + s) (raiseH hs p)), [.fz (sD p hs), .fz (.int s)])
theorem stepped_run {G : Fs} {nl sb : Nat} (h1 : PNeedLet G nl) (h2 : PStepBy G sb) {p : Int} {hs : List Int} {s : Int} (h : IsSt p hs) (hs' : IsStp s) (hl : letB p hs s = true) :
    runF G (steppedFn nl sb) [.fz (sD p hs), .fz (.int s)] = some (.fz (sD (p + s) (raiseH hs p)), [.fz (sD p hs), .fz (.int s)]) := by
  have e1 := h1 p hs s h hs' hl
  have e2 := h2 p hs s h
  simp only [sD, tI'] at *
  simp [runF, steppedFn, e1, e2]
theorem IsSt.step {p : Int} {hs : List Int} {s : Int} (h : IsSt p hs) (hl : letB p hs s = true) : IsSt (p + s) (raiseH hs p) := by
  obtain ⟨⟨h1, h2, h3⟩, h4, h5⟩ := h
  unfold letB at hl
  simp only [Bool.and_eq_true, decide_eq_true_eq] at hl
  have hlen : (raiseH hs p).length = hs.length := by unfold raiseH; rw [List.length_set]
  refine ⟨⟨by omega, by omega, fun x hx => ?_⟩, by omega, by omega⟩
  unfold raiseH at hx
  rcases List.mem_or_eq_of_mem_set hx with hx | rfl
  · exact h3 x hx
  · have : p.toNat < hs.length := by omega
    have : at' hs p ∈ hs := by
      unfold at'
      rw [List.getD_eq_getElem?_getD, List.getElem?_eq_getElem this]
      exact List.getElem_mem _
    have := h3 _ this
    omega
end Tr

set_option Elab.async false
set_option linter.all false
set_option maxRecDepth 100000
set_option maxHeartbeats 4000000
/-! The laws' own small defs. -/
namespace Tr
open PySem
def cellAtFn : Fn := ⟨2, 2, [S.iff (E.cmp Cop.lt (E.var 1) (E.bi Bi.len [E.var 0])) [S.ret ((E.var 0).idx (E.var 1))] [], S.ret (cI 0)]⟩
def penFn : Fn := ⟨1, 1, [S.ret (E.lst [E.bi Bi.max [cI 0, E.bin Bop.sub (E.var 0) (E.bin Bop.pow (cI 10) (cI 18))], E.bin Bop.add (E.bin Bop.mod (E.var 0) (cI 2147483629)) (cI 1), cI 0])]⟩
def drawFn : Fn := ⟨2, 4, [S.iff (E.cmp Cop.gt ((E.var 0).idx (cI 0)) (cI 0)) [S.asg (Tg.n 2) (E.bin Bop.mod ((E.var 0).idx (cI 0)) (E.var 1)), S.sidx 0 (cI 0) (E.bin Bop.fdiv ((E.var 0).idx (cI 0)) (E.var 1)), S.retv 2] [], S.sidx 0 (cI 2) (E.bin Bop.add ((E.var 0).idx (cI 2)) (cI 1)), S.sidx 0 (cI 1) (E.bin Bop.mod (E.bin Bop.add (E.bin Bop.add (E.bin Bop.mul ((E.var 0).idx (cI 1)) (cI 48271)) (E.bin Bop.mul (cI 1009) ((E.var 0).idx (cI 2)))) (cI 7)) (cI 2147483647)), S.asg (Tg.n 3) (E.bin Bop.mod (E.bin Bop.add (E.bin Bop.add (E.bin Bop.mul ((E.var 0).idx (cI 1)) ((E.var 0).idx (cI 1))) (E.bin Bop.mul (cI 69621) ((E.var 0).idx (cI 1)))) (cI 11)) (cI 2147483629)), S.asg (Tg.n 3) (E.bin Bop.mod (E.bin Bop.add (E.bin Bop.mul (E.var 3) (E.var 3)) (E.bin Bop.mul (cI 40014) (E.var 3))) (cI 2147483587)), S.ret (E.bin Bop.mod (E.bin Bop.fdiv (E.var 3) (cI 16)) (E.var 1))]⟩
def pickFn (dr : Nat) : Fn := ⟨2, 2, [S.ret ((E.var 1).idx (E.call dr [E.var 0, E.bi Bi.len [E.var 1]]))]⟩
def sameFn : Fn := ⟨2, 2, [S.ret (E.cmp Cop.eq (E.bi Bi.repr [E.var 0]) (E.bi Bi.repr [E.var 1]))]⟩
/-- where the draws come from -/
def IsPen (x : Vl) : Prop := ∃ a b c : Int, x = .ol [.int a, .int b, .int c] ∧ 0 ≤ b ∧ b < 2 ^ 32
@[simp] theorem cmpD_eqI (a b : Int) : cmpD .eq (.int a) (.int b) = some (a == b) := by
  simp [cmpD, okEq, SeqAt.shaped, PyData.canLay0, PyData.depth, PyData.eqv]
@[simp] theorem binD_modI (a b : Int) : binD .mod (.int a) (.int b) = if decide (0 < b) then some (.fz (.int (a % b))) else none := rfl
@[simp] theorem binD_divI (a b : Int) : binD .fdiv (.int a) (.int b) = if decide (0 < b) && decide (b < 1073741824) then some (.fz (.int (a / b))) else none := rfl
theorem binD_mulL {a b : Int} (h : a.natAbs < 18446744073709551616) : binD .mul (.int a) (.int b) = some (.fz (.int (a * b))) := by
  show (if (decide (a.natAbs < 18446744073709551616) || decide (b.natAbs < 18446744073709551616) || decide (a.natAbs.log2 + b.natAbs.log2 < 1000000)) = true then _ else _) = _
  rw [if_pos]
  simp [h]
theorem binD_mulR {a b : Int} (h : b.natAbs < 18446744073709551616) : binD .mul (.int a) (.int b) = some (.fz (.int (a * b))) := by
  show (if (decide (a.natAbs < 18446744073709551616) || decide (b.natAbs < 18446744073709551616) || decide (a.natAbs.log2 + b.natAbs.log2 < 1000000)) = true then _ else _) = _
  rw [if_pos]
  simp [h]
theorem idxL (xs : List D) (i : Int) : idxD (.list xs) (.int i) = (placeD xs.length i).bind fun j => xs[j]? := rfl
theorem place0 : placeD 3 0 = some 0 := by decide
theorem place1 : placeD 3 1 = some 1 := by decide
theorem place2 : placeD 3 2 = some 2 := by decide
theorem draw_run (G : Fs) {x : Vl} {many : Int} (hx : IsPen x) (h0 : 0 < many) (h1 : many < 2 ^ 30) : ∃ (r : Int) (x' : Vl), runF G drawFn [x, .fz (.int many)] = some (.fz (.int r), [x', .fz (.int many)]) ∧ 0 ≤ r ∧ r < many ∧ IsPen x' := by
  obtain ⟨a, b, c, rfl, hb, hb2⟩ := hx
  have hm2 : many < 1073741824 := by omega
  by_cases ha : a > 0
  · refine ⟨a % many, .ol [.int (a / many), .int b, .int c], ?_, Int.emod_nonneg a (by omega), Int.emod_lt_of_pos a h0, ⟨_, _, _, rfl, hb, hb2⟩⟩
    simp [runF, drawFn, idxL, place0, ha, h0, hm2]
  · let b1 := (b * 48271 + 1009 * (c + 1) + 7) % 2147483647
    have b1a : 0 ≤ b1 := Int.emod_nonneg _ (by omega)
    have b1b : b1 < 2147483647 := Int.emod_lt_of_pos _ (by omega)
    let m1 := (b1 * b1 + 69621 * b1 + 11) % 2147483629
    have m1a : 0 ≤ m1 := Int.emod_nonneg _ (by omega)
    have m1b : m1 < 2147483629 := Int.emod_lt_of_pos _ (by omega)
    let m2 := (m1 * m1 + 40014 * m1) % 2147483587
    refine ⟨m2 / 16 % many, .ol [.int a, .int b1, .int (c + 1)], ?_, Int.emod_nonneg _ (by omega), Int.emod_lt_of_pos _ h0, ⟨_, _, _, rfl, b1a, by omega⟩⟩
    have e1 : binD .mul (.int b) (.int 48271) = some (.fz (.int (b * 48271))) := binD_mulR (by decide)
    have e2 : binD .mul (.int 1009) (.int (c + 1)) = some (.fz (.int (1009 * (c + 1)))) := binD_mulL (by decide)
    have e3 : binD .mul (.int b1) (.int b1) = some (.fz (.int (b1 * b1))) := binD_mulL (by omega)
    have e4 : binD .mul (.int 69621) (.int b1) = some (.fz (.int (69621 * b1))) := binD_mulL (by decide)
    have e5 : binD .mul (.int m1) (.int m1) = some (.fz (.int (m1 * m1))) := binD_mulL (by omega)
    have e6 : binD .mul (.int 40014) (.int m1) = some (.fz (.int (40014 * m1))) := binD_mulL (by decide)
    have f1 : (b * 48271 + 1009 * (c + 1) + 7) % 2147483647 = b1 := rfl
    have f2 : (b1 * b1 + 69621 * b1 + 11) % 2147483629 = m1 := rfl
    have f3 : (m1 * m1 + 40014 * m1) % 2147483587 = m2 := rfl
    clear_value b1
    clear_value m1
    clear_value m2
    simp [runF, drawFn, idxL, place0, place1, place2, ha, h0, e1, e2, f1, e3, e4, f2, e5, e6, f3]
/-! ### texts of data: how long at the most -/
mutual
def cnt : D → Nat
  | .int _ => 24
  | .list xs => cntL xs + 4
  | .tuple xs => cntL xs + 6
  | .str _ => 30
  | _ => 8
def cntL : List D → Nat
  | [] => 0
  | x :: xs => cnt x + 2 + cntL xs
end
mutual
def tame : D → Bool
  | .none => true
  | .bool _ => true
  | .int i => decide (i.natAbs < 10 ^ 20)
  | .list xs => tameL xs
  | .tuple xs => tameL xs
  | .str x => decide ((PyData.str x).shown.length ≤ 30)
  | _ => false
def tameL : List D → Bool
  | [] => true
  | x :: xs => tame x && tameL xs
end
theorem str_len (x : String) : (Str.ofString x).length = x.length := ofString_length x
theorem textFrom_le : ∀ (ts : List Str) (k : Nat) (acc : Str), (textFrom k acc ts).length ≤ acc.length + piled ts
  | [], k, acc => by simp [textFrom, piled_nil]
  | t :: ts, k, acc => by
    unfold textFrom
    refine Nat.le_trans (textFrom_le ts _ _) ?_
    rw [piled_cons, Str.length_append, Str.length_append]
    have : (Str.ofString (if k > 0 then ", " else "")).length ≤ 2 := by
      split <;> decide
    omega
theorem listText_le (ts : List Str) : (listText ts).length ≤ piled ts + 2 := by
  unfold listText
  rw [Str.length_append]
  have h := textFrom_le ts 0 "["
  have e1 : (Str.ofString "[").length = 1 := by decide
  have e2 : (Str.ofString "]").length = 1 := by decide
  omega
theorem tupleText_le (ts : List Str) : (tupleText ts).length ≤ piled ts + 3 := by
  unfold tupleText
  rw [Str.length_append, Str.length_append]
  have e1 : (Str.ofString "(").length = 1 := by decide
  have e2 : (Str.ofString (if ts.length == 1 then ",)" else ")")).length ≤ 2 := by
    split <;> decide
  cases ts with
  | nil =>
    have e3 : (Str.join ", " []).length = 0 := by decide
    omega
  | cons t ts =>
    have := join_length_add (t :: ts) (by simp)
    omega
mutual
theorem shown_le : ∀ d : D, tame d = true → d.shown.length ≤ cnt d ∧ d.showable = true ∧ d.hasDict = false
  | .none, _ => ⟨by show (Str.ofString "None").length ≤ 8; decide, rfl, rfl⟩
  | .bool b, _ => ⟨by cases b <;> decide, rfl, rfl⟩
  | .int i, h => by
    unfold tame at h
    have h := of_decide_eq_true h
    refine ⟨?_, ?_, rfl⟩
    · show (Str.ofString (toString i)).length ≤ 24
      rw [str_len]
      exact Nat.le_trans (int_text_length_le10 (k := 20) (by decide) h) (by decide)
    · show decide (i.natAbs.log2 < 1920) = true
      refine decide_eq_true ?_
      by_cases hz : i.natAbs = 0
      · rw [hz]; decide
      · exact Nat.lt_of_lt_of_le ((Nat.log2_lt (k := 67) hz).mpr (Nat.lt_of_lt_of_le h (by decide))) (by decide)
  | .list xs, h => by
    unfold tame at h
    obtain ⟨h1, h2, h3⟩ := shownL_le xs h
    refine ⟨?_, h2, h3⟩
    show (listText (PyData.shownAll xs)).length ≤ cntL xs + 4
    have := listText_le (PyData.shownAll xs)
    omega
  | .tuple xs, h => by
    unfold tame at h
    obtain ⟨h1, h2, h3⟩ := shownL_le xs h
    refine ⟨?_, h2, h3⟩
    show (tupleText (PyData.shownAll xs)).length ≤ cntL xs + 6
    have := tupleText_le (PyData.shownAll xs)
    omega
  | .str x, h => by
    unfold tame at h
    exact ⟨of_decide_eq_true h, rfl, rfl⟩
  | .dict _, h => by unfold tame at h; cases h
theorem shownL_le : ∀ xs : List D, tameL xs = true → piled (PyData.shownAll xs) ≤ cntL xs ∧ PyData.showableAll xs = true ∧ PyData.hasDictAll xs = false
  | [], _ => ⟨Nat.le_refl _, rfl, rfl⟩
  | x :: xs, h => by
    unfold tameL at h
    rw [Bool.and_eq_true] at h
    obtain ⟨a1, a2, a3⟩ := shown_le x h.1
    obtain ⟨b1, b2, b3⟩ := shownL_le xs h.2
    refine ⟨?_, ?_, ?_⟩
    · show piled (x.shown :: PyData.shownAll xs) ≤ cnt x + 2 + cntL xs
      rw [piled_cons]
      omega
    · show (x.showable && PyData.showableAll xs) = true
      rw [a2, b2]; rfl
    · show (x.hasDict || PyData.hasDictAll xs) = false
      rw [a3, b3]; rfl
end
theorem okShow_of {d : D} (h : tame d = true) (h1 : cnt d ≤ 16777216) (h2 : d.depth ≤ 64) : okShow d = true := by
  obtain ⟨a1, a2, a3⟩ := shown_le d h
  unfold okShow
  have : d.shown.length ≤ 16777216 := by omega
  simp [a2, a3, this, h2]
theorem tameL_ints : ∀ {ns : List Int}, (∀ n ∈ ns, n.natAbs < 10 ^ 20) → tameL (ns.map .int) = true
  | [], _ => rfl
  | n :: ns, h => by
    rw [List.map_cons]
    unfold tameL tame
    rw [tameL_ints fun m hm => h m (List.mem_cons_of_mem _ hm), Bool.and_true]
    exact decide_eq_true (h n List.mem_cons_self)
theorem cntL_ints : ∀ (ns : List Int), cntL (ns.map .int) = 26 * ns.length
  | [] => rfl
  | n :: ns => by
    rw [List.map_cons, List.length_cons]
    unfold cntL cnt
    rw [cntL_ints ns]
    omega
theorem depthL_ints : ∀ (ns : List Int), PyData.depthAll (ns.map .int) = 0
  | [] => rfl
  | n :: ns => by
    rw [List.map_cons]
    show max 0 (PyData.depthAll (ns.map .int)) = 0
    rw [depthL_ints ns]
    rfl
@[simp] theorem cmpD_eqS (a b : Str) : cmpD .eq (.str a) (.str b) = some (decide (a = b)) := rfl
@[simp] theorem biD_repr (d : D) : biD .repr [d] = if okShow d then some (.fz (.str d.shown)) else none := rfl
def PSame (G : Fs) (f : Nat) : Prop := ∀ (x y : Vl) (d : D), x.flat = some d → y.flat = some d → okShow d = true → x.own = true → y.own = true → (∃ a b, x = a ∧ y = b) → G f [x, y] = some (.fz (.bool true), [x, y])
theorem same_ll (G : Fs) {xs : List D} (h : okShow (.list xs) = true) : runF G sameFn [.ol xs, .ol xs] = some (.fz (.bool true), [.ol xs, .ol xs]) := by
  simp [runF, sameFn, h]
/-! ### the script and the pen -/
def PCell (G : Fs) (f : Nat) : Prop := ∀ (ns : List Int) (k : Int), 0 ≤ k → ∃ v : Int, G f [.scr ns, .fz (.int k)] = some (.fz (.int v), [.scr ns, .fz (.int k)])
theorem cell_run (G : Fs) {ns : List Int} {k : Int} (h : 0 ≤ k) : ∃ v : Int, runF G cellAtFn [.scr ns, .fz (.int k)] = some (.fz (.int v), [.scr ns, .fz (.int k)]) := by
  by_cases hk : k < ns.length
  · have e := idx_lst h hk
    exact ⟨at' ns k, by simp [runF, cellAtFn, hk, e]⟩
  · exact ⟨0, by simp [runF, cellAtFn, hk]⟩
def PPen (G : Fs) (f : Nat) : Prop := ∀ v : Int, ∃ x, G f [.fz (.int v)] = some (x, [.fz (.int v)]) ∧ IsPen x
theorem pow18 : binD .pow (.int 10) (.int 18) = some (.fz (.int 1000000000000000000)) := by
  show (if (decide ((0 : Int) ≤ 18) && decide ((18 : Int) ≤ 1000000) && decide ((10 : Int).natAbs < 18446744073709551616)) = true then some (Vl.fz (.int ((10 : Int) ^ (18 : Int).toNat))) else none) = _
  rw [if_pos (by decide)]
  rfl
theorem pen_run (G : Fs) (v : Int) : ∃ x, runF G penFn [.fz (.int v)] = some (x, [.fz (.int v)]) ∧ IsPen x := by
  have h1 : 0 ≤ v % 2147483629 := Int.emod_nonneg _ (by omega)
  have h2 : v % 2147483629 < 2147483629 := Int.emod_lt_of_pos _ (by omega)
  refine ⟨.ol [.int (if v - 1000000000000000000 > 0 then v - 1000000000000000000 else 0), .int (v % 2147483629 + 1), .int 0], ?_, ⟨_, _, _, rfl, by omega, by omega⟩⟩
  have z3 : okSz 3 = true := by decide
  simp [runF, penFn, pow18, z3]
def PDraw (G : Fs) (f : Nat) : Prop := ∀ (x : Vl) (many : Int), IsPen x → 0 < many → many < 2 ^ 30 → ∃ (r : Int) (x' : Vl), G f [x, .fz (.int many)] = some (.fz (.int r), [x', .fz (.int many)]) ∧ 0 ≤ r ∧ r < many ∧ IsPen x'
/-- a list that one picks from: owned, or standing -/
def listy (y : Vl) (xs : List D) : Prop := y = .ol xs ∨ y = .fz (.list xs) ∨ y = .fz (.tuple xs)
def PPick (G : Fs) (f : Nat) : Prop := ∀ (x y : Vl) (xs : List D), IsPen x → listy y xs → 0 < xs.length → xs.length < 2 ^ 30 → ∃ (d : D) (x' : Vl), G f [x, y] = some (.fz d, [x', y]) ∧ d ∈ xs ∧ IsPen x'
theorem pick_run {G : Fs} {dr : Nat} (hd : PDraw G dr) {x y : Vl} {xs : List D} (hx : IsPen x) (hy : listy y xs) (h0 : 0 < xs.length) (h1 : xs.length < 2 ^ 30) : ∃ (d : D) (x' : Vl), runF G (pickFn dr) [x, y] = some (.fz d, [x', y]) ∧ d ∈ xs ∧ IsPen x' := by
  obtain ⟨r, x', e, r0, r1, hx'⟩ := hd x xs.length hx (by omega) (by omega)
  obtain ⟨a, b, c, rfl, -, -⟩ := id hx
  obtain ⟨a', b', c', rfl, -, -⟩ := id hx'
  have hr : r.toNat < xs.length := by omega
  have hp : placeD xs.length r = some r.toNat := place_ok r0 r1
  have hg : xs[r.toNat]? = some xs[r.toNat] := List.getElem?_eq_getElem hr
  refine ⟨xs[r.toNat], .ol [.int a', .int b', .int c'], ?_, List.getElem_mem _, hx'⟩
  rcases hy with rfl | rfl | rfl
  · simp [runF, pickFn, e, idxL, hp, hg]
  · simp [runF, pickFn, e, idxL, hp, hg]
  · have idxT : idxD (.tuple xs) (.int r) = (placeD xs.length r).bind fun j => xs[j]? := rfl
    simp [runF, pickFn, e, idxT, hp, hg]
end Tr

set_option Elab.async false
set_option linter.all false
set_option maxRecDepth 100000
set_option maxHeartbeats 4000000
/-! Drawn stands and walks. -/
namespace Tr
open PySem
theorem forN_ix {turn : D → Fm → R Sg} (I : Nat → Fm → Prop) : ∀ {ds : List D} {k : Nat} {fr : Fm}, I k fr → (∀ i d g, ds[i]? = some d → I (k + i) g → ∃ g', turn d g = some (.nx, g') ∧ I (k + i + 1) g') → ∃ g', forN turn ds fr = some (.nx, g') ∧ I (k + ds.length) g'
  | [], k, fr, h0, _ => ⟨fr, rfl, h0⟩
  | d :: ds, k, fr, h0, hs => by
    obtain ⟨g, e1, i1⟩ := hs 0 d fr rfl h0
    obtain ⟨g', e2, i2⟩ := forN_ix (ds := ds) (k := k + 1) I i1 (fun i d' g' hd hi => by
      have := hs (i + 1) d' g' (by simpa using hd) (by rw [show k + (i + 1) = k + 1 + i by omega]; exact hi)
      rw [show k + (i + 1) + 1 = k + 1 + i + 1 by omega] at this
      exact this)
    refine ⟨g', ?_, by rw [List.length_cons, show k + (ds.length + 1) = k + 1 + ds.length by omega]; exact i2⟩
    unfold forN
    rw [e1]
    exact e2
def standFn (dr pk : Nat) : Fn := ⟨3, 8, [S.par [3, 4] [E.bin .add (cI 2) (E.call dr [E.var 0, E.bin .sub (E.var 1) (cI 1)]), E.call dr [E.var 0, E.bin .add (E.var 2) (cI 1)]], S.asg (Tg.n 5) (E.lst []), S.for (Tg.n 6) (It.rg1 (E.var 3)) [S.app 5 (E.var 4), S.asg (Tg.n 7) (E.bin .add (E.var 4) (E.call pk [E.var 0, E.lst [cI 0, cI 0, cI 1, nI 1, cI 1, nI 1, cI 2, nI 2]])), S.asg (Tg.n 4) ((E.lst [E.var 7, E.call dr [E.var 0, E.bin .add (E.var 2) (cI 1)]]).idx (E.bi .int [E.cmp .eq (E.call dr [E.var 0, cI 4]) (cI 0)])), S.asg (Tg.n 4) (E.bi .max [cI 0, E.bi .min [E.var 2, E.var 4]])], S.ret (E.tup [E.call dr [E.var 0, E.var 3], E.bi .tuple [E.var 5]])]⟩
theorem rangeD_length (n : Int) : (rangeD 0 n).length = n.toNat := by rw [rangeD_len, Int.sub_zero]
theorem small_ok {n : Int} (h0 : 0 ≤ n) (h1 : n ≤ 1000000) : smallI n = true := by
  unfold smallI
  simp only [Bool.and_eq_true, decide_eq_true_eq]
  omega
theorem standDraw_run {G : Fs} {dr pk : Nat} (hd : PDraw G dr) (hp : PPick G pk) {x : Vl} {most high : Int} (hx : IsPen x) (h1 : 2 ≤ most) (h2 : most ≤ 5) (h3 : 0 ≤ high) (h4 : high ≤ 1000000) :
    ∃ (p : Int) (hs : List Int) (x' : Vl), runF G (standFn dr pk) [x, .fz (.int most), .fz (.int high)] = some (.fz (sD p hs), [x', .fz (.int most), .fz (.int high)]) ∧ IsSt p hs ∧ (∀ h ∈ hs, h ≤ high) ∧ (hs.length : Int) ≤ most ∧ IsPen x' := by
  obtain ⟨m0, x1, e1, m0a, m0b, hx1⟩ := hd x (most - 1) hx (by omega) (by omega)
  obtain ⟨here0, x2, e2, h0a, h0b, hx2⟩ := hd x1 (high + 1) hx1 (by omega) (by omega)
  let I : Nat → Fm → Prop := fun k fr => ∃ (y : Vl) (here : Int) (hs : List Int) (o6 o7 : Option Vl), fr = [some y, some (.fz (.int most)), some (.fz (.int high)), some (.fz (.int (2 + m0))), some (.fz (.int here)), some (.ol (hs.map .int)), o6, o7] ∧ IsPen y ∧ 0 ≤ here ∧ here ≤ high ∧ hs.length = k ∧ ∀ h ∈ hs, 0 ≤ h ∧ h ≤ high
  have loop : ∃ g', forN (turnF G [0] (Tg.n 6) [S.app 5 (E.var 4), S.asg (Tg.n 7) (E.bin .add (E.var 4) (E.call pk [E.var 0, E.lst [cI 0, cI 0, cI 1, nI 1, cI 1, nI 1, cI 2, nI 2]])), S.asg (Tg.n 4) ((E.lst [E.var 7, E.call dr [E.var 0, E.bin .add (E.var 2) (cI 1)]]).idx (E.bi .int [E.cmp .eq (E.call dr [E.var 0, cI 4]) (cI 0)])), S.asg (Tg.n 4) (E.bi .max [cI 0, E.bi .min [E.var 2, E.var 4]])]) (rangeD 0 (2 + m0)) [some x2, some (.fz (.int most)), some (.fz (.int high)), some (.fz (.int (2 + m0))), some (.fz (.int here0)), some (.ol []), none, none] = some (.nx, g') ∧ I (0 + (rangeD 0 (2 + m0)).length) g' := by
    refine forN_ix I ⟨x2, here0, [], none, none, rfl, hx2, h0a, by omega, rfl, by simp⟩ ?_
    rintro i d g hi ⟨y, here, hs, o6, o7, rfl, hy, y0, y1, hl, hh⟩
    have hil : i < 5 := by
      have := (List.getElem?_eq_some_iff.mp hi).1
      rw [rangeD_length] at this
      omega
    obtain ⟨v, z1, e3, hv, hz1⟩ := hp y (.ol [.int 0, .int 0, .int 1, .int (-1), .int 1, .int (-1), .int 2, .int (-2)]) _ hy (.inl rfl) (by decide) (by decide)
    obtain ⟨n, rfl⟩ : ∃ n, v = .int n := by
      simp only [List.mem_cons, List.not_mem_nil, or_false] at hv
      rcases hv with h | h | h | h | h | h | h | h <;> exact ⟨_, h⟩
    obtain ⟨q, z2, e4, q0, q1, hz2⟩ := hd z1 (high + 1) hz1 (by omega) (by omega)
    obtain ⟨t, z3, e5, t0, t1, hz3⟩ := hd z2 4 hz2 (by omega) (by omega)
    obtain ⟨a, b, c, rfl, -, -⟩ := id hy
    obtain ⟨a1, b1, c1, rfl, -, -⟩ := id hz1
    obtain ⟨a2, b2, c2, rfl, -, -⟩ := id hz2
    obtain ⟨a3, b3, c3, rfl, -, -⟩ := id hz3
    have zs : okSz 8 = true := by decide
    have zs2 : okSz 2 = true := by decide
    have zl : hs.length < 16777216 := by omega
    let nx : Int := if t = 0 then q else here + n
    let nx2 : Int := if (if nx < high then nx else high) > 0 then (if nx < high then nx else high) else 0
    refine ⟨[some (.ol [.int a3, .int b3, .int c3]), some (.fz (.int most)), some (.fz (.int high)), some (.fz (.int (2 + m0))), some (.fz (.int nx2)), some (.ol ((hs ++ [here]).map .int)), some (.fz d), some (.fz (.int (here + n)))], ?_, ⟨_, _, _, _, _, rfl, hz3, ?_, ?_, ?_, ?_⟩⟩
    · have idx2 : idxD (.list [.int (here + n), .int q]) (.int (if (t == 0) = true then 1 else 0)) = some (.int nx) := by
        show _ = some (PyData.int (if t = 0 then q else here + n))
        by_cases ht : t = 0
        · subst ht; rfl
        · have : (t == 0) = false := by simpa using ht
          rw [this, if_neg ht]; rfl
      have idx3 : idxD (.list [.int (here + n), .int q]) (.int (if t = 0 then 1 else 0)) = some (.int nx) := by
        rw [← idx2]; simp
      clear_value nx
      simp [turnF, e3, e4, e5, zs, zs2, zl, idx3, nx2]
    · show 0 ≤ nx2
      simp only [nx2]
      split <;> omega
    · show nx2 ≤ high
      simp only [nx2]
      split <;> (try split) <;> omega
    · simp [hl]
    · intro h hm
      rcases List.mem_append.mp hm with hm | hm
      · exact hh h hm
      · rw [List.mem_singleton.mp hm]; exact ⟨y0, y1⟩
  obtain ⟨g', el, y, here, hs, o6, o7, rfl, hy, -, -, hl, hh⟩ := loop
  rw [rangeD_length] at hl
  obtain ⟨p, x', e6, p0, p1, hx'⟩ := hd y (2 + m0) hy (by omega) (by omega)
  obtain ⟨a, b, c, rfl, -, -⟩ := id hx
  obtain ⟨a1, b1, c1, rfl, -, -⟩ := id hx1
  obtain ⟨a2, b2, c2, rfl, -, -⟩ := id hx2
  obtain ⟨a3, b3, c3, rfl, -, -⟩ := id hy
  obtain ⟨a4, b4, c4, rfl, -, -⟩ := id hx'
  have zs0 : okSz 0 = true := by decide
  have zs2 : okSz 2 = true := by decide
  have sm := small_ok (n := 2 + m0) (by omega) (by omega)
  refine ⟨p, hs, _, ?_, ⟨⟨by omega, by omega, fun h hm => (hh h hm).1⟩, p0, by omega⟩, fun h hm => (hh h hm).2, by omega, hx'⟩
  simp [runF, standFn, e1, e2, zs0, zs2, sm, el, e6, sD, tI']
end Tr

set_option Elab.async false
set_option linter.all false
set_option maxRecDepth 100000
set_option maxHeartbeats 4000000
/-! Walks as the laws lead them. -/
namespace Tr
open PySem
def lawLetFn : Fn := ⟨2, 4, [S.asg (Tg.t [Tg.n 2, Tg.n 3]) (E.var 0), S.iff (E.chn Cop.le Cop.lt (cI 0) (E.bin Bop.add (E.var 2) (E.var 1)) (E.bi Bi.len [E.var 3])).not [S.ret (E.con (.bool false))] [], S.ret (E.cmp Cop.isin (E.bin Bop.sub ((E.var 3).idx (E.bin Bop.add (E.var 2) (E.var 1))) ((E.var 3).idx (E.var 2))) (E.tup [nI 1, cI 0, cI 1]))]⟩
def lawStepFn : Fn := ⟨2, 6, [S.asg (Tg.t [Tg.n 2, Tg.n 3]) (E.var 0), S.ret (E.tup [E.bin Bop.add (E.var 2) (E.var 1), E.bi Bi.tuple [(E.bin Bop.add (E.var 5) (E.bi Bi.int [E.cmp Cop.eq (E.var 4) (E.var 2)])).comp (Tg.t [Tg.n 4, Tg.n 5]) (It.en (E.var 3)) none [4, 5] false]])]⟩
def lawStepsFn (ll : Nat) : Fn := ⟨1, 2, [S.ret ((E.var 1).comp (Tg.n 1) (It.li (E.tup [nI 1, cI 1])) (some (E.call ll [E.var 0, E.var 1])) [1] false)]⟩
def walkFn (dr st pk sp : Nat) : Fn := ⟨3, 7, [S.asg (Tg.n 3) (E.tup []), S.for (Tg.n 4) (It.rg1 (E.call dr [E.var 0, E.bin Bop.add (E.var 2) (cI 1)])) [S.asg (Tg.n 5) (E.call st [E.var 1]), S.iff (E.cmp Cop.ne (E.var 5) (E.lst [])) [S.asg (Tg.n 6) (E.call pk [E.var 0, E.var 5]), S.par [3, 1] [E.bin Bop.add (E.var 3) (E.tup [E.var 6]), E.call sp [E.var 1, E.var 6]]] []], S.ret (E.tup [E.var 3, E.var 1])]⟩
theorem lawLet_run (G : Fs) {p : Int} {hs : List Int} {s : Int} (h : IsSt p hs) : runF G lawLetFn [.fz (sD p hs), .fz (.int s)] = some (.fz (.bool (letB p hs s)), [.fz (sD p hs), .fz (.int s)]) := by
  obtain ⟨h1, h2, h3⟩ := h
  have e1 := idx_tup h2 h3
  have z3 : okSz 3 = true := by decide
  simp only [sD, tI']
  by_cases c : 0 ≤ p + s ∧ p + s < hs.length
  · have e2 := idx_tup c.1 c.2
    have e3 : ∀ x : Int, cmpD .isin (.int x) (.tuple [.int (-1), .int 0, .int 1]) = some (decide (x ≤ 1) && decide (-1 ≤ x)) := fun x => by
      have : inD (.int x) [.int (-1), .int 0, .int 1] = (decide (x ≤ 1) && decide (-1 ≤ x)) := by
        simp only [inD, List.any_cons, List.any_nil, PyData.eqv, Bool.or_false]
        rw [Bool.eq_iff_iff]
        simp
        omega
      rw [← this]
      rfl
    simp [runF, lawLetFn, letB, e1, e2, c.1, c.2, z3, e3]
  · by_cases c0 : 0 ≤ p + s
    · have c1 : ¬ (p + s < hs.length) := fun z => c ⟨c0, z⟩
      simp [runF, lawLetFn, letB, c0, c1]
    · simp [runF, lawLetFn, letB, c0]
theorem pairs_enum : ∀ (hs : List Int) (k : Nat), pairs ((List.range' k hs.length).map fun (i : Nat) => PyData.int (i : Int)) (hs.map .int) = (hs.zipIdx k).map fun x => .tuple [.int (x.2 : Nat), .int x.1]
  | [], _ => rfl
  | h :: hs, k => by
    rw [List.length_cons, List.range'_succ, List.map_cons, List.map_cons]
    unfold pairs
    rw [pairs_enum hs (k + 1), List.zipIdx_cons, List.map_cons]
theorem enum_ints (hs : List Int) : enumD (hs.map .int) = hs.zipIdx.map fun x => .tuple [.int (x.2 : Nat), .int x.1] := by
  unfold enumD
  rw [List.length_map, List.range_eq_range']
  exact pairs_enum hs 0
theorem raise_zip {p : Int} : ∀ (hs : List Int) (k : Nat), (k : Int) ≤ p → p < k + hs.length → (hs.zipIdx k).map (fun x => x.1 + if ((x.2 : Nat) : Int) = p then 1 else 0) = hs.set (p - k).toNat (hs.getD (p - k).toNat 0 + 1)
  | [], k, h1, h2 => by simp at h2; omega
  | h :: hs, k, h1, h2 => by
    rw [List.zipIdx_cons, List.map_cons]
    by_cases e : (k : Int) = p
    · have : (p - k).toNat = 0 := by omega
      rw [this, List.set_cons_zero]
      simp only [e, if_true, List.getD_cons_zero]
      congr 1
      have tail : ∀ (l : List Int) (j : Nat), p < j → (l.zipIdx j).map (fun x => x.1 + if ((x.2 : Nat) : Int) = p then 1 else 0) = l := by
        intro l
        induction l with
        | nil => intro j _; rfl
        | cons a l ih =>
          intro j hj
          rw [List.zipIdx_cons, List.map_cons, ih (j + 1) (by omega)]
          have : ¬ ((j : Nat) : Int) = p := by omega
          simp [this]
      exact tail hs (k + 1) (by omega)
    · have h2' : p < ((k + 1 : Nat) : Int) + hs.length := by simp only [List.length_cons] at h2; omega
      rw [raise_zip hs (k + 1) (by omega) h2']
      have : (p - (k : Int)).toNat = (p - ((k + 1 : Nat) : Int)).toNat + 1 := by omega
      rw [this, List.set_cons_succ, List.getD_cons_succ, if_neg e]
      simp
theorem lawStep_run (G : Fs) {p : Int} {hs : List Int} {s : Int} (h : IsSt p hs) : runF G lawStepFn [.fz (sD p hs), .fz (.int s)] = some (.fz (sD (p + s) (raiseH hs p)), [.fz (sD p hs), .fz (.int s)]) := by
  obtain ⟨⟨h1, h5, h6⟩, h2, h3⟩ := h
  have ec : ev G ((E.bin Bop.add (E.var 5) (E.bi Bi.int [E.cmp Cop.eq (E.var 4) (E.var 2)])).comp (Tg.t [Tg.n 4, Tg.n 5]) (It.en (E.var 3)) none [4, 5] false) [some (.fz (.tuple [.int p, .tuple (hs.map .int)])), some (.fz (.int s)), some (.fz (.int p)), some (.fz (.tuple (hs.map .int))), none, none] = some (.st (.ol (hs.zipIdx.map fun x => .int (x.1 + if ((x.2 : Nat) : Int) = p then 1 else 0))), [some (.fz (.tuple [.int p, .tuple (hs.map .int)])), some (.fz (.int s)), some (.fz (.int p)), some (.fz (.tuple (hs.map .int))), none, none]) := by
    refine ev_comp_map hs.zipIdx (fun x => .tuple [.int (x.2 : Nat), .int x.1]) (fun x => .int (x.1 + if ((x.2 : Nat) : Int) = p then 1 else 0)) ?_ (fun x hx => ?_) (by rw [List.length_zipIdx]; omega)
    · simp [enum_ints]
    · simp [turn0, wipeF, wipeP]
  have er : (hs.zipIdx.map fun x => PyData.int (x.1 + if ((x.2 : Nat) : Int) = p then 1 else 0)) = (raiseH hs p).map .int := by
    have := raise_zip (p := p) hs 0 (by omega) (by omega)
    unfold raiseH at'
    have e0 : (p - ((0 : Nat) : Int)).toNat = p.toNat := by omega
    rw [e0] at this
    rw [← this, List.map_map]
    rfl
  have z2 : okSz 2 = true := by decide
  rw [er] at ec
  simp only [sD, tI']
  simp [runF, lawStepFn, ec, z2]
theorem lawSteps_run {G : Fs} {ll : Nat} (hl : PLet G ll) {p : Int} {hs : List Int} (h : IsSt p hs) : runF G (lawStepsFn ll) [.fz (sD p hs)] = some (.ol ((lets p hs).map .int), [.fz (sD p hs)]) := by
  have z2 : okSz 2 = true := by decide
  have ec : ev G ((E.var 1).comp (Tg.n 1) (It.li (E.tup [nI 1, cI 1])) (some (E.call ll [E.var 0, E.var 1])) [1] false) [some (.fz (sD p hs)), none] = some (.st (.ol (([-1, 1].filter (letB p hs)).map .int)), [some (.fz (sD p hs)), none]) := by
    refine ev_comp_filter ([-1, 1] : List Int) .int .int (letB p hs) (by simp [z2]) (fun n _ => ?_) (by decide)
    have e1 := hl p hs n h
    simp only [sD, tI'] at *
    cases hb : letB p hs n <;> simp [turn0, wipeF, wipeP, e1, hb]
  simp only [sD, tI', lets] at *
  simp [runF, lawStepsFn, ec]
/-! ### walks -/
def IsWalk (p : Int) (hs : List Int) : List Int → Prop
  | [] => True
  | s :: ws => IsStp s ∧ letB p hs s = true ∧ IsWalk (p + s) (raiseH hs p) ws
def wEnd (p : Int) (hs : List Int) : List Int → Int × List Int
  | [] => (p, hs)
  | s :: ws => wEnd (p + s) (raiseH hs p) ws
theorem walk_snoc : ∀ {ws : List Int} {p : Int} {hs : List Int} {s : Int}, IsWalk p hs ws → IsStp s → letB (wEnd p hs ws).1 (wEnd p hs ws).2 s = true → IsWalk p hs (ws ++ [s]) ∧ wEnd p hs (ws ++ [s]) = ((wEnd p hs ws).1 + s, raiseH (wEnd p hs ws).2 (wEnd p hs ws).1)
  | [], p, hs, s, _, h1, h2 => ⟨⟨h1, h2, trivial⟩, rfl⟩
  | t :: ws, p, hs, s, ⟨q1, q2, q3⟩, h1, h2 => by
    obtain ⟨r1, r2⟩ := walk_snoc q3 h1 h2
    exact ⟨⟨q1, q2, r1⟩, r2⟩
theorem walk_end : ∀ {ws : List Int} {p : Int} {hs : List Int}, IsSt p hs → IsWalk p hs ws → IsSt (wEnd p hs ws).1 (wEnd p hs ws).2
  | [], _, _, h, _ => h
  | s :: ws, p, hs, h, ⟨_, q2, q3⟩ => walk_end (ws := ws) (p := p + s) (hs := raiseH hs p) (h.step q2) q3
def Hi (hs : List Int) (m : Int) : Prop := ∀ h ∈ hs, h ≤ m
theorem Hi.raise {hs : List Int} {m p : Int} (h : Hi hs m) (h0 : 0 ≤ p) (h1 : p < hs.length) : Hi (raiseH hs p) (m + 1) := by
  intro x hx
  unfold raiseH at hx
  rcases List.mem_or_eq_of_mem_set hx with hx | rfl
  · have := h x hx; omega
  · have : p.toNat < hs.length := by omega
    have hm : at' hs p ∈ hs := by
      unfold at'
      rw [List.getD_eq_getElem?_getD, List.getElem?_eq_getElem this]
      exact List.getElem_mem _
    have := h _ hm
    omega
theorem lets_stp {p : Int} {hs : List Int} {s : Int} (h : s ∈ lets p hs) : IsStp s ∧ letB p hs s = true := by
  unfold lets at h
  rw [List.mem_filter] at h
  refine ⟨?_, h.2⟩
  have := h.1
  simp at this
  exact this
def PLawSteps (G : Fs) (f : Nat) : Prop := ∀ p hs, IsSt p hs → G f [.fz (sD p hs)] = some (.ol ((lets p hs).map .int), [.fz (sD p hs)])
theorem eqv_nilL (xs : List D) : PyData.eqv (.list xs) (.list []) = xs.isEmpty := by
  cases xs <;> simp [PyData.eqv, PyData.eqvAll]
theorem shaped_ints (ns : List Int) : SeqAt.shaped (.list (ns.map .int)) = true := by
  unfold SeqAt.shaped
  rw [Bool.and_eq_true]
  refine ⟨?_, ?_⟩
  · show PyData.canLayAll0 (ns.map .int) = true
    induction ns with
    | nil => rfl
    | cons n ns ih =>
      rw [List.map_cons]
      show (true && PyData.canLayAll0 (ns.map .int)) = true
      rw [ih]; rfl
  · refine decide_eq_true ?_
    show PyData.depthAll (ns.map .int) + 1 ≤ 64
    rw [depthL_ints]
    omega
theorem ne_nil (ns : List Int) : cmpD .ne (.list (ns.map .int)) (.list []) = some (!ns.isEmpty) := by
  have h1 := shaped_ints ns
  have h2 := shaped_ints []
  show (if okEq (.list (ns.map .int)) (.list []) = true then some (!PyData.eqv (.list (ns.map .int)) (.list [])) else none) = _
  rw [if_pos (by unfold okEq; rw [h1]; exact h2), eqv_nilL]
  cases ns <;> rfl
theorem walk_run {G : Fs} {dr st pk sp : Nat} (hd : PDraw G dr) (hst : PLawSteps G st) (hp : PPick G pk) (hsp : PStepBy G sp) {x : Vl} {p : Int} {hs : List Int} {most : Int} (hx : IsPen x) (h : IsSt p hs) (h0 : 0 ≤ most) (h1 : most ≤ 1000) :
    ∃ (ws : List Int) (x' : Vl), runF G (walkFn dr st pk sp) [x, .fz (sD p hs), .fz (.int most)] = some (.fz (.tuple [tI' ws, sD (wEnd p hs ws).1 (wEnd p hs ws).2]), [x', .fz (sD p hs), .fz (.int most)]) ∧ IsWalk p hs ws ∧ (ws.length : Int) ≤ most ∧ IsPen x' := by
  obtain ⟨n, x1, e1, n0, n1, hx1⟩ := hd x (most + 1) hx (by omega) (by omega)
  let I : Nat → Fm → Prop := fun k fr => ∃ (y : Vl) (ws : List Int) (o4 o5 o6 : Option Vl), fr = [some y, some (.fz (sD (wEnd p hs ws).1 (wEnd p hs ws).2)), some (.fz (.int most)), some (.fz (tI' ws)), o4, o5, o6] ∧ IsPen y ∧ IsWalk p hs ws ∧ ws.length ≤ k
  have loop : ∃ g', forN (turnF G [0] (Tg.n 4) [S.asg (Tg.n 5) (E.call st [E.var 1]), S.iff (E.cmp Cop.ne (E.var 5) (E.lst [])) [S.asg (Tg.n 6) (E.call pk [E.var 0, E.var 5]), S.par [3, 1] [E.bin Bop.add (E.var 3) (E.tup [E.var 6]), E.call sp [E.var 1, E.var 6]]] []]) (rangeD 0 n) [some x1, some (.fz (sD p hs)), some (.fz (.int most)), some (.fz (tI' [])), none, none, none] = some (.nx, g') ∧ I (0 + (rangeD 0 n).length) g' := by
    refine forN_ix I ⟨x1, [], none, none, none, rfl, hx1, trivial, Nat.le_refl _⟩ ?_
    rintro i d g hi ⟨y, ws, o4, o5, o6, rfl, hy, hw, hl⟩
    have hil : (i : Int) ≤ most := by
      have := (List.getElem?_eq_some_iff.mp hi).1
      rw [rangeD_length] at this
      omega
    have hst' := walk_end h hw
    generalize hq : wEnd p hs ws = q at *
    obtain ⟨q1, q2⟩ := q
    have e2 := hst q1 q2 hst'
    have e3 := ne_nil (lets q1 q2)
    have z0 : okSz 0 = true := by decide
    have z1 : okSz 1 = true := by decide
    obtain ⟨a, b, c, rfl, -, -⟩ := id hy
    by_cases hem : lets q1 q2 = []
    · refine ⟨[some (.ol [.int a, .int b, .int c]), some (.fz (sD q1 q2)), some (.fz (.int most)), some (.fz (tI' ws)), some (.fz d), some (.ol []), o6], ?_, ⟨_, ws, _, _, _, by rw [hq], hy, hw, by omega⟩⟩
      rw [hem] at e2 e3
      simp only [sD, tI'] at *
      simp at e2 e3
      simp [turnF, e2, e3, z0]
    · obtain ⟨v, y2, e4, hv, hy2⟩ := hp (.ol [.int a, .int b, .int c]) (.ol ((lets q1 q2).map .int)) _ hy (.inl rfl) (by rw [List.length_map]; exact List.length_pos_iff.mpr hem) (by
        rw [List.length_map]
        have : (lets q1 q2).length ≤ 2 := List.length_filter_le _ _
        omega)
      obtain ⟨s, hs', rfl⟩ := List.mem_map.mp hv
      obtain ⟨st1, st2⟩ := lets_stp hs'
      have e5 := hsp q1 q2 s hst'
      obtain ⟨a2, b2, c2, rfl, -, -⟩ := id hy2
      have sn := walk_snoc hw st1 (by rw [hq]; exact st2)
      rw [hq] at sn
      have zl : okSz (ws.length + 1) = true := okSz_ok (by omega)
      have e6 : (!(lets q1 q2).isEmpty) = true := by
        cases hc : lets q1 q2 with
        | nil => exact (hem hc).elim
        | cons _ _ => rfl
      rw [e6] at e3
      refine ⟨[some (.ol [.int a2, .int b2, .int c2]), some (.fz (sD (q1 + s) (raiseH q2 q1))), some (.fz (.int most)), some (.fz (tI' (ws ++ [s]))), some (.fz d), some (.ol ((lets q1 q2).map .int)), some (.fz (.int s))], ?_, ⟨_, ws ++ [s], _, _, _, by rw [sn.2], hy2, sn.1, by simp; omega⟩⟩
      simp only [sD, tI'] at *
      simp [turnF, e2, e3, e4, e5, z0, z1, zl]
  obtain ⟨g', el, y, ws, o4, o5, o6, rfl, hy, hw, hl⟩ := loop
  rw [rangeD_length] at hl
  obtain ⟨a, b, c, rfl, -, -⟩ := id hx
  obtain ⟨a1, b1, c1, rfl, -, -⟩ := id hx1
  obtain ⟨a2, b2, c2, rfl, -, -⟩ := id hy
  have z0 : okSz 0 = true := by decide
  have z2 : okSz 2 = true := by decide
  have sm := small_ok (n := n) n0 (by omega)
  refine ⟨ws, _, ?_, hw, by omega, hy⟩
  simp only [sD, tI', List.map_nil] at *
  simp [runF, walkFn, e1, z0, z2, sm, el]
end Tr

set_option Elab.async false
set_option linter.all false
set_option maxRecDepth 100000
set_option maxHeartbeats 4000000
/-! k02: the law's own part. -/
namespace Tr
open PySem
def rightFn (sm ss is sp : Nat) : Fn := ⟨1, 9, [S.par [1, 2] [E.bi Bi.repr [E.var 0], E.lst []], S.asg (Tg.t [Tg.n 3, Tg.n 4]) (E.var 0), S.for (Tg.n 5) (It.li (E.tup [nI 1, cI 1])) [S.asg (Tg.n 6) (E.bin Bop.add (E.var 3) (E.var 5)), S.iff ((E.chn Cop.le Cop.lt (cI 0) (E.var 6) (E.bi Bi.len [E.var 4])).and (E.chn Cop.le Cop.le (E.bin Bop.sub ((E.var 4).idx (E.var 6)) (cI 1)) ((E.var 4).idx (E.var 3)) (E.bin Bop.add ((E.var 4).idx (E.var 6)) (cI 1)))) [S.app 2 (E.var 5)] []], S.iff ((E.call sm [E.lst [E.call ss [E.var 0], E.call ss [E.var 0]], E.lst [E.bi Bi.tuple [E.var 2], E.bi Bi.tuple [E.var 2]]]).not.or ((E.call is [E.var 0]).isc (.bool true) true)) [S.ret (E.con (.bool false))] [], S.for (Tg.n 5) (It.li (E.var 2)) [S.asg (Tg.n 7) (E.bi Bi.list [E.var 4]), S.sidx 7 (E.var 3) (E.bin Bop.add ((E.var 7).idx (E.var 3)) (cI 1)), S.asg (Tg.n 8) (E.tup [E.bin Bop.add (E.var 3) (E.var 5), E.bi Bi.tuple [E.var 7]]), S.iff (E.call sm [E.lst [E.call sp [E.var 0, E.var 5], E.call sp [E.var 0, E.var 5]], E.lst [E.var 8, E.var 8]]).not [S.ret (E.con (.bool false))] []], S.ret (E.cmp Cop.eq (E.bi Bi.repr [E.var 0]) (E.var 1))]⟩
def PSameL (G : Fs) (f : Nat) : Prop := ∀ xs : List D, okShow (.list xs) = true → G f [.ol xs, .ol xs] = some (.fz (.bool true), [.ol xs, .ol xs])
theorem tame_st {p : Int} {hs : List Int} (h : IsSt p hs) (hi : Hi hs 1000000) : tame (sD p hs) = true ∧ cnt (sD p hs) ≤ 1000 ∧ (sD p hs).depth ≤ 2 := by
  obtain ⟨⟨h1, h2, h3⟩, h4, h5⟩ := h
  have t1 := tameL_ints (ns := hs) fun n hn => by
    have a := h3 n hn
    have b := hi n hn
    omega
  have t2 : p.natAbs < 10 ^ 20 := by omega
  refine ⟨?_, ?_, ?_⟩
  · simp only [sD, tI', tame, tameL, t1, decide_eq_true t2]; rfl
  · simp only [sD, tI', cnt, cntL, cntL_ints]; omega
  · simp only [sD, tI', PyData.depth, PyData.depthAll, depthL_ints]; decide
theorem okShow_st {p : Int} {hs : List Int} (h : IsSt p hs) (hi : Hi hs 1000000) : okShow (sD p hs) = true := by
  obtain ⟨a, b, c⟩ := tame_st h hi
  exact okShow_of a (by omega) (by omega)
theorem okShow_two {d : D} (a : tame d = true) (b : cnt d ≤ 1000) (c : d.depth ≤ 2) : okShow (.list [d, d]) = true := by
  refine okShow_of ?_ ?_ ?_
  · simp only [tame, tameL, a]; rfl
  · simp only [cnt, cntL]; omega
  · simp only [PyData.depth, PyData.depthAll]; omega
theorem right_run {G : Fs} {sm ss is sp : Nat} (hsm : PSameL G sm) (hss : PStepsBy G ss) (his : PStand G is) (hsp : PStepped G sp) {p : Int} {hs : List Int} (h : IsSt p hs) (hi : Hi hs 100000) : runF G (rightFn sm ss is sp) [.fz (sD p hs)] = some (.fz (.bool true), [.fz (sD p hs)]) := by
  obtain ⟨⟨h1, h2, h3⟩, h4, h5⟩ := id h
  have hi6 : Hi hs 1000000 := fun x hx => by have := hi x hx; omega
  have sh := okShow_st h hi6
  have e1 := hss p hs h
  have e2 := his p hs h
  have ix := idx_tup h4 h5
  -- the first loop's turn
  have turn1 : ∀ (s : Int) (xs : List D) (o5 o6 : Option Vl), IsStp s → xs.length < 5 → ∃ o6', turnF G [] (Tg.n 5) [S.asg (Tg.n 6) (E.bin Bop.add (E.var 3) (E.var 5)), S.iff ((E.chn Cop.le Cop.lt (cI 0) (E.var 6) (E.bi Bi.len [E.var 4])).and (E.chn Cop.le Cop.le (E.bin Bop.sub ((E.var 4).idx (E.var 6)) (cI 1)) ((E.var 4).idx (E.var 3)) (E.bin Bop.add ((E.var 4).idx (E.var 6)) (cI 1)))) [S.app 2 (E.var 5)] []] (.int s)
      [some (.fz (sD p hs)), some (.fz (.str (sD p hs).shown)), some (.ol xs), some (.fz (.int p)), some (.fz (tI' hs)), o5, o6, none, none] = some (.nx, [some (.fz (sD p hs)), some (.fz (.str (sD p hs).shown)), some (.ol (if letB p hs s then xs ++ [.int s] else xs)), some (.fz (.int p)), some (.fz (tI' hs)), some (.fz (.int s)), o6', none, none]) := by
    intro s xs o5 o6 hs' hxs
    refine ⟨some (.fz (.int (p + s))), ?_⟩
    have zx : xs.length < 16777216 := by omega
    simp only [sD, tI'] at *
    by_cases c : 0 ≤ p + s ∧ p + s < hs.length
    · have ix2 := idx_tup c.1 c.2
      by_cases c2 : at' hs (p + s) - 1 ≤ at' hs p ∧ at' hs p ≤ at' hs (p + s) + 1
      · have hl : letB p hs s = true := by
          unfold letB
          simp only [Bool.and_eq_true, decide_eq_true_eq]
          omega
        simp [turnF, c.1, c.2, ix, ix2, c2.1, c2.2, hl, zx]
      · have hl : letB p hs s = false := by
          unfold letB
          rw [Bool.and_eq_false_iff, Bool.and_eq_false_iff]
          by_cases c3 : at' hs (p + s) - 1 ≤ at' hs p
          · have c4 : ¬ at' hs p ≤ at' hs (p + s) + 1 := fun z => c2 ⟨c3, z⟩
            exact .inr (decide_eq_false (by omega))
          · exact .inl (.inr (decide_eq_false (by omega)))
        by_cases c3 : at' hs (p + s) - 1 ≤ at' hs p
        · have c4 : ¬ at' hs p ≤ at' hs (p + s) + 1 := fun z => c2 ⟨c3, z⟩
          simp [turnF, c.1, c.2, ix, ix2, c3, c4, hl]
        · simp [turnF, c.1, c.2, ix, ix2, c3, hl]
    · have hl : letB p hs s = false := by
        unfold letB
        by_cases c0 : 0 ≤ p + s
        · have c1 : ¬ (p + s < hs.length) := fun z => c ⟨c0, z⟩
          simp [c1]
        · simp [c0]
      by_cases c0 : 0 ≤ p + s
      · have c1 : ¬ (p + s < hs.length) := fun z => c ⟨c0, z⟩
        simp [turnF, c0, c1, hl]
      · simp [turnF, c0, hl]
  obtain ⟨o6a, t1⟩ := turn1 (-1) [] none none (.inl rfl) (by decide)
  obtain ⟨o6b, t2⟩ := turn1 1 (if letB p hs (-1) then [] ++ [.int (-1)] else []) (some (.fz (.int (-1)))) o6a (.inr rfl) (by split <;> decide)
  have el : (if letB p hs 1 then (if letB p hs (-1) then [] ++ [PyData.int (-1)] else []) ++ [.int 1] else (if letB p hs (-1) then [] ++ [PyData.int (-1)] else [])) = (lets p hs).map .int := by
    unfold lets
    cases ha : letB p hs (-1) <;> cases hb : letB p hs 1 <;> simp [ha, hb]
  rw [el] at t2
  have loop1 : forN (turnF G [] (Tg.n 5) [S.asg (Tg.n 6) (E.bin Bop.add (E.var 3) (E.var 5)), S.iff ((E.chn Cop.le Cop.lt (cI 0) (E.var 6) (E.bi Bi.len [E.var 4])).and (E.chn Cop.le Cop.le (E.bin Bop.sub ((E.var 4).idx (E.var 6)) (cI 1)) ((E.var 4).idx (E.var 3)) (E.bin Bop.add ((E.var 4).idx (E.var 6)) (cI 1)))) [S.app 2 (E.var 5)] []]) [.int (-1), .int 1]
      [some (.fz (sD p hs)), some (.fz (.str (sD p hs).shown)), some (.ol []), some (.fz (.int p)), some (.fz (tI' hs)), none, none, none, none] = some (.nx, [some (.fz (sD p hs)), some (.fz (.str (sD p hs).shown)), some (.ol ((lets p hs).map .int)), some (.fz (.int p)), some (.fz (tI' hs)), some (.fz (.int 1)), o6b, none, none]) := by
    unfold forN
    rw [t1]
    show forN _ [PyData.int 1] _ = _
    unfold forN
    rw [t2]
    rfl
  -- both answers the same
  have ln : (lets p hs).length ≤ 2 := List.length_filter_le _ _
  have tl : tame (tI' (lets p hs)) = true ∧ cnt (tI' (lets p hs)) ≤ 1000 ∧ (tI' (lets p hs)).depth ≤ 2 := by
    refine ⟨?_, ?_, ?_⟩
    · show tameL _ = true
      exact tameL_ints fun n hn => by
        rcases (lets_stp hn).1 with rfl | rfl <;> decide
    · simp only [tI', cnt, cntL_ints]; omega
    · simp only [tI', PyData.depth, depthL_ints]; decide
  have s1 := hsm [tI' (lets p hs), tI' (lets p hs)] (okShow_two tl.1 tl.2.1 tl.2.2)
  -- the second loop
  let I : Fm → Prop := fun fr => ∃ o5 o7 o8 : Option Vl, fr = [some (.fz (sD p hs)), some (.fz (.str (sD p hs).shown)), some (.fz (.list ((lets p hs).map .int))), some (.fz (.int p)), some (.fz (tI' hs)), o5, o6b, o7, o8]
  have loop2 : ∃ g', forN (turnF G [] (Tg.n 5) [S.asg (Tg.n 7) (E.bi Bi.list [E.var 4]), S.sidx 7 (E.var 3) (E.bin Bop.add ((E.var 7).idx (E.var 3)) (cI 1)), S.asg (Tg.n 8) (E.tup [E.bin Bop.add (E.var 3) (E.var 5), E.bi Bi.tuple [E.var 7]]), S.iff (E.call sm [E.lst [E.call sp [E.var 0, E.var 5], E.call sp [E.var 0, E.var 5]], E.lst [E.var 8, E.var 8]]).not [S.ret (E.con (.bool false))] []]) ((lets p hs).map .int)
      [some (.fz (sD p hs)), some (.fz (.str (sD p hs).shown)), some (.fz (.list ((lets p hs).map .int))), some (.fz (.int p)), some (.fz (tI' hs)), some (.fz (.int 1)), o6b, none, none] = some (.nx, g') ∧ I g' := by
    refine forN_inv I ⟨_, _, _, rfl⟩ ?_
    rintro d g ⟨o5, o7, o8, rfl⟩ hd
    obtain ⟨s, hs', rfl⟩ := List.mem_map.mp hd
    obtain ⟨st1, st2⟩ := lets_stp hs'
    have e3 := hsp p hs s h st1 st2
    have hstep := h.step st2
    have hi7 : Hi (raiseH hs p) 1000000 := fun x hx => by have := (hi.raise h4 h5) x hx; omega
    obtain ⟨a, b, c⟩ := tame_st hstep hi7
    have s2 := hsm [sD (p + s) (raiseH hs p), sD (p + s) (raiseH hs p)] (okShow_two a b c)
    have ixl := idx_lst h4 h5
    have pl : placeD hs.length p = some p.toNat := place_ok h4 h5
    have st : (hs.map PyData.int).set p.toNat (.int (at' hs p + 1)) = (raiseH hs p).map .int := by
      unfold raiseH
      rw [List.map_set]
    have z2 : okSz 2 = true := by decide
    refine ⟨_, ?_, ⟨some (.fz (.int s)), some (.ol ((raiseH hs p).map .int)), some (.fz (sD (p + s) (raiseH hs p))), rfl⟩⟩
    simp only [sD, tI'] at *
    simp [turnF, ixl, pl, st, z2, e3, s2]
  obtain ⟨g', el2, o5, o7, o8, rfl⟩ := loop2
  have z0 : okSz 0 = true := by decide
  have z2 : okSz 2 = true := by decide
  simp only [sD, tI'] at *
  simp [runF, rightFn, sh, z0, z2, loop1, e1, s1, e2, el2]
def lawFn (ce pe dr st wk sp rt : Nat) : Fn := ⟨1, 7, [S.for (Tg.n 1) (It.rg1 (E.bi Bi.max [cI 1, E.bi Bi.min [E.bi Bi.len [E.var 0], cI 4]])) [S.asg (Tg.n 2) (E.call pe [E.call ce [E.var 0, E.var 1]]), S.for (Tg.n 3) (It.rg1 (cI 6)) [S.asg (Tg.n 4) (E.call st [E.var 2, cI 5, cI 5]), S.iff (E.bi Bi.all [(E.call rt [E.tup [E.var 5, (E.var 4).idx (cI 1)]]).comp (Tg.n 5) (It.rg1 (E.bi Bi.len [(E.var 4).idx (cI 1)])) none [5] false]).not [S.ret (E.con (.bool false))] [], S.for (Tg.n 6) (It.li ((E.call wk [E.var 2, E.var 4, cI 40]).idx (cI 0))) [S.asg (Tg.n 4) (E.call sp [E.var 4, E.var 6])], S.iff (E.call rt [E.var 4]).not [S.ret (E.con (.bool false))] []]], S.ret (E.con (.bool true))]⟩
def PStandDraw (G : Fs) (f : Nat) : Prop := ∀ (x : Vl) (most high : Int), IsPen x → 2 ≤ most → most ≤ 5 → 0 ≤ high → high ≤ 1000000 → ∃ (p : Int) (hs : List Int) (x' : Vl), G f [x, .fz (.int most), .fz (.int high)] = some (.fz (sD p hs), [x', .fz (.int most), .fz (.int high)]) ∧ IsSt p hs ∧ (∀ h ∈ hs, h ≤ high) ∧ (hs.length : Int) ≤ most ∧ IsPen x'
def PWalk (G : Fs) (f : Nat) : Prop := ∀ (x : Vl) (p : Int) (hs : List Int) (most : Int), IsPen x → IsSt p hs → 0 ≤ most → most ≤ 1000 → ∃ (ws : List Int) (x' : Vl), G f [x, .fz (sD p hs), .fz (.int most)] = some (.fz (.tuple [tI' ws, sD (wEnd p hs ws).1 (wEnd p hs ws).2]), [x', .fz (sD p hs), .fz (.int most)]) ∧ IsWalk p hs ws ∧ (ws.length : Int) ≤ most ∧ IsPen x'
def PRight (G : Fs) (f : Nat) : Prop := ∀ p hs, IsSt p hs → Hi hs 100000 → G f [.fz (sD p hs)] = some (.fz (.bool true), [.fz (sD p hs)])
theorem mem_range {n : Int} {d : D} (h : d ∈ rangeD 0 n) : ∃ i : Int, d = .int i ∧ 0 ≤ i ∧ i < n := by
  unfold rangeD at h
  obtain ⟨i, hi, rfl⟩ := List.mem_map.mp h
  rw [List.mem_range] at hi
  exact ⟨_, rfl, by omega, by omega⟩
theorem its_rg1_of {G : Fs} {e : E} {fr fr' : Fm} {n : Int} (h : ev G e fr = some (.st (.fz (.int n)), fr')) (hs : smallI n = true) : its G (.rg1 e) fr = some (rangeD 0 n, fr') := by
  rw [its_rg1, h]
  show (if smallI n = true then some (rangeD 0 n, fr') else none) = _
  rw [if_pos hs]
theorem rangeD_nat (n : Nat) : rangeD 0 (n : Int) = (List.range n).map fun (i : Nat) => PyData.int (i : Int) := by
  unfold rangeD
  rw [Int.sub_zero, Int.toNat_natCast]
  refine List.map_congr_left fun i _ => ?_
  rw [Int.zero_add]
theorem all_true' (hs : List Int) : ((List.range hs.length).map fun _ => true).all id = true := by simp
theorem law_run {G : Fs} {ce pe dr st wk sp rt : Nat} (hce : PCell G ce) (hpe : PPen G pe) (hst : PStandDraw G st) (hwk : PWalk G wk) (hsp : PStepped G sp) (hrt : PRight G rt) (ns : List Int) : ∃ ps, runF G (lawFn ce pe dr st wk sp rt) [.scr ns] = some (.fz (.bool true), ps) := by
  let inner : List S := [S.asg (Tg.n 4) (E.call st [E.var 2, cI 5, cI 5]), S.iff (E.bi Bi.all [(E.call rt [E.tup [E.var 5, (E.var 4).idx (cI 1)]]).comp (Tg.n 5) (It.rg1 (E.bi Bi.len [(E.var 4).idx (cI 1)])) none [5] false]).not [S.ret (E.con (.bool false))] [], S.for (Tg.n 6) (It.li ((E.call wk [E.var 2, E.var 4, cI 40]).idx (cI 0))) [S.asg (Tg.n 4) (E.call sp [E.var 4, E.var 6])], S.iff (E.call rt [E.var 4]).not [S.ret (E.con (.bool false))] []]
  have z2 : okSz 2 = true := by decide
  have innerTurn : ∀ (d : D) (y : Vl) (o1 o3 o4 o5 o6 : Option Vl), IsPen y → ∃ (y' : Vl) (o3' o4' o5' o6' : Option Vl), turnF G [] (Tg.n 3) inner d [some (.scr ns), o1, some y, o3, o4, o5, o6] = some (.nx, [some (.scr ns), o1, some y', o3', o4', o5', o6']) ∧ IsPen y' := by
    intro d y o1 o3 o4 o5 o6 hy
    obtain ⟨p, hs, y1, e1, h, hh, hl, hy1⟩ := hst y 5 5 hy (by decide) (by decide) (by decide) (by decide)
    obtain ⟨ws, y2, e2, hw, hwl, hy2⟩ := hwk y1 p hs 40 hy1 h (by decide) (by decide)
    obtain ⟨a, b, c, rfl, -, -⟩ := id hy
    obtain ⟨a1, b1, c1, rfl, -, -⟩ := id hy1
    obtain ⟨a2, b2, c2, rfl, -, -⟩ := id hy2
    have hi : Hi hs 5 := hh
    have ec : ev G ((E.call rt [E.tup [E.var 5, (E.var 4).idx (cI 1)]]).comp (Tg.n 5) (It.rg1 (E.bi Bi.len [(E.var 4).idx (cI 1)])) none [5] false) [some (.scr ns), o1, some (.ol [.int a1, .int b1, .int c1]), some (.fz d), some (.fz (sD p hs)), o5, o6] = some (.st (.ol ((List.range hs.length).map fun _ => .bool true)), [some (.scr ns), o1, some (.ol [.int a1, .int b1, .int c1]), some (.fz d), some (.fz (sD p hs)), o5, o6]) := by
      have hlen : (List.range hs.length).length ≤ 16777216 := by rw [List.length_range]; have := h.1.2.1; omega
      refine ev_comp_map (List.range hs.length) (fun (i : Nat) => .int (i : Int)) (fun _ => .bool true) ?_ (fun i hi' => ?_) hlen
      · have sm := small_ok (n := (hs.length : Int)) (by omega) (by have := h.1.2.1; omega)
        have e9 := rangeD_nat hs.length
        rw [← e9]
        exact its_rg1_of (by simp [sD, tI']) sm
      · rw [List.mem_range] at hi'
        have hq : IsSt (i : Int) hs := ⟨h.1, by omega, by omega⟩
        have e3 := hrt (i : Int) hs hq (fun x hx => by have := hi x hx; omega)
        simp only [sD, tI'] at *
        simp [turn0, wipeF, wipeP, z2, e3]
    have eb := bools_map (fun _ : Nat => true) (List.range hs.length)
    have ea := all_true' hs
    let I3 : Nat → Fm → Prop := fun k fr => ∃ (q : Int) (hs' : List Int) (x6 : Option Vl), fr = [some (.scr ns), o1, some (.ol [.int a2, .int b2, .int c2]), some (.fz d), some (.fz (sD q hs')), o5, x6] ∧ IsSt q hs' ∧ IsWalk q hs' (ws.drop k) ∧ Hi hs' (5 + k)
    have loop : ∃ g', forN (turnF G [] (Tg.n 6) [S.asg (Tg.n 4) (E.call sp [E.var 4, E.var 6])]) (ws.map .int) [some (.scr ns), o1, some (.ol [.int a2, .int b2, .int c2]), some (.fz d), some (.fz (sD p hs)), o5, o6] = some (.nx, g') ∧ I3 (0 + (ws.map PyData.int).length) g' := by
      refine forN_ix I3 ⟨p, hs, o6, rfl, h, hw, hi⟩ ?_
      rintro i d' g hd ⟨q, hs', x6, rfl, hq, hwq, hiq⟩
      rw [Nat.zero_add] at hwq
      rw [List.getElem?_map] at hd
      obtain ⟨s, hs1, rfl⟩ := Option.map_eq_some_iff.mp hd
      have hil := (List.getElem?_eq_some_iff.mp hs1).1
      have hdrop : ws.drop i = s :: ws.drop (i + 1) := by
        rw [List.drop_eq_getElem_cons hil]
        rw [List.getElem?_eq_getElem hil] at hs1
        rw [Option.some.inj hs1]
      rw [hdrop] at hwq
      obtain ⟨w1, w2, w3⟩ := hwq
      have e4 := hsp q hs' s hq w1 w2
      refine ⟨_, ?_, ⟨q + s, raiseH hs' q, some (.fz (.int s)), rfl, hq.step w2, by rw [Nat.zero_add]; exact w3, fun x hx => ?_⟩⟩
      · simp only [sD, tI'] at *
        simp [turnF, e4]
      · have := (hiq.raise hq.2.1 hq.2.2) x hx
        push_cast at *
        omega
    obtain ⟨g', el, q, hs', x6, rfl, hq, -, hiq⟩ := loop
    have e5 := hrt q hs' hq (fun x hx => by
      have := hiq x hx
      rw [Nat.zero_add, List.length_map] at this
      omega)
    refine ⟨.ol [.int a2, .int b2, .int c2], some (.fz d), some (.fz (sD q hs')), o5, x6, ?_, hy2⟩
    simp only [sD, tI'] at *
    simp [turnF, inner, e1, ec, eb, e2, el, e5]
  let J : Fm → Prop := fun fr => ∃ (y : Vl) (o1 o3 o4 o5 o6 : Option Vl), fr = [some (.scr ns), o1, some y, o3, o4, o5, o6] ∧ IsPen y
  let I : Fm → Prop := fun fr => ∃ (o1 o2 o3 o4 o5 o6 : Option Vl), fr = [some (.scr ns), o1, o2, o3, o4, o5, o6]
  let n : Int := if (if 4 < (ns.length : Int) then 4 else (ns.length : Int)) > 1 then (if 4 < (ns.length : Int) then 4 else (ns.length : Int)) else 1
  have loop : ∃ g', forN (turnF G [] (Tg.n 1) [S.asg (Tg.n 2) (E.call pe [E.call ce [E.var 0, E.var 1]]), S.for (Tg.n 3) (It.rg1 (cI 6)) inner]) (rangeD 0 n) [some (.scr ns), none, none, none, none, none, none] = some (.nx, g') ∧ I g' := by
    refine forN_inv I ⟨_, _, _, _, _, _, rfl⟩ ?_
    rintro d g ⟨o1, o2, o3, o4, o5, o6, rfl⟩ hd
    obtain ⟨i, rfl, i0, -⟩ := mem_range hd
    obtain ⟨v, e1⟩ := hce ns i i0
    obtain ⟨y, e2, hy⟩ := hpe v
    have lp : ∃ g', forN (turnF G [] (Tg.n 3) inner) (rangeD 0 6) [some (.scr ns), some (.fz (.int i)), some y, o3, o4, o5, o6] = some (.nx, g') ∧ J g' := by
      refine forN_inv J ⟨_, _, _, _, _, _, rfl, hy⟩ ?_
      rintro d g ⟨y, o1, o3, o4, o5, o6, rfl, hy⟩ -
      obtain ⟨y', a3, a4, a5, a6, et, hy'⟩ := innerTurn d y o1 o3 o4 o5 o6 hy
      exact ⟨_, et, ⟨_, _, _, _, _, _, rfl, hy'⟩⟩
    obtain ⟨g', el, y', b1, b3, b4, b5, b6, rfl, -⟩ := lp
    obtain ⟨a, b, c, rfl, -, -⟩ := id hy
    have sm : smallI 6 = true := by decide
    refine ⟨_, ?_, ⟨b1, some y', b3, b4, b5, b6, rfl⟩⟩
    simp [turnF, e1, e2, sm, el]
  obtain ⟨g', el, o1, o2, o3, o4, o5, o6, rfl⟩ := loop
  have sm : smallI n = true := small_ok (by simp only [n]; split <;> (try split) <;> omega) (by simp only [n]; split <;> (try split) <;> omega)
  refine ⟨[.scr ns], ?_⟩
  have en : (if (if 4 < (ns.length : Int) then 4 else (ns.length : Int)) > 1 then (if 4 < (ns.length : Int) then 4 else (ns.length : Int)) else 1) = n := rfl
  clear_value n
  have en' : (if 1 < (if 4 < (ns.length : Int) then 4 else (ns.length : Int)) then (if 4 < (ns.length : Int) then 4 else (ns.length : Int)) else 1) = n := en
  simp [runF, lawFn, en', sm, el, inner]
end Tr

set_option Elab.async false
set_option linter.all false
set_option maxRecDepth 100000
set_option maxHeartbeats 4000000
/-! k28: stands ahead. -/
namespace Tr
open PySem
def backFn (il : Nat) : Fn := ⟨2, 6, [S.asg (Tg.t [Tg.n 2, Tg.n 3]) (E.var 0), S.asg (Tg.n 4) (E.bin Bop.sub (E.var 2) (E.var 1)), S.iff ((E.chn Cop.le Cop.lt (cI 0) (E.var 4) (E.bi Bi.len [E.var 3])).not.or (E.cmp Cop.eq ((E.var 3).idx (E.var 4)) (cI 0))) [S.ret (E.con .none)] [], S.asg (Tg.n 5) (E.tup [E.var 4, E.bin Bop.add (E.bin Bop.add ((E.var 3).slc none (some (E.var 4)) false) (E.tup [E.bin Bop.sub ((E.var 3).idx (E.var 4)) (cI 1)])) ((E.var 3).slc (some (E.bin Bop.add (E.var 4) (cI 1))) none false)]), S.ret ((E.call il [E.var 5, E.var 1]).ite (E.var 5) (E.con .none))]⟩
/-- one lower at a place -/
def lowH (hs : List Int) (q : Int) : List Int := hs.set q.toNat (at' hs q - 1)
/-- the stand behind which step s leads to (p, hs), if any -/
def backB (p : Int) (hs : List Int) (s : Int) : Bool := decide (0 ≤ p - s) && decide (p - s < hs.length) && decide (1 ≤ at' hs (p - s)) && letB (p - s) (lowH hs (p - s)) s
def backD (p : Int) (hs : List Int) (s : Int) : D := if backB p hs s then sD (p - s) (lowH hs (p - s)) else .none
theorem at_mem {hs : List Int} {q : Int} (h0 : 0 ≤ q) (h1 : q < hs.length) : at' hs q ∈ hs := by
  have : q.toNat < hs.length := by omega
  unfold at'
  rw [List.getD_eq_getElem?_getD, List.getElem?_eq_getElem this]
  exact List.getElem_mem _
theorem low_st {p q : Int} {hs : List Int} (h : IsSt p hs) (h0 : 0 ≤ q) (h1 : q < hs.length) (h2 : 1 ≤ at' hs q) : IsSt q (lowH hs q) := by
  obtain ⟨⟨a1, a2, a3⟩, a4, a5⟩ := h
  have hl : (lowH hs q).length = hs.length := by unfold lowH; rw [List.length_set]
  refine ⟨⟨by omega, by omega, fun x hx => ?_⟩, h0, by omega⟩
  unfold lowH at hx
  rcases List.mem_or_eq_of_mem_set hx with hx | rfl
  · exact a3 x hx
  · omega
theorem low_eq {hs : List Int} {p : Int} (h0 : 0 ≤ p) (h1 : p < hs.length) : (hs.map PyData.int).take p.toNat ++ (.int (at' hs p - 1) :: (hs.map PyData.int).drop (p.toNat + 1)) = (lowH hs p).map .int := by
  unfold lowH
  have : p.toNat < hs.length := by omega
  rw [List.set_eq_take_append_cons_drop, if_pos this]
  simp
def PBack (G : Fs) (f : Nat) : Prop := ∀ p hs s, IsSt p hs → G f [.fz (sD p hs), .fz (.int s)] = some (.fz (backD p hs s), [.fz (sD p hs), .fz (.int s)])
theorem back_run {G : Fs} {il : Nat} (hl : PLet G il) {p : Int} {hs : List Int} {s : Int} (h : IsSt p hs) : runF G (backFn il) [.fz (sD p hs), .fz (.int s)] = some (.fz (backD p hs s), [.fz (sD p hs), .fz (.int s)]) := by
  obtain ⟨⟨h1, h2, h3⟩, h4, h5⟩ := id h
  by_cases c0 : 0 ≤ p - s
  · have c0' : s ≤ p := by omega
    by_cases c1 : p - s < hs.length
    · have e1 := idx_tup c0 c1
      by_cases c2 : at' hs (p - s) = 0
      · have hb : backD p hs s = .none := by
          unfold backD backB
          rw [c2]
          simp
        rw [hb]
        simp only [sD, tI']
        simp [runF, backFn, c0, c0', c1, e1, c2]
      · have hn : 1 ≤ at' hs (p - s) := by
          have := h3 _ (at_mem c0 c1)
          omega
        have e2 := cut_take c0 c1
        have e3 := cut_drop c0 c1
        have e4 := low_eq c0 c1
        have e5 := hl (p - s) (lowH hs (p - s)) s (low_st h c0 c1 hn)
        have z1 : okSz (min (p - s).toNat hs.length + 1) = true := okSz_ok (by omega)
        have z4 : okSz (min (p - s).toNat hs.length + 1 + (hs.length - ((p - s).toNat + 1))) = true := okSz_ok (by omega)
        have z3 : okSz 1 = true := by decide
        have z2 : okSz 2 = true := by decide
        have hb : backD p hs s = if letB (p - s) (lowH hs (p - s)) s then sD (p - s) (lowH hs (p - s)) else .none := by
          unfold backD backB
          simp [c0, c0', c1, hn]
        rw [hb]
        simp only [sD, tI'] at *
        cases hc : letB (p - s) (lowH hs (p - s)) s <;> simp [runF, backFn, c0, c0', c1, e1, c2, e2, e3, e4, e5, z1, z2, z3, z4, hc]
    · have hb : backD p hs s = .none := by unfold backD backB; simp [c1]
      rw [hb]
      simp only [sD, tI']
      simp [runF, backFn, c0, c0', c1]
  · have c0' : ¬ s ≤ p := by omega
    have hb : backD p hs s = .none := by unfold backD backB; simp [c0, c0']
    rw [hb]
    simp only [sD, tI']
    simp [runF, backFn, c0, c0']
end Tr

set_option Elab.async false
set_option linter.all false
set_option maxRecDepth 100000
set_option maxHeartbeats 4000000
/-! k28: the stands ahead, in order. -/
namespace Tr
open PySem
def Bk (p : Int) (hs : List Int) (s : Int) : List D := if backB p hs s then [sD (p - s) (lowH hs (p - s))] else []
def aheadL (p : Int) (hs : List Int) : List D := Bk p hs 1 ++ Bk p hs (-1)
theorem alike_st (p q : Int) (hs hs' : List Int) : PySem.W.alike (sD p hs) (sD q hs') = true := by
  simp [sD, tI', PySem.W.alike, PySem.W.alikeAll, PySem.W.alike_ints]
theorem lt_st {p q : Int} (hs hs' : List Int) (h : p < q) : PySem.W.dataLt (sD p hs) (sD q hs') = true := by
  have n : p ≠ q := by omega
  simp only [sD]
  rw [PySem.W.dataLt_pair (by simp [PySem.W.alike]) (by simp [tI', PySem.W.alike, PySem.W.alike_ints]), PySem.W.dataLt_int]
  simp [PyData.eqv, n, h]
theorem lt_st' {p q : Int} (hs hs' : List Int) (h : p < q) : PySem.W.dataLt (sD q hs') (sD p hs) = false := by
  have n : q ≠ p := by omega
  have g : ¬ q < p := by omega
  simp only [sD]
  rw [PySem.W.dataLt_pair (by simp [PySem.W.alike]) (by simp [tI', PySem.W.alike, PySem.W.alike_ints]), PySem.W.dataLt_int]
  simp [PyData.eqv, n, g]
theorem sort_up {p q : Int} (hs hs' : List Int) (h : p < q) : sortD [sD p hs, sD q hs'] = [sD p hs, sD q hs'] := by
  have a : PySem.W.dataLe false id (sD p hs) (sD q hs') = true := by
    show (!PySem.W.dataLt (sD q hs') (sD p hs)) = true
    rw [lt_st' hs hs' h]; rfl
  unfold sortD
  simp [List.mergeSort, List.merge, List.MergeSort.Internal.splitInTwo, a]
theorem sort_down {p q : Int} (hs hs' : List Int) (h : p < q) : sortD [sD q hs', sD p hs] = [sD p hs, sD q hs'] := by
  have a : PySem.W.dataLe false id (sD q hs') (sD p hs) = false := by
    show (!PySem.W.dataLt (sD p hs) (sD q hs')) = false
    rw [lt_st hs hs' h]; rfl
  unfold sortD
  simp [List.mergeSort, List.merge, List.MergeSort.Internal.splitInTwo, a]
theorem depth_st (p : Int) (hs : List Int) : (sD p hs).depth ≤ 64 := by
  simp only [sD, tI', PyData.depth, PyData.depthAll, depthL_ints]
  decide
theorem okSort_st : ∀ xs : List D, (∀ x ∈ xs, ∃ p hs, x = sD p hs) → xs.length ≤ 2 → okSort xs = true := by
  intro xs h hl
  unfold okSort
  rw [Bool.and_eq_true, Bool.and_eq_true, Bool.and_eq_true]
  refine ⟨⟨⟨?_, ?_⟩, okSz_ok (by omega)⟩, ?_⟩
  · unfold allAlikeB
    rw [List.all_eq_true]
    intro x hx
    rw [List.all_eq_true]
    intro y hy
    obtain ⟨p, hs, rfl⟩ := h x hx
    obtain ⟨q, hs', rfl⟩ := h y hy
    exact alike_st p q hs hs'
  · rw [Bool.or_eq_true]
    left
    rw [List.all_eq_true]
    intro x hx
    obtain ⟨p, hs, rfl⟩ := h x hx
    rfl
  · rw [List.all_eq_true]
    intro x hx
    obtain ⟨p, hs, rfl⟩ := h x hx
    exact decide_eq_true (depth_st p hs)
theorem Bk_is {p : Int} {hs : List Int} {s : Int} : ∀ x ∈ Bk p hs s, ∃ p hs, x = sD p hs := by
  intro x hx
  unfold Bk at hx
  split at hx
  · rw [List.mem_singleton] at hx; exact ⟨_, _, hx⟩
  · exact absurd hx (List.not_mem_nil)
theorem Bk_len {p : Int} {hs : List Int} {s : Int} : (Bk p hs s).length ≤ 1 := by unfold Bk; split <;> simp
theorem sorted_up (p : Int) (hs : List Int) : biD .sorted [.list (aheadL p hs)] = some (.ol (aheadL p hs)) := by
  have ok : okSort (aheadL p hs) = true := okSort_st _ (fun x hx => by
    rcases List.mem_append.mp hx with h | h <;> exact Bk_is x h) (by
    unfold aheadL
    have a := @Bk_len p hs 1
    have b := @Bk_len p hs (-1)
    rw [List.length_append]; omega)
  have es : sortD (aheadL p hs) = aheadL p hs := by
    unfold aheadL Bk
    split <;> split
    · exact sort_up _ _ (by omega)
    all_goals simp [sortD]
  show (if okSort (aheadL p hs) = true then some (Vl.ol (sortD (aheadL p hs))) else none) = _
  rw [if_pos ok, es]
theorem sorted_down (p : Int) (hs : List Int) : biD .sorted [.list (Bk p hs (-1) ++ Bk p hs 1)] = some (.ol (aheadL p hs)) := by
  have ok : okSort (Bk p hs (-1) ++ Bk p hs 1) = true := okSort_st _ (fun x hx => by
    rcases List.mem_append.mp hx with h | h <;> exact Bk_is x h) (by
    have a := @Bk_len p hs 1
    have b := @Bk_len p hs (-1)
    rw [List.length_append]; omega)
  have es : sortD (Bk p hs (-1) ++ Bk p hs 1) = aheadL p hs := by
    unfold aheadL Bk
    split <;> split
    · exact sort_down _ _ (by omega)
    all_goals simp [sortD]
  show (if okSort (Bk p hs (-1) ++ Bk p hs 1) = true then some (Vl.ol (sortD (Bk p hs (-1) ++ Bk p hs 1))) else none) = _
  rw [if_pos ok, es]
def aheadOfFn (bb : Nat) : Fn := ⟨1, 4, [S.asg (Tg.n 1) ((E.call bb [E.var 0, E.var 2]).comp (Tg.n 2) (It.li (E.glb sTup)) none [2] false), S.ret ((E.var 3).comp (Tg.n 3) (It.li (E.var 1)) (some ((E.var 3).isc PyData.none true)) [3] false)]⟩
def PAheadOf (G : Fs) (f : Nat) : Prop := ∀ p hs, IsSt p hs → G f [.fz (sD p hs)] = some (.ol (Bk p hs (-1) ++ Bk p hs 1), [.fz (sD p hs)])
theorem aheadOf_run {G : Fs} {bb : Nat} (hb : PBack G bb) {p : Int} {hs : List Int} (h : IsSt p hs) : runF G (aheadOfFn bb) [.fz (sD p hs)] = some (.ol (Bk p hs (-1) ++ Bk p hs 1), [.fz (sD p hs)]) := by
  have e1 : ev G ((E.call bb [E.var 0, E.var 2]).comp (Tg.n 2) (It.li (E.glb sTup)) none [2] false) [some (.fz (sD p hs)), none, none, none] = some (.st (.ol (([-1, 1] : List Int).map (backD p hs))), [some (.fz (sD p hs)), none, none, none]) := by
    refine ev_comp_map ([-1, 1] : List Int) .int (backD p hs) (by simp [sTup]) (fun n _ => ?_) (by decide)
    have e := hb p hs n h
    simp only [sD, tI'] at *
    simp [turn0, wipeF, wipeP, e]
  have e2 : ev G ((E.var 3).comp (Tg.n 3) (It.li (E.var 1)) (some ((E.var 3).isc PyData.none true)) [3] false) [some (.fz (sD p hs)), some (.ol (([-1, 1] : List Int).map (backD p hs))), none, none] = some (.st (.ol ((([-1, 1] : List Int).filter (backB p hs)).map (backD p hs))), [some (.fz (sD p hs)), some (.fz (.list (([-1, 1] : List Int).map (backD p hs)))), none, none]) := by
    refine ev_comp_filter ([-1, 1] : List Int) (backD p hs) (backD p hs) (backB p hs) (by simp) (fun n _ => ?_) (by decide)
    cases hc : backB p hs n
    · have : backD p hs n = .none := by unfold backD; rw [hc]; rfl
      rw [this]
      simp [turn0, wipeF, wipeP]
    · have : backD p hs n = sD (p - n) (lowH hs (p - n)) := by unfold backD; rw [hc]; rfl
      rw [this]
      simp only [sD, tI'] at *
      simp [turn0, wipeF, wipeP]
  have e3 : (([-1, 1] : List Int).filter (backB p hs)).map (backD p hs) = Bk p hs (-1) ++ Bk p hs 1 := by
    unfold Bk
    cases ha : backB p hs (-1) <;> cases hc : backB p hs 1 <;> simp [backD, ha, hc]
  rw [e3] at e2
  simp only [sD, tI'] at *
  simp [runF, aheadOfFn] at e1 e2 ⊢
  simp [e1, e2]
def aheadFn (ns ao : Nat) : Fn := ⟨1, 1, [S.exp (E.call ns [E.var 0]), S.ret (E.bi Bi.tuple [E.bi Bi.sorted [E.call ao [E.var 0]]])]⟩
def PAhead (G : Fs) (f : Nat) : Prop := ∀ p hs, IsSt p hs → G f [.fz (sD p hs)] = some (.fz (.tuple (aheadL p hs)), [.fz (sD p hs)])
theorem ahead_run {G : Fs} {ns ao : Nat} (hn : PNeed G ns) (ha : PAheadOf G ao) {p : Int} {hs : List Int} (h : IsSt p hs) : runF G (aheadFn ns ao) [.fz (sD p hs)] = some (.fz (.tuple (aheadL p hs)), [.fz (sD p hs)]) := by
  have e1 := hn p hs h
  have e2 := ha p hs h
  have e3 := sorted_down p hs
  simp only [sD, tI'] at *
  simp only [runF, aheadFn]
  simp [e1, e2, e3]
end Tr

set_option Elab.async false
set_option linter.all false
set_option maxRecDepth 100000
set_option maxHeartbeats 4000000
/-! k28: the law's own search. -/
namespace Tr
open PySem
theorem low_zip {p : Int} : ∀ (hs : List Int) (k : Nat), (k : Int) ≤ p → p < k + hs.length → (hs.zipIdx k).map (fun x => x.1 - if ((x.2 : Nat) : Int) = p then 1 else 0) = hs.set (p - k).toNat (hs.getD (p - k).toNat 0 - 1)
  | [], k, h1, h2 => by simp at h2; omega
  | h :: hs, k, h1, h2 => by
    rw [List.zipIdx_cons, List.map_cons]
    by_cases e : (k : Int) = p
    · have : (p - k).toNat = 0 := by omega
      rw [this, List.set_cons_zero]
      simp only [e, if_true, List.getD_cons_zero]
      congr 1
      have tail : ∀ (l : List Int) (j : Nat), p < j → (l.zipIdx j).map (fun x => x.1 - if ((x.2 : Nat) : Int) = p then 1 else 0) = l := by
        intro l
        induction l with
        | nil => intro j _; rfl
        | cons a l ih =>
          intro j hj
          rw [List.zipIdx_cons, List.map_cons, ih (j + 1) (by omega)]
          have : ¬ ((j : Nat) : Int) = p := by omega
          simp [this]
      exact tail hs (k + 1) (by omega)
    · have h2' : p < ((k + 1 : Nat) : Int) + hs.length := by simp only [List.length_cons] at h2; omega
      rw [low_zip hs (k + 1) (by omega) h2']
      have : (p - (k : Int)).toNat = (p - ((k + 1 : Nat) : Int)).toNat + 1 := by omega
      rw [this, List.set_cons_succ, List.getD_cons_succ, if_neg e]
      simp
theorem foldl_min : ∀ (ns : List Int) (n : Int), 0 ≤ ns.foldl min n ↔ 0 ≤ n ∧ ∀ x ∈ ns, 0 ≤ x
  | [], n => by simp
  | x :: ns, n => by
    rw [List.foldl_cons, foldl_min ns (min n x)]
    simp only [List.mem_cons, forall_eq_or_imp]
    constructor
    · rintro ⟨a, b⟩; exact ⟨by omega, by omega, b⟩
    · rintro ⟨a, b, c⟩; exact ⟨by omega, c⟩
theorem okMin_ints (ns : List Int) : okMin (ns.map .int) = true := by
  unfold okMin
  rw [Bool.and_eq_true, Bool.and_eq_true]
  refine ⟨⟨?_, ?_⟩, ?_⟩
  · unfold allAlikeB
    rw [List.all_eq_true]
    intro x hx
    rw [List.all_eq_true]
    intro y hy
    obtain ⟨a, -, rfl⟩ := List.mem_map.mp hx
    obtain ⟨b, -, rfl⟩ := List.mem_map.mp hy
    simp [PySem.W.alike]
  · rw [List.all_eq_true]
    intro x hx
    obtain ⟨a, -, rfl⟩ := List.mem_map.mp hx
    rfl
  · rw [depthL_ints]; decide
theorem min_ints (n : Int) (ns : List Int) : biD .min [.tuple ((n :: ns).map .int)] = some (.fz (.int (ns.foldl min n))) := by
  have ok := okMin_ints (n :: ns)
  show (if okMin ((n :: ns).map .int) = true then some (Vl.fz (PySem.W.minD (.int n) (ns.map .int))) else none) = _
  rw [if_pos ok, PySem.W.minD_ints]
theorem min_low {hs : List Int} {q : Int} (h : IsHs hs) (h0 : 0 ≤ q) (h1 : q < hs.length) : ∃ m, biD .min [.tuple ((lowH hs q).map .int)] = some (.fz (.int m)) ∧ (0 ≤ m ↔ 1 ≤ at' hs q) := by
  obtain ⟨a1, a2, a3⟩ := h
  have key : (∀ x ∈ lowH hs q, 0 ≤ x) ↔ 1 ≤ at' hs q := by
    constructor
    · intro hx
      have : at' hs q - 1 ∈ lowH hs q := by
        unfold lowH
        exact List.mem_set (by omega) _
      have := hx _ this
      omega
    · intro hq x hx
      unfold lowH at hx
      rcases List.mem_or_eq_of_mem_set hx with hx | rfl
      · exact a3 x hx
      · omega
  cases hl : lowH hs q with
  | nil =>
    have : (lowH hs q).length = hs.length := by unfold lowH; rw [List.length_set]
    rw [hl] at this
    simp at this
    omega
  | cons n ns =>
    refine ⟨_, min_ints n ns, ?_⟩
    rw [foldl_min, ← key, hl]
    simp
theorem raise_low {hs : List Int} {q : Int} (h0 : 0 ≤ q) (h1 : q < hs.length) : raiseH (lowH hs q) q = hs := by
  have : q.toNat < hs.length := by omega
  unfold raiseH lowH at'
  rw [List.set_set]
  have e : (hs.set q.toNat (hs.getD q.toNat 0 - 1)).getD q.toNat 0 = hs.getD q.toNat 0 - 1 := by
    rw [List.getD_eq_getElem?_getD, List.getElem?_set_self this]; rfl
  rw [e, show hs.getD q.toNat 0 - 1 + 1 = hs.getD q.toNat 0 by omega, List.getD_eq_getElem?_getD, List.getElem?_eq_getElem this]
  exact List.set_getElem_self this
theorem lay_ints : ∀ ns : List Int, PyData.canLayAll0 (ns.map .int) = true
  | [] => rfl
  | n :: ns => by
    rw [List.map_cons]
    show (true && PyData.canLayAll0 (ns.map .int)) = true
    rw [lay_ints ns]; rfl
theorem shaped_st (p : Int) (hs : List Int) : SeqAt.shaped (sD p hs) = true := by
  unfold SeqAt.shaped
  rw [Bool.and_eq_true]
  refine ⟨?_, decide_eq_true (depth_st p hs)⟩
  show (true && (PyData.canLayAll0 (hs.map .int) && true)) = true
  rw [lay_ints]; rfl
theorem eqv_ints : ∀ ns : List Int, PyData.eqvAll (ns.map .int) (ns.map .int) = true
  | [] => by simp [PyData.eqvAll]
  | n :: ns => by
    rw [List.map_cons, PyData.eqvAll, eqv_ints ns]
    simp [PyData.eqv]
theorem eq_st (q p : Int) (hs : List Int) : cmpD .eq (sD q hs) (sD p hs) = some (decide (q = p)) := by
  have h1 := shaped_st q hs
  have h2 := shaped_st p hs
  show (if okEq (sD q hs) (sD p hs) = true then some (PyData.eqv (sD q hs) (sD p hs)) else none) = _
  rw [if_pos (by unfold okEq; rw [h1, h2]; rfl)]
  have e := eqv_ints hs
  simp only [sD, tI', PyData.eqv, PyData.eqvAll, e]
  congr 1
  by_cases c : q = p <;> simp [c]
theorem low_is {hs : List Int} (p s q : Int) (h0 : 0 ≤ q) (h1 : q < hs.length) : (if q = p - s then Bk p hs s else []) = if decide (1 ≤ at' hs q) && (letB q (lowH hs q) s && decide (q + s = p)) then [sD q (lowH hs q)] else [] := by
  by_cases c : q = p - s
  · subst c
    have e : p - s + s = p := by omega
    unfold Bk backB
    rw [if_pos rfl, e]
    simp only [h0, h1, decide_true, Bool.true_and, Bool.and_true]
  · have e : ¬ q + s = p := by omega
    rw [if_neg c]
    simp [e]
def findIn (ll sp : Nat) : List S := [S.asg (Tg.n 6) (E.tup [E.var 3, E.var 4]), S.iff ((E.cmp Cop.ge (E.bi Bi.min [E.var 4]) (cI 0)).and ((E.call ll [E.var 6, E.var 7]).and (E.cmp Cop.eq (E.call sp [E.var 6, E.var 7]) (E.var 0)))) [S.app 1 (E.var 6)] []]
def findOut (ll sp : Nat) : List S := [S.asg (Tg.n 4) (E.bi Bi.tuple [(E.bin Bop.sub (E.var 6) (E.bi Bi.int [E.cmp Cop.eq (E.var 5) (E.var 3)])).comp (Tg.t [Tg.n 5, Tg.n 6]) (It.en (E.var 2)) none [5, 6] false]), S.for (Tg.n 7) (It.li (E.tup [nI 1, cI 1])) (findIn ll sp)]
def lawAheadFn (ll sp : Nat) : Fn := ⟨1, 8, [S.par [1, 2] [E.lst [], (E.var 0).idx (cI 1)], S.for (Tg.n 3) (It.rg1 (E.bi Bi.len [E.var 2])) (findOut ll sp), S.ret (E.bi Bi.tuple [E.bi Bi.sorted [E.var 1]])]⟩
theorem findIn_turn {G : Fs} {ll sp : Nat} (hl : PLet G ll) (hsp : PStepBy G sp) {p : Int} {hs : List Int} (h : IsSt p hs) {q : Int} (h0 : 0 ≤ q) (h1 : q < hs.length) (s : Int) (acc : List D) (o5 o6 o7 : Option Vl) (hacc : acc.length < 1000) :
    turnF G [] (Tg.n 7) (findIn ll sp) (.int s) [some (.fz (sD p hs)), some (.ol acc), some (.fz (tI' hs)), some (.fz (.int q)), some (.fz (tI' (lowH hs q))), o5, o6, o7] = some (.nx, [some (.fz (sD p hs)), some (.ol (acc ++ if q = p - s then Bk p hs s else [])), some (.fz (tI' hs)), some (.fz (.int q)), some (.fz (tI' (lowH hs q))), o5, some (.fz (sD q (lowH hs q))), some (.fz (.int s))]) := by
  rw [low_is p s q h0 h1]
  obtain ⟨m, em, im⟩ := min_low h.1 h0 h1
  have z2 : okSz 2 = true := by decide
  have zx : acc.length < 16777216 := by omega
  by_cases c : 1 ≤ at' hs q
  · have hm : 0 ≤ m := im.mpr c
    have hq : IsSt q (lowH hs q) := low_st (p := q) ⟨h.1, h0, h1⟩ h0 h1 c
    have e1 := hl q (lowH hs q) s hq
    have e2 := hsp q (lowH hs q) s hq
    rw [raise_low h0 h1] at e2
    have e3 := eq_st (q + s) p hs
    have e3p := eq_st p p hs
    by_cases c2 : q + s = p
    · cases hb : letB q (lowH hs q) s <;> rw [hb] at e1 <;> simp only [sD, tI'] at * <;> simp [turnF, findIn, em, hm, c, e1, e2, e3, e3p, c2, z2, zx]
    · cases hb : letB q (lowH hs q) s <;> rw [hb] at e1 <;> simp only [sD, tI'] at * <;> simp [turnF, findIn, em, hm, c, e1, e2, e3, e3p, c2, z2, zx]
  · have hm : ¬ 0 ≤ m := fun z => c (im.mp z)
    simp only [sD, tI'] at *
    simp [turnF, findIn, em, hm, c, z2]
def accK (p : Int) (hs : List Int) (k : Int) : List D := (if p - 1 < k then Bk p hs 1 else []) ++ if p + 1 < k then Bk p hs (-1) else []
theorem accK_len (p : Int) (hs : List Int) (k : Int) : (accK p hs k).length ≤ 2 := by
  have a := @Bk_len p hs 1
  have b := @Bk_len p hs (-1)
  unfold accK
  rw [List.length_append]
  split <;> split <;> (try simp only [List.length_nil]) <;> omega
theorem accK_step (p : Int) (hs : List Int) (k : Int) : (accK p hs k ++ if k = p - -1 then Bk p hs (-1) else []) ++ (if k = p - 1 then Bk p hs 1 else []) = accK p hs (k + 1) := by
  unfold accK
  by_cases c1 : k = p + 1
  · subst c1
    have a1 : p - 1 < p + 1 := by omega
    have a2 : ¬ p + 1 < p + 1 := by omega
    have a3 : p + 1 = p - -1 := by omega
    have a4 : ¬ p + 1 = p - 1 := by omega
    have a5 : p - 1 < p + 1 + 1 := by omega
    have a6 : p + 1 < p + 1 + 1 := by omega
    rw [if_pos a1, if_neg a2, if_pos a3, if_neg a4, if_pos a5, if_pos a6]
    simp
  · have a3 : ¬ k = p - -1 := by omega
    rw [if_neg a3]
    by_cases c2 : k = p - 1
    · subst c2
      have a1 : ¬ p - 1 < p - 1 := by omega
      have a2 : ¬ p + 1 < p - 1 := by omega
      have a5 : p - 1 < p - 1 + 1 := by omega
      have a6 : ¬ p + 1 < p - 1 + 1 := by omega
      rw [if_neg a1, if_neg a2, if_pos rfl, if_pos a5, if_neg a6]
      simp
    · rw [if_neg c2]
      have e1 : (p - 1 < k + 1) = (p - 1 < k) := propext (by omega)
      have e2 : (p + 1 < k + 1) = (p + 1 < k) := propext (by omega)
      simp only [e1, e2, List.append_nil]
theorem accK_0 (p : Int) (hs : List Int) : accK p hs 0 = [] ∨ ¬ 0 ≤ p := by
  by_cases h : 0 ≤ p
  · left
    have a2 : ¬ p + 1 < 0 := by omega
    unfold accK
    rw [if_neg a2]
    by_cases c : p - 1 < 0
    · have : ¬ 0 ≤ p - 1 := by omega
      rw [if_pos c]
      have e : backB p hs 1 = false := by unfold backB; rw [decide_eq_false this]; rfl
      unfold Bk
      rw [e]; rfl
    · rw [if_neg c]; rfl
  · exact .inr h
theorem accK_end {p : Int} {hs : List Int} (h1 : p < hs.length) : accK p hs hs.length = aheadL p hs := by
  unfold accK aheadL
  rw [if_pos (by omega)]
  by_cases c : p + 1 < hs.length
  · rw [if_pos c]
  · rw [if_neg c]
    have : ¬ p - -1 < hs.length := by omega
    have e : backB p hs (-1) = false := by unfold backB; rw [decide_eq_false this]; simp
    unfold Bk
    rw [e]; rfl
def PLawAhead (G : Fs) (f : Nat) : Prop := ∀ p hs, IsSt p hs → G f [.fz (sD p hs)] = some (.fz (.tuple (aheadL p hs)), [.fz (sD p hs)])
theorem lawAhead_run {G : Fs} {ll sp : Nat} (hl : PLet G ll) (hsp : PStepBy G sp) {p : Int} {hs : List Int} (h : IsSt p hs) : runF G (lawAheadFn ll sp) [.fz (sD p hs)] = some (.fz (.tuple (aheadL p hs)), [.fz (sD p hs)]) := by
  have z2 : okSz 2 = true := by decide
  have z0 : okSz 0 = true := by decide
  let I : Nat → Fm → Prop := fun k fr => ∃ (o3 o4 o6 o7 : Option Vl), fr = [some (.fz (sD p hs)), some (.ol (accK p hs k)), some (.fz (tI' hs)), o3, o4, none, o6, o7]
  have hk0 : accK p hs ((0 : Nat) : Int) = [] := (accK_0 p hs).resolve_right (fun z => z h.2.1)
  have loop : ∃ g', forN (turnF G [] (Tg.n 3) (findOut ll sp)) (rangeD 0 hs.length) [some (.fz (sD p hs)), some (.ol []), some (.fz (tI' hs)), none, none, none, none, none] = some (.nx, g') ∧ I (0 + (rangeD 0 (hs.length : Int)).length) g' := by
    refine forN_ix I ⟨none, none, none, none, by rw [hk0]⟩ ?_
    rintro i d g hi ⟨o3, o4, o6, o7, rfl⟩
    rw [Nat.zero_add]
    have hil := (List.getElem?_eq_some_iff.mp hi).1
    rw [rangeD_nat] at hi hil
    rw [List.length_map, List.length_range] at hil
    rw [List.getElem?_map, List.getElem?_range hil] at hi
    obtain rfl := Option.some.inj hi
    have q0 : (0 : Int) ≤ i := by omega
    have q1 : (i : Int) < hs.length := by omega
    have ec : ev G ((E.bin Bop.sub (E.var 6) (E.bi Bi.int [E.cmp Cop.eq (E.var 5) (E.var 3)])).comp (Tg.t [Tg.n 5, Tg.n 6]) (It.en (E.var 2)) none [5, 6] false) [some (.fz (sD p hs)), some (.ol (accK p hs i)), some (.fz (tI' hs)), some (.fz (.int i)), o4, none, o6, o7] = some (.st (.ol (hs.zipIdx.map fun x => .int (x.1 - if ((x.2 : Nat) : Int) = i then 1 else 0))), [some (.fz (sD p hs)), some (.ol (accK p hs i)), some (.fz (tI' hs)), some (.fz (.int i)), o4, none, o6, o7]) := by
      refine ev_comp_map hs.zipIdx (fun x => .tuple [.int (x.2 : Nat), .int x.1]) (fun x => .int (x.1 - if ((x.2 : Nat) : Int) = i then 1 else 0)) ?_ (fun x hx => ?_) (by rw [List.length_zipIdx]; have := h.1.2.1; omega)
      · simp [enum_ints, tI']
      · simp only [sD, tI'] at *
        simp [turn0, wipeF, wipeP]
    have er : (hs.zipIdx.map fun x => PyData.int (x.1 - if ((x.2 : Nat) : Int) = i then 1 else 0)) = (lowH hs i).map .int := by
      have := low_zip (p := i) hs 0 (by omega) (by omega)
      unfold lowH at'
      have e0 : ((i : Int) - ((0 : Nat) : Int)).toNat = (i : Int).toNat := by omega
      rw [e0] at this
      rw [← this, List.map_map]
      rfl
    rw [er] at ec
    have t1 := findIn_turn hl hsp h q0 q1 (-1) (accK p hs i) none o6 o7 (by have := accK_len p hs i; omega)
    have t2 := findIn_turn hl hsp h q0 q1 1 (accK p hs i ++ if (i : Int) = p - -1 then Bk p hs (-1) else []) none (some (.fz (sD i (lowH hs i)))) (some (.fz (.int (-1)))) (by
      have := accK_len p hs i
      have := @Bk_len p hs (-1)
      rw [List.length_append]
      split <;> (try simp only [List.length_nil]) <;> omega)
    rw [accK_step] at t2
    have lp : forN (turnF G [] (Tg.n 7) (findIn ll sp)) [.int (-1), .int 1] [some (.fz (sD p hs)), some (.ol (accK p hs i)), some (.fz (tI' hs)), some (.fz (.int i)), some (.fz (tI' (lowH hs i))), none, o6, o7] = some (.nx, [some (.fz (sD p hs)), some (.ol (accK p hs (i + 1))), some (.fz (tI' hs)), some (.fz (.int i)), some (.fz (tI' (lowH hs i))), none, some (.fz (sD i (lowH hs i))), some (.fz (.int 1))]) := by
      unfold forN
      rw [t1]
      show forN _ [PyData.int 1] _ = _
      unfold forN
      rw [t2]
      rfl
    refine ⟨_, ?_, ⟨some (.fz (.int i)), some (.fz (tI' (lowH hs i))), some (.fz (sD i (lowH hs i))), some (.fz (.int 1)), rfl⟩⟩
    simp only [sD, tI'] at *
    simp [turnF, findOut, ec, lp, z2]
  obtain ⟨g', el, o3, o4, o6, o7, rfl⟩ := loop
  have e9 := sorted_up p hs
  rw [Nat.zero_add, rangeD_length] at el
  simp only [Int.sub_zero, Int.toNat_natCast] at el
  rw [accK_end h.2.2] at el
  have sm := small_ok (n := (hs.length : Int)) (by omega) (by have := h.1.2.1; omega)
  have ei : its G (It.rg1 (E.bi Bi.len [E.var 2])) [some (.fz (sD p hs)), some (.ol []), some (.fz (tI' hs)), none, none, none, none, none] = some (rangeD 0 (hs.length : Int), [some (.fz (sD p hs)), some (.ol []), some (.fz (tI' hs)), none, none, none, none, none]) := its_rg1_of (by simp [sD, tI']) sm
  simp only [sD, tI'] at *
  simp [-its_rg1, runF, lawAheadFn, z0, el, e9, ei]
end Tr

set_option Elab.async false
set_option linter.all false
set_option maxRecDepth 100000
set_option maxHeartbeats 4000000
/-! k28: the law. -/
namespace Tr
open PySem
theorem tameL_app : ∀ xs ys : List D, tameL xs = true → tameL ys = true → tameL (xs ++ ys) = true
  | [], ys, _, h => h
  | x :: xs, ys, h1, h2 => by
    simp only [List.cons_append, tameL, Bool.and_eq_true] at *
    exact ⟨h1.1, tameL_app xs ys h1.2 h2⟩
theorem cntL_app : ∀ xs ys : List D, cntL (xs ++ ys) = cntL xs + cntL ys
  | [], ys => by simp [cntL]
  | x :: xs, ys => by simp only [List.cons_append, cntL, cntL_app xs ys]; omega
theorem depthL_app : ∀ xs ys : List D, PyData.depthAll (xs ++ ys) ≤ max (PyData.depthAll xs) (PyData.depthAll ys)
  | [], ys => by simp [PyData.depthAll]
  | x :: xs, ys => by
    have := depthL_app xs ys
    simp only [List.cons_append, PyData.depthAll] at *
    omega
theorem Bk_tame {p : Int} {hs : List Int} (h : IsSt p hs) (hi : Hi hs 1000000) (s : Int) : tameL (Bk p hs s) = true ∧ cntL (Bk p hs s) ≤ 1002 ∧ PyData.depthAll (Bk p hs s) ≤ 2 := by
  unfold Bk
  by_cases c : backB p hs s = true
  · rw [if_pos c]
    unfold backB at c
    simp only [Bool.and_eq_true, decide_eq_true_eq] at c
    have hq := low_st h c.1.1.1 c.1.1.2 c.1.2
    have hi' : Hi (lowH hs (p - s)) 1000000 := fun x hx => by
      unfold lowH at hx
      rcases List.mem_or_eq_of_mem_set hx with hx | rfl
      · exact hi x hx
      · have := hi _ (at_mem c.1.1.1 c.1.1.2)
        omega
    obtain ⟨t1, t2, t3⟩ := tame_st hq hi'
    refine ⟨?_, ?_, ?_⟩
    · simp only [tameL, t1]; rfl
    · simp only [cntL]; omega
    · simp only [PyData.depthAll]; omega
  · rw [if_neg c]
    exact ⟨rfl, by simp [cntL], by simp [PyData.depthAll]⟩
theorem ahead_show {p : Int} {hs : List Int} (h : IsSt p hs) (hi : Hi hs 1000000) : okShow (.list [.tuple (aheadL p hs), .tuple (aheadL p hs)]) = true := by
  obtain ⟨a1, a2, a3⟩ := Bk_tame h hi 1
  obtain ⟨b1, b2, b3⟩ := Bk_tame h hi (-1)
  have t := tameL_app _ _ a1 b1
  have c := cntL_app (Bk p hs 1) (Bk p hs (-1))
  have d := depthL_app (Bk p hs 1) (Bk p hs (-1))
  refine okShow_of ?_ ?_ ?_
  · simp only [tame, tameL, aheadL, t]; rfl
  · simp only [cnt, cntL, aheadL, c]; omega
  · simp only [PyData.depth, PyData.depthAll, aheadL]; omega
theorem walk_hi : ∀ {ws : List Int} {p : Int} {hs : List Int} {m : Int}, IsSt p hs → IsWalk p hs ws → Hi hs m → Hi (wEnd p hs ws).2 (m + ws.length)
  | [], p, hs, m, _, _, hi => fun x hx => by
    have := hi x hx
    simp only [List.length_nil]
    omega
  | s :: ws, p, hs, m, h, ⟨w1, w2, w3⟩, hi => fun x hx => by
    have := walk_hi (ws := ws) (h.step w2) w3 (hi.raise h.2.1 h.2.2) x hx
    simp only [List.length_cons]
    push_cast
    omega
def law28In (st wk la ah sm : Nat) : List S := [S.asg (Tg.n 4) ((E.call wk [E.var 2, E.call st [E.var 2, cI 5, (E.lst [cI 5, cI 2, cI 0, cI 3]).idx (E.bin Bop.mod (E.var 3) (cI 4))], (E.lst [cI 0, cI 6, cI 9, cI 4]).idx (E.bin Bop.mod (E.var 3) (cI 4))]).idx (cI 1)), S.par [5, 6] [E.bi Bi.repr [E.var 4], E.call la [E.var 4]], S.iff ((E.call sm [E.lst [E.call ah [E.var 4], E.call ah [E.var 4]], E.lst [E.var 6, E.var 6]]).not.or (E.cmp Cop.ne (E.bi Bi.repr [E.var 4]) (E.var 5))) [S.ret (E.con (.bool false))] []]
def law28Fn (ce pe st wk la ah sm : Nat) : Fn := ⟨1, 7, [S.for (Tg.n 1) (It.li (E.bin Bop.add (E.lst [E.call ce [E.var 0, cI 0]]) ((E.var 0).slc (some (cI 1)) (some (cI 4)) false))) [S.asg (Tg.n 2) (E.call pe [E.var 1]), S.for (Tg.n 3) (It.rg1 (cI 8)) (law28In st wk la ah sm)], S.ret (E.con (.bool true))]⟩
theorem idx4 (a b c d : Int) {j : Int} (h0 : 0 ≤ j) (h1 : j < 4) : ∃ r, idxD (.list [.int a, .int b, .int c, .int d]) (.int j) = some (.int r) ∧ (r = a ∨ r = b ∨ r = c ∨ r = d) := by
  have : j = 0 ∨ j = 1 ∨ j = 2 ∨ j = 3 := by omega
  rcases this with rfl | rfl | rfl | rfl
  · exact ⟨a, rfl, .inl rfl⟩
  · exact ⟨b, rfl, .inr (.inl rfl)⟩
  · exact ⟨c, rfl, .inr (.inr (.inl rfl))⟩
  · exact ⟨d, rfl, .inr (.inr (.inr rfl))⟩
theorem law28_in {G : Fs} {st wk la ah sm : Nat} (hst : PStandDraw G st) (hwk : PWalk G wk) (hla : PLawAhead G la) (hah : PAhead G ah) (hsm : PSameL G sm) (ns : List Int) (j : Int) (y : Vl) (o1 o3 o4 o5 o6 : Option Vl) (hy : IsPen y) (hj : 0 ≤ j) :
    ∃ (y' : Vl) (o3' o4' o5' o6' : Option Vl), turnF G [] (Tg.n 3) (law28In st wk la ah sm) (.int j) [some (.scr ns), o1, some y, o3, o4, o5, o6] = some (.nx, [some (.scr ns), o1, some y', o3', o4', o5', o6']) ∧ IsPen y' := by
  have m0 : 0 ≤ j % 4 := Int.emod_nonneg _ (by decide)
  have m1 : j % 4 < 4 := Int.emod_lt_of_pos _ (by decide)
  obtain ⟨hh, e1, r1⟩ := idx4 5 2 0 3 m0 m1
  obtain ⟨mm, e2, r2⟩ := idx4 0 6 9 4 m0 m1
  obtain ⟨p, hs, y1, e3, h, hi, -, hy1⟩ := hst y 5 hh hy (by decide) (by decide) (by omega) (by omega)
  obtain ⟨ws, y2, e4, hw, hwl, hy2⟩ := hwk y1 p hs mm hy1 h (by omega) (by omega)
  have hend := walk_end h hw
  have hi2 : Hi (wEnd p hs ws).2 1000000 := fun x hx => by
    have := walk_hi (m := hh) h hw hi x hx
    omega
  generalize wEnd p hs ws = q at *
  obtain ⟨q1, q2⟩ := q
  have e5 := okShow_st hend hi2
  have e6 := hla q1 q2 hend
  have e7 := hah q1 q2 hend
  have e8 := hsm _ (ahead_show hend hi2)
  obtain ⟨a, b, c, rfl, -, -⟩ := id hy
  obtain ⟨a1, b1, c1, rfl, -, -⟩ := id hy1
  obtain ⟨a2, b2, c2, rfl, -, -⟩ := id hy2
  have z2 : okSz 2 = true := by decide
  have z4 : okSz 4 = true := by decide
  have e9 : ∀ x : Str, cmpD .ne (.str x) (.str x) = some false := by
    intro x
    show some (!decide (x = x)) = _
    simp
  refine ⟨.ol [.int a2, .int b2, .int c2], some (.fz (.int j)), some (.fz (sD q1 q2)), some (.fz (.str (sD q1 q2).shown)), some (.fz (.tuple (aheadL q1 q2))), ?_, hy2⟩
  simp only [sD, tI'] at *
  simp [turnF, law28In, e1, e2, e3, e4, e5, e6, e7, e8, e9, z2, z4]
theorem law28_run {G : Fs} {ce pe st wk la ah sm : Nat} (hce : PCell G ce) (hpe : PPen G pe) (hst : PStandDraw G st) (hwk : PWalk G wk) (hla : PLawAhead G la) (hah : PAhead G ah) (hsm : PSameL G sm) (ns : List Int) : ∃ ps, runF G (law28Fn ce pe st wk la ah sm) [.scr ns] = some (.fz (.bool true), ps) := by
  let J : Fm → Prop := fun fr => ∃ (y : Vl) (o1 o3 o4 o5 o6 : Option Vl), fr = [some (.scr ns), o1, some y, o3, o4, o5, o6] ∧ IsPen y
  let I : Fm → Prop := fun fr => ∃ (o1 o2 o3 o4 o5 o6 : Option Vl), fr = [some (.scr ns), o1, o2, o3, o4, o5, o6]
  obtain ⟨v0, e0⟩ := hce ns 0 (by decide)
  have loop : ∃ g', forN (turnF G [] (Tg.n 1) [S.asg (Tg.n 2) (E.call pe [E.var 1]), S.for (Tg.n 3) (It.rg1 (cI 8)) (law28In st wk la ah sm)]) (.int v0 :: cutL (ns.map .int) (some 1) (some 4)) [some (.scr ns), none, none, none, none, none, none] = some (.nx, g') ∧ I g' := by
    refine forN_inv I ⟨_, _, _, _, _, _, rfl⟩ ?_
    rintro d g ⟨o1, o2, o3, o4, o5, o6, rfl⟩ hd
    have : ∃ n : Int, d = .int n := by
      rcases List.mem_cons.mp hd with rfl | hd
      · exact ⟨_, rfl⟩
      · unfold cutL at hd
        have := List.mem_of_mem_drop (List.mem_of_mem_take hd)
        obtain ⟨n, -, rfl⟩ := List.mem_map.mp this
        exact ⟨_, rfl⟩
    obtain ⟨n, rfl⟩ := this
    obtain ⟨y, e2, hy⟩ := hpe n
    have lp : ∃ g', forN (turnF G [] (Tg.n 3) (law28In st wk la ah sm)) (rangeD 0 8) [some (.scr ns), some (.fz (.int n)), some y, o3, o4, o5, o6] = some (.nx, g') ∧ J g' := by
      refine forN_inv J ⟨_, _, _, _, _, _, rfl, hy⟩ ?_
      rintro d g ⟨y, o1, o3, o4, o5, o6, rfl, hy⟩ hd
      obtain ⟨j, rfl, j0, -⟩ := mem_range hd
      obtain ⟨y', a3, a4, a5, a6, et, hy'⟩ := law28_in hst hwk hla hah hsm ns j y o1 o3 o4 o5 o6 hy j0
      exact ⟨_, et, ⟨_, _, _, _, _, _, rfl, hy'⟩⟩
    obtain ⟨g', el, y', b1, b3, b4, b5, b6, rfl, -⟩ := lp
    obtain ⟨a, b, c, rfl, -, -⟩ := id hy
    have sm : smallI 8 = true := by decide
    refine ⟨_, ?_, ⟨b1, some y', b3, b4, b5, b6, rfl⟩⟩
    simp [turnF, e2, sm, el]
  obtain ⟨g', el, o1, o2, o3, o4, o5, o6, rfl⟩ := loop
  have z1 : okSz 1 = true := by decide
  have zc : okSz ((cutL (ns.map PyData.int) (some 1) (some 4)).length + 1) = true := okSz_ok (by
    unfold cutL
    rw [List.length_take]
    have : HT.sIx (ns.map PyData.int).length (ns.map PyData.int).length (some 4) - HT.sIx (ns.map PyData.int).length 0 (some 1) ≤ 4 := by
      unfold HT.sIx
      simp
      omega
    omega)
  have zc' := zc
  rw [Nat.add_comm] at zc'
  refine ⟨[.scr ns], ?_⟩
  simp [runF, law28Fn, e0, z1, zc, zc', el]
end Tr

set_option Elab.async false
set_option linter.all false
set_option maxRecDepth 100000
set_option maxHeartbeats 1000000
/-! Rows done again and again: no program in sight. -/
namespace Tr
open PySem
/-- the place of the first step that bars -/
def bar (p : Int) (hs : List Int) : List Int → Option Nat
  | [] => none
  | s :: ws => if letB p hs s then (bar (p + s) (raiseH hs p) ws).map (· + 1) else some 0
def Stps (ws : List Int) : Prop := ∀ s ∈ ws, IsStp s
theorem bar_walk : ∀ {ws : List Int} {p : Int} {hs : List Int}, Stps ws → (bar p hs ws = none ↔ IsWalk p hs ws)
  | [], _, _, _ => ⟨fun _ => trivial, fun _ => rfl⟩
  | s :: ws, p, hs, h => by
    have ih := bar_walk (ws := ws) (p := p + s) (hs := raiseH hs p) fun x hx => h x (List.mem_cons_of_mem _ hx)
    unfold bar IsWalk
    cases c : letB p hs s with
    | true => simp [ih, h s List.mem_cons_self]
    | false => simp
/-- heights and so often more -/
def addN (hs : List Int) (n : Int) (ds : List Int) : List Int := List.zipWith (fun a b => a + n * b) hs ds
theorem addN_len {hs ds : List Int} (n : Int) (h : ds.length = hs.length) : (addN hs n ds).length = hs.length := by
  unfold addN; rw [List.length_zipWith]; omega
theorem addN_at {hs ds : List Int} (n : Int) (h : ds.length = hs.length) {q : Int} (h0 : 0 ≤ q) (h1 : q < hs.length) : at' (addN hs n ds) q = at' hs q + n * at' ds q := by
  unfold at' addN
  have a : q.toNat < hs.length := by omega
  have b : q.toNat < ds.length := by omega
  rw [List.getD_eq_getElem?_getD, List.getD_eq_getElem?_getD, List.getD_eq_getElem?_getD, List.getElem?_zipWith, List.getElem?_eq_getElem a, List.getElem?_eq_getElem b]
  rfl
theorem addN_zero {hs ds : List Int} (h : ds.length = hs.length) : addN hs 0 ds = hs := by
  unfold addN
  induction hs generalizing ds with
  | nil => rfl
  | cons a hs ih =>
    cases ds with
    | nil => cases h
    | cons b ds =>
      rw [List.zipWith_cons_cons, ih (by simpa using h)]
      simp
theorem addN_add : ∀ {hs ds : List Int} (m n : Int), ds.length = hs.length → addN (addN hs m ds) n ds = addN hs (m + n) ds
  | [], ds, m, n, h => by unfold addN; rfl
  | a :: hs, [], m, n, h => by cases h
  | a :: hs, b :: ds, m, n, h => by
    have ih := addN_add (hs := hs) (ds := ds) m n (by simpa using h)
    unfold addN at ih ⊢
    simp only [List.zipWith_cons_cons, ih]
    rw [Int.add_mul, Int.add_assoc]
theorem raise_addN {hs ds : List Int} (n : Int) (h : ds.length = hs.length) {p : Int} (h0 : 0 ≤ p) (h1 : p < hs.length) : raiseH (addN hs n ds) p = addN (raiseH hs p) n ds := by
  have e := addN_at n h h0 h1
  unfold raiseH
  rw [e]
  have a : p.toNat < hs.length := by omega
  have b : p.toNat < ds.length := by omega
  refine List.ext_getElem? fun i => ?_
  unfold addN
  rw [List.getElem?_set, List.getElem?_zipWith, List.getElem?_zipWith, List.getElem?_set, List.length_zipWith]
  by_cases hi : p.toNat = i
  · subst hi
    rw [if_pos rfl, if_pos (by omega), if_pos rfl, if_pos a, List.getElem?_eq_getElem b]
    have eb : at' ds p = ds[p.toNat] := by
      unfold at'
      rw [List.getD_eq_getElem?_getD, List.getElem?_eq_getElem b]
      rfl
    simp only []
    congr 1
    rw [eb]
    omega
  · rw [if_neg hi, if_neg hi]
theorem raise_len (hs : List Int) (p : Int) : (raiseH hs p).length = hs.length := by unfold raiseH; exact List.length_set
/-- what is let five times is let ever on -/
theorem let_addN {p : Int} {hs ds : List Int} {s : Int} (hl : ds.length = hs.length) (h0 : 0 ≤ p) (h1 : p < hs.length) (a : letB p hs s = true) (b : letB p (addN hs 4 ds) s = true) (n : Int) : letB p (addN hs n ds) s = true := by
  unfold letB at a b ⊢
  rw [addN_len _ hl] at b ⊢
  simp only [Bool.and_eq_true, decide_eq_true_eq] at a b ⊢
  obtain ⟨⟨⟨a1, a2⟩, a3⟩, a4⟩ := a
  obtain ⟨⟨_, b3⟩, b4⟩ := b
  rw [addN_at _ hl h0 h1, addN_at _ hl a1 a2] at b3 b4 ⊢
  have e : at' ds (p + s) = at' ds p := by omega
  rw [e]
  omega
theorem bar_addN : ∀ {ws : List Int} {p : Int} {hs ds : List Int}, ds.length = hs.length → 0 ≤ p → p < hs.length → bar p hs ws = none → bar p (addN hs 4 ds) ws = none → ∀ n : Int, bar p (addN hs n ds) ws = none
  | [], _, _, _, _, _, _, _, _, _ => rfl
  | s :: ws, p, hs, ds, hl, h0, h1, a, b, n => by
    unfold bar at a b ⊢
    cases c : letB p hs s with
    | false => rw [c] at a; simp at a
    | true =>
      cases c2 : letB p (addN hs 4 ds) s with
      | false => rw [c2] at b; simp at b
      | true =>
        rw [c] at a
        rw [c2] at b
        rw [let_addN hl h0 h1 c c2 n]
        simp only [if_true, Option.map_eq_none_iff] at a b ⊢
        rw [raise_addN _ hl h0 h1] at b ⊢
        have c' := c
        unfold letB at c'
        simp only [Bool.and_eq_true, decide_eq_true_eq] at c'
        refine bar_addN ?_ c'.1.1.1 ?_ a b n
        · rw [raise_len]; exact hl
        · rw [raise_len]; exact c'.1.1.2
theorem end_addN : ∀ {ws : List Int} {p : Int} {hs ds : List Int}, ds.length = hs.length → 0 ≤ p → p < hs.length → bar p hs ws = none → ∀ n : Int, wEnd p (addN hs n ds) ws = ((wEnd p hs ws).1, addN (wEnd p hs ws).2 n ds)
  | [], _, _, _, _, _, _, _, _ => rfl
  | s :: ws, p, hs, ds, hl, h0, h1, a, n => by
    unfold bar at a
    cases c : letB p hs s with
    | false => rw [c] at a; simp at a
    | true =>
      rw [c] at a
      simp only [if_true, Option.map_eq_none_iff] at a
      unfold letB at c
      simp only [Bool.and_eq_true, decide_eq_true_eq] at c
      show wEnd (p + s) (raiseH (addN hs n ds) p) ws = _
      rw [raise_addN _ hl h0 h1]
      exact end_addN (by rw [raise_len]; exact hl) c.1.1.1 (by rw [raise_len]; exact c.1.1.2) a n
theorem end_place : ∀ (ws : List Int) (p : Int) (hs : List Int), (wEnd p hs ws).1 = p + ws.sum
  | [], p, hs => by simp [wEnd]
  | s :: ws, p, hs => by
    show (wEnd (p + s) (raiseH hs p) ws).1 = _
    rw [end_place ws, List.sum_cons]
    omega
theorem end_len : ∀ (ws : List Int) (p : Int) (hs : List Int), (wEnd p hs ws).2.length = hs.length
  | [], p, hs => rfl
  | s :: ws, p, hs => by
    show (wEnd (p + s) (raiseH hs p) ws).2.length = _
    rw [end_len ws, raise_len]
/-- the stand behind so many laps -/
def lapE (row : List Int) : Nat → Int × List Int → Int × List Int
  | 0, st => st
  | n + 1, st => lapE row n (wEnd st.1 st.2 row)
theorem lapE_succ (row : List Int) : ∀ (n : Nat) (st : Int × List Int), lapE row (n + 1) st = wEnd (lapE row n st).1 (lapE row n st).2 row
  | 0, st => rfl
  | n + 1, st => by
    show lapE row (n + 1) (wEnd st.1 st.2 row) = _
    rw [lapE_succ row n]
    rfl
def barN (row : List Int) (n : Nat) (st : Int × List Int) : Option Nat := bar (lapE row n st).1 (lapE row n st).2 row
theorem lapE_st {row : List Int} (hr : Stps row) {st : Int × List Int} (h : IsSt st.1 st.2) : ∀ n : Nat, (∀ m < n, barN row m st = none) → IsSt (lapE row n st).1 (lapE row n st).2
  | 0, _ => h
  | n + 1, hb => by
    have ih := lapE_st hr h n fun m hm => hb m (by omega)
    rw [lapE_succ]
    exact walk_end ih ((bar_walk hr).mp (hb n (by omega)))
theorem lapE_place (row : List Int) : ∀ (n : Nat) (st : Int × List Int), (lapE row n st).1 = st.1 + n * row.sum
  | 0, st => by simp [lapE]
  | n + 1, st => by
    rw [lapE_succ, end_place, lapE_place row n]
    rw [Int.natCast_succ, Int.add_mul]
    omega
/-- by how much each place is higher behind a lap -/
def gain (row : List Int) (st : Int × List Int) : List Int := List.zipWith (fun a b => b - a) st.2 (wEnd st.1 st.2 row).2
theorem gain_len (row : List Int) (st : Int × List Int) : (gain row st).length = st.2.length := by
  unfold gain; rw [List.length_zipWith, end_len]; omega
theorem gain_add : ∀ (hs ks : List Int), hs.length = ks.length → addN hs 1 (List.zipWith (fun a b => b - a) hs ks) = ks
  | [], [], _ => rfl
  | [], _ :: _, h => by cases h
  | _ :: _, [], h => by cases h
  | a :: hs, b :: ks, h => by
    have ih := gain_add hs ks (by simpa using h)
    unfold addN at ih ⊢
    simp only [List.zipWith_cons_cons, ih]
    congr 1
    omega
theorem sum_zero {row : List Int} (hr : Stps row) {st : Int × List Int} (h : IsSt st.1 st.2) (hb : ∀ m < 5, barN row m st = none) : row.sum = 0 := by
  have h5 := lapE_st hr h 5 hb
  have e := lapE_place row 5 st
  have el : ∀ n, (lapE row n st).2.length = st.2.length := fun n => by
    induction n with
    | zero => rfl
    | succ n ih => rw [lapE_succ, end_len, ih]
  obtain ⟨⟨_, q1, _⟩, q2, q3⟩ := h
  obtain ⟨_, r2, r3⟩ := h5
  rw [el] at r3
  rw [e] at r2 r3
  omega
/-- behind n laps, where five are let: the place as ever, the heights so often higher; and no lap bars -/
theorem laps_go {row : List Int} (hr : Stps row) {st : Int × List Int} (h : IsSt st.1 st.2) (hb : ∀ m < 5, barN row m st = none) : ∀ n : Nat, lapE row n st = (st.1, addN st.2 n (gain row st)) ∧ barN row n st = none := by
  have s0 := sum_zero hr h hb
  have gl := gain_len row st
  obtain ⟨_, p0, p1⟩ := id h
  have b0 : bar st.1 st.2 row = none := hb 0 (by omega)
  have e1 : wEnd st.1 st.2 row = (st.1, addN st.2 1 (gain row st)) := by
    refine Prod.ext ?_ ?_
    · rw [end_place, s0]; simp
    · exact (gain_add st.2 _ (end_len row st.1 st.2).symm).symm
  have key : ∀ n : Nat, lapE row n st = (st.1, addN st.2 n (gain row st)) := by
    intro n
    induction n with
    | zero => 
      show st = _
      rw [show ((0 : Nat) : Int) = 0 from rfl, addN_zero gl]
    | succ n ih =>
      rw [lapE_succ, ih]
      rw [end_addN gl p0 p1 b0, e1]
      refine Prod.ext rfl ?_
      show addN (addN st.2 1 (gain row st)) n (gain row st) = _
      rw [addN_add _ _ gl]
      congr 1
      push_cast
      omega
  refine fun n => ⟨key n, ?_⟩
  have b4 : bar st.1 (addN st.2 4 (gain row st)) row = none := by
    have := hb 4 (by omega)
    unfold barN at this
    rw [key 4] at this
    exact this
  unfold barN
  rw [key n]
  exact bar_addN gl p0 p1 b0 b4 n
/-- what is told of a row done so often, lap by lap from the k-th -/
def rnd (row : List Int) : Nat → Nat → Int × List Int → D
  | 0, _, st => .tuple [.str "done", sD st.1 st.2]
  | n + 1, k, st => match bar st.1 st.2 row with
    | some a => .tuple [.str "barred", .int (k : Nat), .int (a : Nat)]
    | none => rnd row n (k + 1) (wEnd st.1 st.2 row)
theorem rnd_done (row : List Int) : ∀ (n k : Nat) (st : Int × List Int), (∀ m < n, barN row m st = none) → rnd row n k st = .tuple [.str "done", sD (lapE row n st).1 (lapE row n st).2]
  | 0, k, st, _ => rfl
  | n + 1, k, st, h => by
    have h0 : bar st.1 st.2 row = none := h 0 (by omega)
    unfold rnd
    rw [h0]
    exact rnd_done row n (k + 1) _ fun m hm => h (m + 1) (by omega)
theorem rnd_bar (row : List Int) : ∀ (m n k : Nat) (st : Int × List Int) (a : Nat), m < n → (∀ j < m, barN row j st = none) → barN row m st = some a → rnd row n k st = .tuple [.str "barred", .int ((k + m : Nat) : Int), .int (a : Nat)]
  | 0, 0, _, _, _, h, _, _ => by omega
  | 0, n + 1, k, st, a, _, _, hb => by
    have hb : bar st.1 st.2 row = some a := hb
    unfold rnd
    rw [hb]
    rfl
  | m + 1, 0, _, _, _, h, _, _ => by omega
  | m + 1, n + 1, k, st, a, h, h2, hb => by
    have h0 : bar st.1 st.2 row = none := h2 0 (by omega)
    unfold rnd
    rw [h0]
    show rnd row n (k + 1) (wEnd st.1 st.2 row) = _
    rw [rnd_bar row m n (k + 1) _ a (by omega) (fun j hj => h2 (j + 1) (by omega)) hb]
    congr 4
    omega
/-- either five laps are let, or one of them bars first -/
theorem five (row : List Int) (st : Int × List Int) : ∀ n : Nat, (∀ m < n, barN row m st = none) ∨ ∃ m a, m < n ∧ (∀ j < m, barN row j st = none) ∧ barN row m st = some a
  | 0 => .inl fun m hm => by omega
  | n + 1 => by
    rcases five row st n with h | ⟨m, a, h1, h2, h3⟩
    · cases c : barN row n st with
      | none =>
        refine .inl fun m hm => ?_
        by_cases e : m = n
        · rw [e]; exact c
        · exact h m (by omega)
      | some a => exact .inr ⟨n, a, by omega, h, c⟩
    · exact .inr ⟨m, a, by omega, h2, h3⟩
/-- what the program tells -/
def lapsD (row : List Int) (st : Int × List Int) (t : Nat) : D := rnd row t 0 st
end Tr

set_option Elab.async false
set_option linter.all false
set_option maxRecDepth 100000
set_option maxHeartbeats 4000000
/-! What more laws have alike: their outer loops, comprehensions that draw, more of data. -/
namespace Tr
open PySem
/-- a comprehension whose turns may change the frame's other slots -/
theorem compN_inv {turn : D → Fm → R (Option Vl)} (P : D → Prop) (I : Fm → Prop) : ∀ {ds : List D} {g : Fm}, I g → (∀ d g, I g → d ∈ ds → ∃ v g', turn d g = some (some (.fz v), g') ∧ P v ∧ I g') → ∃ (vs : List D) (g' : Fm), compN turn ds g = some (vs.map Vl.fz, g') ∧ vs.length = ds.length ∧ (∀ v ∈ vs, P v) ∧ I g'
  | [], g, h, _ => ⟨[], g, rfl, rfl, by simp, h⟩
  | d :: ds, g, h, ht => by
    obtain ⟨v, g1, e1, p1, i1⟩ := ht d g h List.mem_cons_self
    obtain ⟨vs, g2, e2, l2, p2, i2⟩ := compN_inv P I i1 fun d' g' hi hm => ht d' g' hi (List.mem_cons_of_mem _ hm)
    refine ⟨v :: vs, g2, ?_, by simp [l2], ?_, i2⟩
    · unfold compN
      rw [e1]
      simp only [Option.bind_some, e2, Option.map_some]
      rfl
    · intro w hw
      rcases List.mem_cons.mp hw with rfl | hw
      · exact p1
      · exact p2 w hw
theorem ev_comp_inv {G : Fs} {elt : E} {tg : Tg} {it : It} {cond : Option E} {ws : List Nat} {fr fr1 : Fm} {ds : List D} (P : D → Prop) (I : Fm → Prop) (hi : its G it fr = some (ds, fr1)) (h0 : I fr1)
    (ht : ∀ d g, I g → d ∈ ds → ∃ v g', turn0 G elt tg cond d (wipeF g ws) = some (some (.fz v), g') ∧ P v ∧ I g') (hsz : ds.length ≤ 16777216) :
    ∃ (vs : List D) (g : Fm), ev G (.comp elt tg it cond ws false) fr = some (.st (.ol vs), unwipe fr1 g ws) ∧ vs.length = ds.length ∧ (∀ v ∈ vs, P v) ∧ I g := by
  obtain ⟨vs, g, e1, l, p, i⟩ := compN_inv (turn := turnC G elt tg cond ws) P I h0 (fun d g hg hd => by
    obtain ⟨v, g', e, a, b⟩ := ht d g hg hd
    exact ⟨v, g', e, a, b⟩)
  refine ⟨vs, g, ?_, l, p, i⟩
  unfold ev
  rw [hi]
  show (compN (turnC G elt tg cond ws) ds fr1).bind _ = _
  rw [e1]
  have hs : okSz (vs.map Vl.fz).length = true := by
    unfold okSz
    exact decide_eq_true (by rw [List.length_map, l]; exact hsz)
  show (if okSz (vs.map Vl.fz).length then _ else _) = _
  rw [if_pos hs, if_neg (by decide)]
  have : froz (vs.map Vl.fz) = vs := by
    unfold froz
    rw [List.map_map]
    show vs.map (fun d => (Vl.fz d).strip) = vs
    simp [Vl.strip]
  rw [this]
/-- the loop over cells and laps that most laws have -/
theorem outer_run {G : Fs} {ce pe : Nat} (hce : PCell G ce) (hpe : PPen G pe) (ns : List Int) {N M : Int} (hN : 1 ≤ N ∧ N ≤ 100) (hM : 0 ≤ M ∧ M ≤ 1000) {m : Nat} {inner : List S}
    (hin : ∀ (j : Int) (y : Vl) (o1 o3 : Option Vl) (rest : Fm), IsPen y → 0 ≤ j → j < M → rest.length = m → ∃ (y' : Vl) (o3' : Option Vl) (rest' : Fm), turnF G [] (Tg.n 3) inner (.int j) (some (.scr ns) :: o1 :: some y :: o3 :: rest) = some (.nx, some (.scr ns) :: o1 :: some y' :: o3' :: rest') ∧ IsPen y' ∧ rest'.length = m) :
    ∃ ps, runF G ⟨1, m + 4, [S.for (Tg.n 1) (It.rg1 (E.bi Bi.max [cI 1, E.bi Bi.min [E.bi Bi.len [E.var 0], cI N]])) [S.asg (Tg.n 2) (E.call pe [E.call ce [E.var 0, E.var 1]]), S.for (Tg.n 3) (It.rg1 (cI M)) inner], S.ret (E.con (.bool true))]⟩ [.scr ns] = some (.fz (.bool true), ps) := by
  let J : Fm → Prop := fun fr => ∃ (y : Vl) (o1 o3 : Option Vl) (rest : Fm), fr = some (.scr ns) :: o1 :: some y :: o3 :: rest ∧ IsPen y ∧ rest.length = m
  let I : Fm → Prop := fun fr => ∃ (o1 o2 o3 : Option Vl) (rest : Fm), fr = some (.scr ns) :: o1 :: o2 :: o3 :: rest ∧ rest.length = m
  let n : Int := if (if N < (ns.length : Int) then N else (ns.length : Int)) > 1 then (if N < (ns.length : Int) then N else (ns.length : Int)) else 1
  have loop : ∃ g', forN (turnF G [] (Tg.n 1) [S.asg (Tg.n 2) (E.call pe [E.call ce [E.var 0, E.var 1]]), S.for (Tg.n 3) (It.rg1 (cI M)) inner]) (rangeD 0 n) (some (.scr ns) :: none :: none :: none :: List.replicate m none) = some (.nx, g') ∧ I g' := by
    refine forN_inv I ⟨_, _, _, _, rfl, List.length_replicate⟩ ?_
    rintro d g ⟨o1, o2, o3, rest, rfl, hr⟩ hd
    obtain ⟨i, rfl, i0, -⟩ := mem_range hd
    obtain ⟨v, e1⟩ := hce ns i i0
    obtain ⟨y, e2, hy⟩ := hpe v
    have lp : ∃ g', forN (turnF G [] (Tg.n 3) inner) (rangeD 0 M) (some (.scr ns) :: some (.fz (.int i)) :: some y :: o3 :: rest) = some (.nx, g') ∧ J g' := by
      refine forN_inv J ⟨_, _, _, _, rfl, hy, hr⟩ ?_
      rintro d g ⟨y, o1, o3, rest, rfl, hy, hr⟩ hd
      obtain ⟨j, rfl, j0, j1⟩ := mem_range hd
      obtain ⟨y', a3, r', et, hy', hr'⟩ := hin j y o1 o3 rest hy j0 j1 hr
      exact ⟨_, et, ⟨_, _, _, _, rfl, hy', hr'⟩⟩
    obtain ⟨g', el, y', b1, b3, br, rfl, -, hbr⟩ := lp
    obtain ⟨a, b, c, rfl, -, -⟩ := id hy
    have sm : smallI M = true := small_ok hM.1 (by omega)
    refine ⟨_, ?_, ⟨b1, some y', b3, br, rfl, hbr⟩⟩
    simp [turnF, e1, e2, sm, el]
  obtain ⟨g', el, o1, o2, o3, rest, rfl, -⟩ := loop
  have sm : smallI n = true := small_ok (by simp only [n]; split <;> (try split) <;> omega) (by simp only [n]; split <;> (try split) <;> omega)
  refine ⟨[.scr ns], ?_⟩
  have en : (if (if N < (ns.length : Int) then N else (ns.length : Int)) > 1 then (if N < (ns.length : Int) then N else (ns.length : Int)) else 1) = n := rfl
  clear_value n
  have en' : (if 1 < (if N < (ns.length : Int) then N else (ns.length : Int)) then (if N < (ns.length : Int) then N else (ns.length : Int)) else 1) = n := en
  have er : List.replicate (m + 3) (none : Option Vl) = none :: none :: none :: List.replicate m none := rfl
  have em : m + 4 - 1 = m + 3 := rfl
  simp [runF, en', sm, el, er]
/-- the loop over the first cell and up to so many more -/
theorem outer2_run {G : Fs} {ce pe : Nat} (hce : PCell G ce) (hpe : PPen G pe) (ns : List Int) {N M : Int} (hN : 1 ≤ N ∧ N ≤ 100) (hM : 0 ≤ M ∧ M ≤ 1000) {m : Nat} {inner : List S}
    (hin : ∀ (j : Int) (y : Vl) (o1 o3 : Option Vl) (rest : Fm), IsPen y → 0 ≤ j → j < M → rest.length = m → ∃ (y' : Vl) (o3' : Option Vl) (rest' : Fm), turnF G [] (Tg.n 3) inner (.int j) (some (.scr ns) :: o1 :: some y :: o3 :: rest) = some (.nx, some (.scr ns) :: o1 :: some y' :: o3' :: rest') ∧ IsPen y' ∧ rest'.length = m) :
    ∃ ps, runF G ⟨1, m + 4, [S.for (Tg.n 1) (It.li (E.bin Bop.add (E.lst [E.call ce [E.var 0, cI 0]]) ((E.var 0).slc (some (cI 1)) (some (cI N)) false))) [S.asg (Tg.n 2) (E.call pe [E.var 1]), S.for (Tg.n 3) (It.rg1 (cI M)) inner], S.ret (E.con (.bool true))]⟩ [.scr ns] = some (.fz (.bool true), ps) := by
  let J : Fm → Prop := fun fr => ∃ (y : Vl) (o1 o3 : Option Vl) (rest : Fm), fr = some (.scr ns) :: o1 :: some y :: o3 :: rest ∧ IsPen y ∧ rest.length = m
  let I : Fm → Prop := fun fr => ∃ (o1 o2 o3 : Option Vl) (rest : Fm), fr = some (.scr ns) :: o1 :: o2 :: o3 :: rest ∧ rest.length = m
  obtain ⟨v0, e0⟩ := hce ns 0 (by decide)
  have loop : ∃ g', forN (turnF G [] (Tg.n 1) [S.asg (Tg.n 2) (E.call pe [E.var 1]), S.for (Tg.n 3) (It.rg1 (cI M)) inner]) (.int v0 :: cutL (ns.map .int) (some 1) (some N)) (some (.scr ns) :: none :: none :: none :: List.replicate m none) = some (.nx, g') ∧ I g' := by
    refine forN_inv I ⟨_, _, _, _, rfl, List.length_replicate⟩ ?_
    rintro d g ⟨o1, o2, o3, rest, rfl, hr⟩ hd
    have : ∃ n : Int, d = .int n := by
      rcases List.mem_cons.mp hd with rfl | hd
      · exact ⟨_, rfl⟩
      · unfold cutL at hd
        have := List.mem_of_mem_drop (List.mem_of_mem_take hd)
        obtain ⟨n, -, rfl⟩ := List.mem_map.mp this
        exact ⟨_, rfl⟩
    obtain ⟨n, rfl⟩ := this
    obtain ⟨y, e2, hy⟩ := hpe n
    have lp : ∃ g', forN (turnF G [] (Tg.n 3) inner) (rangeD 0 M) (some (.scr ns) :: some (.fz (.int n)) :: some y :: o3 :: rest) = some (.nx, g') ∧ J g' := by
      refine forN_inv J ⟨_, _, _, _, rfl, hy, hr⟩ ?_
      rintro d g ⟨y, o1, o3, rest, rfl, hy, hr⟩ hd
      obtain ⟨j, rfl, j0, j1⟩ := mem_range hd
      obtain ⟨y', a3, r', et, hy', hr'⟩ := hin j y o1 o3 rest hy j0 j1 hr
      exact ⟨_, et, ⟨_, _, _, _, rfl, hy', hr'⟩⟩
    obtain ⟨g', el, y', b1, b3, br, rfl, -, hbr⟩ := lp
    obtain ⟨a, b, c, rfl, -, -⟩ := id hy
    have sm : smallI M = true := small_ok hM.1 (by omega)
    refine ⟨_, ?_, ⟨b1, some y', b3, br, rfl, hbr⟩⟩
    simp [turnF, e2, sm, el]
  obtain ⟨g', el, o1, o2, o3, rest, rfl, -⟩ := loop
  have z1 : okSz 1 = true := by decide
  have zc : okSz ((cutL (ns.map PyData.int) (some 1) (some N)).length + 1) = true := okSz_ok (by
    unfold cutL
    rw [List.length_take]
    have : HT.sIx (ns.map PyData.int).length (ns.map PyData.int).length (some N) - HT.sIx (ns.map PyData.int).length 0 (some 1) ≤ 100 := by
      unfold HT.sIx
      simp only []
      rw [if_neg (by omega : ¬ N < 0)]
      omega
    omega)
  have zc' := zc
  rw [Nat.add_comm] at zc'
  have er : List.replicate (m + 3) (none : Option Vl) = none :: none :: none :: List.replicate m none := rfl
  refine ⟨[.scr ns], ?_⟩
  simp [runF, e0, z1, zc, zc', el, er]
/-! ### more of data -/
theorem pairs_ints : ∀ (as bs : List Int), pairs (as.map .int) (bs.map .int) = (as.zip bs).map fun x => .tuple [.int x.1, .int x.2]
  | [], _ => rfl
  | _ :: _, [] => rfl
  | a :: as, b :: bs => by
    simp only [List.map_cons, pairs, List.zip_cons_cons, pairs_ints as bs]
theorem cutL_map {α β : Type} (f : α → β) (l : List α) (lo hi : Option Int) : cutL (l.map f) lo hi = (cutL l lo hi).map f := by
  unfold cutL
  rw [List.length_map, List.map_take, List.map_drop]
def repI (k : Int) (l : List Int) : List Int := (List.replicate k.toNat l).flatten
theorem repD_map (k : Int) (l : List Int) : repD k (l.map .int) = (repI k l).map .int := by
  unfold repD repI
  rw [List.map_flatten, List.map_replicate]
theorem repI_mem {k : Int} {l : List Int} {x : Int} (h : x ∈ repI k l) : x ∈ l := by
  unfold repI at h
  obtain ⟨m, h1, h2⟩ := List.mem_flatten.mp h
  rw [List.eq_of_mem_replicate h1] at h2
  exact h2
theorem repI_len (k : Int) (l : List Int) : (repI k l).length = k.toNat * l.length := by
  unfold repI
  induction k.toNat with
  | zero => simp
  | succ n ih => rw [List.replicate_succ, List.flatten_cons, List.length_append, ih, Nat.add_mul]; omega
theorem cutL_mem {α : Type} {l : List α} {lo hi : Option Int} {x : α} (h : x ∈ cutL l lo hi) : x ∈ l := by
  unfold cutL at h
  exact List.mem_of_mem_drop (List.mem_of_mem_take h)
theorem cutL_to {α : Type} (l : List α) {n : Int} (hn : 0 ≤ n) : cutL l none (some n) = l.take n.toNat := by
  unfold cutL HT.sIx
  simp only [List.drop_zero, Nat.sub_zero]
  rw [if_neg (by omega)]
  by_cases c : n.toNat ≤ l.length
  · rw [Nat.min_eq_left c]
  · rw [Nat.min_eq_right (by omega), List.take_length, List.take_of_length_le (by omega)]
end Tr

set_option Elab.async false
set_option linter.all false
set_option maxRecDepth 100000
set_option maxHeartbeats 4000000
/-! Equality of data with itself; walks mapped. -/
namespace Tr
open PySem
mutual
theorem eqv_self : ∀ d : D, d.canLay0 = true → PyData.eqv d d = true
  | .none, _ => by simp [PyData.eqv]
  | .bool _, _ => by simp [PyData.eqv]
  | .int _, _ => by simp [PyData.eqv]
  | .str _, _ => by simp [PyData.eqv]
  | .list xs, h => by
    have h' : PyData.canLayAll0 xs = true := h
    simp only [PyData.eqv]
    exact eqvAll_self xs h'
  | .tuple xs, h => by
    have h' : PyData.canLayAll0 xs = true := h
    simp only [PyData.eqv]
    exact eqvAll_self xs h'
  | .dict _, h => by cases h
theorem eqvAll_self : ∀ xs : List D, PyData.canLayAll0 xs = true → PyData.eqvAll xs xs = true
  | [], _ => by simp [PyData.eqvAll]
  | x :: xs, h => by
    have h' : (x.canLay0 && PyData.canLayAll0 xs) = true := h
    rw [Bool.and_eq_true] at h'
    simp only [PyData.eqvAll, eqv_self x h'.1, eqvAll_self xs h'.2]
    rfl
end
theorem eq_self {d : D} (h : SeqAt.shaped d = true) : cmpD .eq d d = some true := by
  have e := eqv_self d (SeqAt.canLay_of_shaped h)
  by_cases c : ∃ x, d = .str x
  · obtain ⟨x, rfl⟩ := c
    show some (decide (x = x)) = _
    simp
  · have : cmpD .eq d d = if okEq d d then some (PyData.eqv d d) else none := by
      cases d <;> first | rfl | exact (c ⟨_, rfl⟩).elim | (exact absurd h (by simp [SeqAt.shaped, PyData.canLay0]))
    rw [this, e]
    unfold okEq
    rw [h]
    rfl
theorem ne_self {d : D} (h : SeqAt.shaped d = true) : cmpD .ne d d = some false := by
  have e := eqv_self d (SeqAt.canLay_of_shaped h)
  by_cases c : ∃ x, d = .str x
  · obtain ⟨x, rfl⟩ := c
    show some (!decide (x = x)) = _
    simp
  · have : cmpD .ne d d = if okEq d d then some (!PyData.eqv d d) else none := by
      cases d <;> first | rfl | exact (c ⟨_, rfl⟩).elim | (exact absurd h (by simp [SeqAt.shaped, PyData.canLay0]))
    rw [this, e]
    unfold okEq
    rw [h]
    rfl
theorem ne_int (a b : Int) : cmpD .ne (.int a) (.int b) = some (!decide (a = b)) := by
  have : cmpD .ne (.int a) (.int b) = some (!PyData.eqv (.int a) (.int b)) := rfl
  rw [this]
  simp only [PyData.eqv]
  congr 2
@[simp] theorem idx_2 (x y z : D) (xs : List D) : idxD (.tuple (x :: y :: z :: xs)) (.int 2) = some z := by
  simp only [idxD, List.length_cons]
  rw [place_ok (by omega) (by omega)]
  rfl
theorem intsD_map : ∀ ns : List Int, intsD (ns.map .int) = some ns
  | [] => rfl
  | n :: ns => by
    rw [List.map_cons]
    show (intsD (ns.map .int)).map (n :: ·) = _
    rw [intsD_map ns]
    rfl
theorem sum_ints (ns : List Int) : biD .sum [.list (ns.map .int)] = some (.fz (.int ns.sum)) := by
  show (intsD (ns.map .int)).map _ = _
  rw [intsD_map]
  rfl
/-! ### walks mapped -/
/-- a way to map stands and steps that walks bear -/
structure Glass (f : Int × List Int → Int × List Int) (g : Int → Int) (P : Int × List Int → Prop) : Prop where
  lt : ∀ p hs s, IsSt p hs → P (p, hs) → letB (f (p, hs)).1 (f (p, hs)).2 (g s) = letB p hs s
  st : ∀ p hs s, IsSt p hs → P (p, hs) → letB p hs s = true → ((f (p, hs)).1 + g s, raiseH (f (p, hs)).2 (f (p, hs)).1) = f (p + s, raiseH hs p) ∧ P (p + s, raiseH hs p)
section
variable {f : Int × List Int → Int × List Int} {g : Int → Int} {P : Int × List Int → Prop}
theorem Glass.bar (R : Glass f g P) : ∀ {ws : List Int} {p : Int} {hs : List Int}, IsSt p hs → P (p, hs) → Tr.bar (f (p, hs)).1 (f (p, hs)).2 (ws.map g) = Tr.bar p hs ws
  | [], _, _, _, _ => rfl
  | s :: ws, p, hs, h, hp => by
    rw [List.map_cons]
    unfold Tr.bar
    rw [R.lt p hs s h hp]
    cases c : letB p hs s with
    | false => rfl
    | true =>
      obtain ⟨e, p2⟩ := R.st p hs s h hp c
      have ih := R.bar (ws := ws) (h.step c) p2
      rw [← e] at ih
      simp only [if_true]
      rw [ih]
theorem Glass.end (R : Glass f g P) : ∀ {ws : List Int} {p : Int} {hs : List Int}, IsSt p hs → P (p, hs) → IsWalk p hs ws → wEnd (f (p, hs)).1 (f (p, hs)).2 (ws.map g) = f (wEnd p hs ws) ∧ P (wEnd p hs ws)
  | [], _, _, _, hp, _ => ⟨rfl, hp⟩
  | s :: ws, p, hs, h, hp, ⟨_, c, hw⟩ => by
    obtain ⟨e, p2⟩ := R.st p hs s h hp c
    have ih := R.end (ws := ws) (h.step c) p2 hw
    rw [← e] at ih
    exact ih
theorem Glass.rnd (R : Glass f g P) {row : List Int} (hr : Stps row) : ∀ (n k : Nat) (st : Int × List Int), IsSt st.1 st.2 → P st →
    (∃ m a, Tr.rnd row n k st = .tuple [.str "barred", .int m, .int a] ∧ Tr.rnd (row.map g) n k (f st) = .tuple [.str "barred", .int m, .int a]) ∨
    (∃ q : Int × List Int, Tr.rnd row n k st = .tuple [.str "done", sD q.1 q.2] ∧ Tr.rnd (row.map g) n k (f st) = .tuple [.str "done", sD (f q).1 (f q).2] ∧ IsSt q.1 q.2 ∧ P q ∧ q.2.length = st.2.length)
  | 0, k, st, h, hp => .inr ⟨st, rfl, rfl, h, hp, rfl⟩
  | n + 1, k, (p, hs), h, hp => by
    have e1 := R.bar (ws := row) h hp
    unfold Tr.rnd
    simp only [e1]
    cases c : Tr.bar p hs row with
    | some a => exact .inl ⟨_, _, rfl, rfl⟩
    | none =>
      have hw := (bar_walk hr).mp c
      obtain ⟨e2, p2⟩ := R.end h hp hw
      simp only [e2]
      rcases R.rnd hr n (k + 1) (wEnd p hs row) (walk_end h hw) p2 with h1 | ⟨q, q1, q2, q3, q4, q5⟩
      · exact .inl h1
      · exact .inr ⟨q, q1, q2, q3, q4, q5.trans (end_len row p hs)⟩
end
/-- the other way about -/
def mirS (st : Int × List Int) : Int × List Int := ((st.2.length : Int) - 1 - st.1, st.2.reverse)
theorem at_rev {hs : List Int} {q : Int} (h0 : 0 ≤ q) (h1 : q < hs.length) : at' hs.reverse ((hs.length : Int) - 1 - q) = at' hs q := by
  unfold at'
  have a : q.toNat < hs.length := by omega
  have e : ((hs.length : Int) - 1 - q).toNat = hs.length - 1 - q.toNat := by omega
  rw [e, List.getD_eq_getElem?_getD, List.getD_eq_getElem?_getD, List.getElem?_reverse (by omega)]
  congr 2
  omega
theorem raise_rev {hs : List Int} {p : Int} (h0 : 0 ≤ p) (h1 : p < hs.length) : raiseH hs.reverse ((hs.length : Int) - 1 - p) = (raiseH hs p).reverse := by
  have ea := at_rev h0 h1
  unfold raiseH
  rw [ea]
  have e : ((hs.length : Int) - 1 - p).toNat = hs.length - 1 - p.toNat := by omega
  rw [e]
  refine List.ext_getElem? fun i => ?_
  by_cases hi : i < hs.length
  · rw [List.getElem?_set, List.getElem?_reverse hi, List.getElem?_reverse (by rw [List.length_set]; exact hi), List.getElem?_set, List.length_set, List.length_reverse]
    by_cases c : hs.length - 1 - p.toNat = i
    · have c2 : p.toNat = hs.length - 1 - i := by omega
      rw [if_pos c, if_pos (by omega), if_pos c2, if_pos (by omega)]
    · have c2 : ¬ p.toNat = hs.length - 1 - i := by omega
      rw [if_neg c, if_neg c2]
  · rw [List.getElem?_eq_none (by simp; omega), List.getElem?_eq_none (by simp; omega)]
theorem glass_mir : Glass mirS (fun s => 0 - s) fun _ => True where
  lt := fun p hs s h _ => by
    obtain ⟨_, p0, p1⟩ := h
    have e1 : (mirS (p, hs)).1 + (0 - s) = (hs.length : Int) - 1 - (p + s) := by simp only [mirS]; omega
    have e2 : (mirS (p, hs)).2.length = hs.length := by simp [mirS]
    unfold letB
    rw [e1, e2]
    by_cases c : 0 ≤ p + s ∧ p + s < hs.length
    · have a1 : at' (mirS (p, hs)).2 ((hs.length : Int) - 1 - (p + s)) = at' hs (p + s) := at_rev c.1 c.2
      have a2 : at' (mirS (p, hs)).2 (mirS (p, hs)).1 = at' hs p := at_rev p0 p1
      rw [a1, a2]
      congr 2
      rw [Bool.eq_iff_iff]
      simp only [Bool.and_eq_true, decide_eq_true_eq]
      omega
    · have f1 : (decide (0 ≤ p + s) && decide (p + s < (hs.length : Int))) = false := by
        rw [Bool.and_eq_false_iff, decide_eq_false_iff_not, decide_eq_false_iff_not]
        omega
      have f2 : (decide (0 ≤ (hs.length : Int) - 1 - (p + s)) && decide ((hs.length : Int) - 1 - (p + s) < (hs.length : Int))) = false := by
        rw [Bool.and_eq_false_iff, decide_eq_false_iff_not, decide_eq_false_iff_not]
        omega
      rw [f1, f2]
      rfl
  st := fun p hs s h _ c => by
    obtain ⟨_, p0, p1⟩ := h
    refine ⟨Prod.ext ?_ ?_, trivial⟩
    · simp only [mirS, raise_len]; omega
    · exact raise_rev p0 p1
/-- all heights as much higher -/
def liftS (c : Int) (st : Int × List Int) : Int × List Int := (st.1, st.2.map (· + c))
theorem at_lift {hs : List Int} {q c : Int} (h0 : 0 ≤ q) (h1 : q < hs.length) : at' (hs.map (· + c)) q = at' hs q + c := by
  unfold at'
  have a : q.toNat < hs.length := by omega
  rw [List.getD_eq_getElem?_getD, List.getD_eq_getElem?_getD, List.getElem?_map, List.getElem?_eq_getElem a]
  rfl
theorem glass_lift (c : Int) : Glass (liftS c) (fun s => s) fun _ => True where
  lt := fun p hs s h _ => by
    obtain ⟨_, p0, p1⟩ := h
    show letB p (hs.map (· + c)) s = letB p hs s
    unfold letB
    rw [List.length_map]
    by_cases k : 0 ≤ p + s ∧ p + s < hs.length
    · rw [at_lift k.1 k.2, at_lift p0 p1]
      congr 2
      · congr 1
        rw [eq_iff_iff]; omega
      · rw [eq_iff_iff]; omega
    · have f1 : (decide (0 ≤ p + s) && decide (p + s < (hs.length : Int))) = false := by
        rw [Bool.and_eq_false_iff, decide_eq_false_iff_not, decide_eq_false_iff_not]
        omega
      rw [f1]
      rfl
  st := fun p hs s h _ k => by
    obtain ⟨_, p0, p1⟩ := h
    refine ⟨Prod.ext rfl ?_, trivial⟩
    show raiseH (hs.map (· + c)) p = (raiseH hs p).map (· + c)
    unfold raiseH
    rw [at_lift p0 p1, List.map_set]
    congr 1
    omega
/-! ### sums -/
theorem sum_set : ∀ {hs : List Int} {i : Nat} {x : Int}, i < hs.length → (hs.set i x).sum = hs.sum - hs.getD i 0 + x
  | [], _, _, h => by simp at h
  | a :: hs, 0, x, _ => by simp [List.set_cons_zero]; omega
  | a :: hs, i + 1, x, h => by
    have := sum_set (hs := hs) (i := i) (x := x) (by simpa using h)
    simp only [List.set_cons_succ, List.sum_cons, this, List.getD_cons_succ]
    omega
theorem sum_raise {hs : List Int} {p : Int} (h0 : 0 ≤ p) (h1 : p < hs.length) : (raiseH hs p).sum = hs.sum + 1 := by
  unfold raiseH
  rw [sum_set (by omega)]
  unfold at'
  omega
theorem sum_end : ∀ {ws : List Int} {p : Int} {hs : List Int}, IsSt p hs → IsWalk p hs ws → (wEnd p hs ws).2.sum = hs.sum + ws.length
  | [], _, _, _, _ => by simp [wEnd]
  | s :: ws, p, hs, h, ⟨_, c, hw⟩ => by
    show (wEnd (p + s) (raiseH hs p) ws).2.sum = _
    rw [sum_end (h.step c) hw, sum_raise h.2.1 h.2.2, List.length_cons]
    push_cast
    omega
theorem sum_sub : ∀ (hs ks : List Int), hs.length = ks.length → (List.zipWith (fun a b => b - a) hs ks).sum = ks.sum - hs.sum
  | [], [], _ => rfl
  | [], _ :: _, h => by cases h
  | _ :: _, [], h => by cases h
  | a :: hs, b :: ks, h => by
    have ih := sum_sub hs ks (by simpa using h)
    simp only [List.zipWith_cons_cons, List.sum_cons, ih]
    omega
theorem sum_gain {row : List Int} {st : Int × List Int} (h : IsSt st.1 st.2) (hw : IsWalk st.1 st.2 row) : (gain row st).sum = row.length := by
  unfold gain
  rw [sum_sub _ _ (end_len row st.1 st.2).symm, sum_end h hw]
  omega
/-! ### walks one behind the other -/
theorem bar_cons (p : Int) (hs : List Int) (s : Int) (ws : List Int) : bar p hs (s :: ws) = if letB p hs s then (bar (p + s) (raiseH hs p) ws).map (· + 1) else some 0 := rfl
theorem bar_app : ∀ (xs ys : List Int) (p : Int) (hs : List Int), bar p hs (xs ++ ys) = match bar p hs xs with
    | some a => some a
    | none => (bar (wEnd p hs xs).1 (wEnd p hs xs).2 ys).map (· + xs.length)
  | [], ys, p, hs => by simp [bar, wEnd]
  | s :: xs, ys, p, hs => by
    rw [List.cons_append, bar_cons, bar_cons]
    cases c : letB p hs s with
    | false => simp
    | true =>
      simp only [if_true]
      rw [bar_app xs ys (p + s) (raiseH hs p)]
      cases c2 : bar (p + s) (raiseH hs p) xs with
      | some a => rfl
      | none =>
        show Option.map (fun x => x + 1) (Option.map (fun x => x + xs.length) (bar (wEnd (p + s) (raiseH hs p) xs).1 (wEnd (p + s) (raiseH hs p) xs).2 ys)) = Option.map (fun x => x + (s :: xs).length) (bar (wEnd (p + s) (raiseH hs p) xs).1 (wEnd (p + s) (raiseH hs p) xs).2 ys)
        rw [Option.map_map]
        congr 1
theorem end_app : ∀ (xs ys : List Int) (p : Int) (hs : List Int), wEnd p hs (xs ++ ys) = wEnd (wEnd p hs xs).1 (wEnd p hs xs).2 ys
  | [], ys, p, hs => rfl
  | s :: xs, ys, p, hs => end_app xs ys (p + s) (raiseH hs p)
theorem rep_succ (row : List Int) (t : Nat) : repI ((t + 1 : Nat) : Int) row = row ++ repI (t : Int) row := by
  unfold repI
  rw [Int.toNat_natCast, Int.toNat_natCast, List.replicate_succ, List.flatten_cons]
theorem bar_rep_none (row : List Int) : ∀ (t : Nat) (st : Int × List Int), (∀ m < t, barN row m st = none) → bar st.1 st.2 (repI (t : Int) row) = none ∧ wEnd st.1 st.2 (repI (t : Int) row) = lapE row t st
  | 0, st, _ => ⟨rfl, rfl⟩
  | t + 1, st, h => by
    have h0 : bar st.1 st.2 row = none := h 0 (by omega)
    obtain ⟨i1, i2⟩ := bar_rep_none row t (wEnd st.1 st.2 row) fun m hm => h (m + 1) (by omega)
    rw [rep_succ, bar_app, end_app, h0]
    simp only [i1, i2]
    exact ⟨rfl, rfl⟩
theorem bar_rep_some (row : List Int) : ∀ (m t : Nat) (st : Int × List Int) (a : Nat), m < t → (∀ j < m, barN row j st = none) → barN row m st = some a → bar st.1 st.2 (repI (t : Int) row) = some (m * row.length + a)
  | 0, 0, _, _, h, _, _ => by omega
  | 0, t + 1, st, a, _, _, hb => by
    have hb : bar st.1 st.2 row = some a := hb
    rw [rep_succ, bar_app, hb]
    simp
  | m + 1, 0, _, _, h, _, _ => by omega
  | m + 1, t + 1, st, a, h, h2, hb => by
    have h0 : bar st.1 st.2 row = none := h2 0 (by omega)
    have ih := bar_rep_some row m t (wEnd st.1 st.2 row) a (by omega) (fun j hj => h2 (j + 1) (by omega)) hb
    rw [rep_succ, bar_app, h0]
    simp only [ih, Option.map_some]
    congr 1
    rw [Nat.add_mul]
    omega
theorem rnd_add (row : List Int) : ∀ (a b k : Nat) (st : Int × List Int), (∀ m < a, barN row m st = none) → rnd row (a + b) k st = rnd row b (k + a) (lapE row a st)
  | 0, b, k, st, _ => by rw [Nat.zero_add]; rfl
  | a + 1, b, k, st, h => by
    have h0 : bar st.1 st.2 row = none := h 0 (by omega)
    rw [show a + 1 + b = (a + b) + 1 by omega]
    conv => lhs; unfold rnd
    rw [h0]
    simp only []
    rw [rnd_add row a b (k + 1) (wEnd st.1 st.2 row) fun m hm => h (m + 1) (by omega), show k + 1 + a = k + (a + 1) by omega]
    rfl
end Tr

set_option Elab.async false
set_option linter.all false
set_option maxRecDepth 100000
set_option maxHeartbeats 4000000
/-! More steps of the interpreter: calls by names, lists of lists, two clauses; minima, maxima, last items. -/
namespace Tr
open PySem
section
variable (G : Fs)
@[simp] theorem ev_callk (f : Nat) (args : List E) (perm : List Nat) (fr : Fm) : ev G (.callk f args perm) fr = (evs G args fr).bind fun r => (pickP r.1 perm).bind fun ps => (lend ps r.2).bind fun q => (G f q.1).map fun a => (.st a.1, give ps a.2 q.2) := by (conv => lhs; unfold ev) <;> rfl
@[simp] theorem ev_idx2 (s : Nat) (i : E) (j : Nat) (fr : Fm) : ev G (.idx2 s i j) fr = match fr[s]? with
    | some (some (.oo _)) => (ev G i fr).bind fun p => match look p.2 p.1, p.2[s]?, p.2[j]? with
      | some (.int a), some (some (.oo xss)), some (some (.fz (.int b))) => (placeD xss.length a).bind fun k => (xss[k]?).bind fun xs => match idxD (.list xs) (.int b) with
        | some (.int z) => some (.st (.fz (.int z)), p.2)
        | _ => none
      | _, _, _ => none
    | _ => none := by (conv => lhs; unfold ev) <;> rfl
variable (lk : List Nat)
@[simp] theorem exec_sidx2 (s : Nat) (i : E) (j : Nat) (v : E) (fr : Fm) : Tr.exec G lk (.sidx2 s i j v) fr = (ev G v fr).bind fun p => (force p.1 p.2).bind fun x => match x.1, x.2[s]? with
    | .fz (.int n), some (some (.oo _)) => (ev G i x.2).bind fun q => match look q.2 q.1, q.2[s]?, q.2[j]? with
      | some (.int a), some (some (.oo xss)), some (some (.fz (.int b))) => (placeD xss.length a).bind fun k => (xss[k]?).bind fun xs => (placeD xs.length b).map fun m => (.nx, q.2.set s (some (.oo (xss.set k (xs.set m (.int n))))))
      | _, _, _ => none
    | _, _ => none := by (conv => lhs; unfold Tr.exec) <;> rfl
end
@[simp] theorem pickP_nil {α : Type} (xs : List α) : pickP xs [] = some [] := rfl
@[simp] theorem pickP_cons {α : Type} (xs : List α) (i : Nat) (is : List Nat) : pickP xs (i :: is) = (xs[i]?).bind fun x => (pickP xs is).map (x :: ·) := rfl
/-! ### two clauses -/
theorem compFl_map {α : Type} {turn : D → Fm → R (List Vl)} {ws : List Nat} {g0 : Fm} {enc : α → D} {f : α → List D} : ∀ {l : List α}, (∀ x ∈ l, ∀ fr, wipeF fr ws = g0 → ∃ g, turn (enc x) fr = some ((f x).map Vl.fz, g) ∧ wipeF g ws = g0) → ∀ fr, wipeF fr ws = g0 → ∃ fr', compFl turn (l.map enc) fr = some ((l.flatMap f).map Vl.fz, fr') ∧ wipeF fr' ws = g0
  | [], _, fr, hf => ⟨fr, rfl, hf⟩
  | d :: ds, h, fr, hf => by
    obtain ⟨g, e1, e2⟩ := h d List.mem_cons_self fr hf
    obtain ⟨fr', e3, e4⟩ := compFl_map (fun d hd => h d (List.mem_cons_of_mem _ hd)) g e2
    refine ⟨fr', ?_, e4⟩
    rw [List.map_cons]
    unfold compFl
    rw [e1]
    show (compFl turn (ds.map enc) g).map _ = _
    rw [e3]
    simp
theorem ev_comp2_map {α : Type} {G : Fs} {elt : E} {tg : Tg} {it : It} {cond : Option E} {tg1 : Tg} {it1 : It} {cond1 : Option E} {ws ws1 : List Nat} {fr fr1 : Fm} (l : List α) (enc : α → D) (f : α → List D) (hi : its G it fr = some (l.map enc, fr1))
    (ht : ∀ x ∈ l, ∀ fr, wipeF fr ws = wipeF fr1 ws → ∃ g, turn2 G elt tg cond tg1 it1 cond1 ws ws1 (enc x) fr = some ((f x).map Vl.fz, g) ∧ wipeF g ws = wipeF fr1 ws) (hsz : (l.flatMap f).length ≤ 16777216) : ev G (.comp2 elt tg it cond tg1 it1 cond1 ws ws1) fr = some (.st (.ol (l.flatMap f)), fr1) := by
  obtain ⟨fr', e1, e2⟩ := compFl_map (ws := ws) (g0 := wipeF fr1 ws) (f := f) ht fr1 rfl
  unfold ev
  rw [hi]
  show (compFl (turn2 G elt tg cond tg1 it1 cond1 ws ws1) (l.map enc) fr1).bind _ = _
  rw [e1]
  have hs : okSz ((l.flatMap f).map Vl.fz).length = true := by
    unfold okSz
    exact decide_eq_true (by rw [List.length_map]; exact hsz)
  show (if okSz ((l.flatMap f).map Vl.fz).length then _ else _) = _
  rw [if_pos hs, unwipe_of e2]
  have : froz ((l.flatMap f).map Vl.fz) = l.flatMap f := by
    unfold froz
    rw [List.map_map]
    show (l.flatMap f).map (fun d => (Vl.fz d).strip) = _
    simp [Vl.strip]
  rw [this]
/-! ### lists of numbers -/
theorem minL_ints (n : Int) (ns : List Int) : biD .min [.list ((n :: ns).map .int)] = some (.fz (.int (ns.foldl min n))) := by
  have ok := okMin_ints (n :: ns)
  show (if okMin ((n :: ns).map .int) = true then some (Vl.fz (PySem.W.minD (.int n) (ns.map .int))) else none) = _
  rw [if_pos ok, PySem.W.minD_ints]
theorem maxL_ints (n : Int) (ns : List Int) : biD .max [.list ((n :: ns).map .int)] = some (.fz (.int (ns.foldl max n))) := by
  have ok := okMin_ints (n :: ns)
  show (if okMin ((n :: ns).map .int) = true then some (Vl.fz (PySem.W.maxD (.int n) (ns.map .int))) else none) = _
  rw [if_pos ok, PySem.W.maxD_ints]
theorem eq_nilL (ns : List Int) : cmpD .eq (.list (ns.map .int)) (.list []) = some ns.isEmpty := by
  have h1 := shaped_ints ns
  have h2 := shaped_ints []
  show (if okEq (.list (ns.map .int)) (.list []) = true then some (PyData.eqv (.list (ns.map .int)) (.list [])) else none) = _
  rw [if_pos (by unfold okEq; rw [h1]; exact h2), eqv_nilL]
  cases ns <;> rfl
theorem cutL_init {α : Type} (l : List α) : cutL l none (some (-1)) = l.dropLast := by
  unfold cutL HT.sIx
  simp only [List.drop_zero, Nat.sub_zero]
  rw [if_pos (by decide)]
  have : ((-1 : Int) + (l.length : Int)).toNat = l.length - 1 := by omega
  rw [this, List.dropLast_eq_take]
theorem place_last {n : Nat} (h : 0 < n) : placeD n (-1) = some (n - 1) := by
  unfold placeD L2.ixN
  simp
  omega
theorem enum_map {α : Type} (f : α → D) (l : List α) : enumD (l.map f) = l.zipIdx.map fun x => .tuple [.int (x.2 : Nat), f x.1] := by
  have key : ∀ (l : List α) (k : Nat), pairs ((List.range' k l.length).map fun (i : Nat) => PyData.int (i : Int)) (l.map f) = (l.zipIdx k).map fun x => .tuple [.int (x.2 : Nat), f x.1] := by
    intro l
    induction l with
    | nil => intro k; rfl
    | cons a l ih =>
      intro k
      rw [List.length_cons, List.range'_succ, List.map_cons, List.map_cons]
      unfold pairs
      rw [ih (k + 1), List.zipIdx_cons, List.map_cons]
  unfold enumD
  rw [List.length_map, List.range_eq_range']
  exact key l 0
end Tr

set_option Elab.async false
set_option linter.all false
set_option maxRecDepth 100000
set_option maxHeartbeats 4000000
/-! Rows and laps: the program's and the laws' defs. -/
namespace Tr
open PySem
def isWalkFn (isx : Nat) : Fn := ⟨1, 2, [S.ret ((E.bi (Bi.isinst Ty.tuple) [E.var 0]).and (E.bi Bi.all [(E.call isx [E.var 1]).comp (Tg.n 1) (It.li (E.var 0)) none [1] false]))]⟩
def barByFn (il sb : Nat) : Fn := ⟨2, 4, [S.for (Tg.t [Tg.n 2, Tg.n 3]) (It.en (E.var 1)) [S.iff (E.call il [E.var 0, E.var 3]).not [S.retv 2] [], S.asg (Tg.n 0) (E.call sb [E.var 0, E.var 3])], S.ret (E.con .none)]⟩
def behindByFn (sb : Nat) : Fn := ⟨2, 3, [S.for (Tg.n 2) (It.li (E.var 1)) [S.asg (Tg.n 0) (E.call sb [E.var 0, E.var 2])], S.retv 0]⟩
def needRowFn (il iw : Nat) : Fn := ⟨1, 1, [S.iff ((E.call il [E.var 0, cI 1, E.glb (.int 40)]).not.or (E.call iw [E.var 0]).not) [S.stop] []]⟩
def needTimesFn (iw : Nat) : Fn := ⟨1, 1, [S.iff (E.call iw [E.var 0, cI 0, E.glb (.int 1000000000)]).not [S.stop] []]⟩
def lapsFn (ns nr nt bb bb2 : Nat) : Fn := ⟨3, 10, [S.exp (E.call ns [E.var 0]), S.exp (E.call nr [E.var 1]), S.exp (E.call nt [E.var 2]), S.asg (Tg.n 3) (E.var 0), S.for (Tg.n 4) (It.rg1 (E.bi Bi.min [E.var 2, E.glb (.int 5)])) [S.asg (Tg.n 5) (E.call bb [E.var 3, E.var 1]), S.iff ((E.var 5).isc .none true) [S.ret (E.tup [E.glb (.str "barred"), E.var 4, E.var 5])] [], S.asg (Tg.n 3) (E.call bb2 [E.var 3, E.var 1])], S.iff (E.cmp Cop.le (E.var 2) (E.glb (.int 5))) [S.ret (E.tup [E.glb (.str "done"), E.var 3])] [], S.asg (Tg.n 6) ((E.call bb2 [E.var 3, E.var 1]).idx (cI 1)), S.asg (Tg.n 7) (E.bin Bop.sub (E.var 2) (E.glb (.int 5))), S.ret (E.tup [E.glb (.str "done"), E.tup [(E.var 3).idx (cI 0), E.bi Bi.tuple [(E.bin Bop.add (E.var 8) (E.bin Bop.mul (E.var 7) (E.bin Bop.sub (E.var 9) (E.var 8)))).comp (Tg.t [Tg.n 8, Tg.n 9]) (It.zp ((E.var 3).idx (cI 1)) (E.var 6)) none [8, 9] false]]])]⟩
def lawBarFn (ll ls : Nat) : Fn := ⟨2, 4, [S.for (Tg.t [Tg.n 2, Tg.n 3]) (It.en (E.var 1)) [S.iff (E.call ll [E.var 0, E.var 3]).not [S.ret (E.tup [E.var 2, E.var 0])] [], S.asg (Tg.n 0) (E.call ls [E.var 0, E.var 3])], S.ret (E.tup [E.con .none, E.var 0])]⟩
def lawRoundsFn (lb : Nat) : Fn := ⟨3, 6, [S.for (Tg.n 3) (It.rg1 (E.var 2)) [S.asg (Tg.t [Tg.n 4, Tg.n 5]) (E.call lb [E.var 0, E.var 1]), S.iff ((E.var 4).isc .none true) [S.ret (E.tup [E.con (.str "barred"), E.var 3, E.var 4])] [], S.asg (Tg.n 0) (E.var 5)], S.ret (E.tup [E.con (.str "done"), E.var 0])]⟩
theorem IsWalk.stps : ∀ {ws : List Int} {p : Int} {hs : List Int}, IsWalk p hs ws → Stps ws
  | [], _, _, _ => fun _ h => nomatch h
  | s :: ws, p, hs, ⟨h1, _, h3⟩ => fun x hx => by
    rcases List.mem_cons.mp hx with rfl | hx
    · exact h1
    · exact IsWalk.stps h3 x hx
/-! ### walks -/
def PIsWalk (G : Fs) (f : Nat) : Prop := ∀ ws : List Int, Stps ws → ws.length ≤ 1000 → G f [.fz (tI' ws)] = some (.fz (.bool true), [.fz (tI' ws)])
theorem isWalk_run {G : Fs} {isx : Nat} (hi : PIsStep G isx) {ws : List Int} (h : Stps ws) (hl : ws.length ≤ 1000) : runF G (isWalkFn isx) [.fz (tI' ws)] = some (.fz (.bool true), [.fz (tI' ws)]) := by
  have ec : ev G ((E.call isx [E.var 1]).comp (Tg.n 1) (It.li (E.var 0)) none [1] false) [some (.fz (.tuple (ws.map .int))), none] = some (.st (.ol (ws.map fun _ => .bool true)), [some (.fz (.tuple (ws.map .int))), none]) := by
    refine ev_comp_map ws .int (fun _ => .bool true) ?_ ?_ (by omega)
    · simp
    · intro n hn
      have := hi n (h n hn)
      simp [turn0, wipeF, wipeP, this]
  have e2 := bools_map (fun _ => true) ws
  have et : ∀ xs : List D, isTy Ty.tuple (.tuple xs) = true := fun _ => rfl
  simp only [tI'] at *
  simp [runF, isWalkFn, ec, e2, et]
def barD (p : Int) (hs ws : List Int) : D := match bar p hs ws with
  | none => .none
  | some a => .int (a : Nat)
def PBar (G : Fs) (f : Nat) : Prop := ∀ p hs ws, IsSt p hs → Stps ws → ws.length ≤ 1000 → G f [.fz (sD p hs), .fz (tI' ws)] = some (.fz (barD p hs ws), [.fz (sD p hs), .fz (tI' ws)])
theorem barBy_loop {G : Fs} {il sb : Nat} (hil : PLet G il) (hsb : PStepBy G sb) (r : Option Vl) : ∀ (ws : List Int) (k : Nat) (p : Int) (hs : List Int) (o2 o3 : Option Vl), IsSt p hs →
    (bar p hs ws = none ∧ ∃ a2 a3, forN (turnF G [] (Tg.t [Tg.n 2, Tg.n 3]) [S.iff (E.call il [E.var 0, E.var 3]).not [S.retv 2] [], S.asg (Tg.n 0) (E.call sb [E.var 0, E.var 3])]) ((ws.zipIdx k).map fun x => .tuple [.int (x.2 : Nat), .int x.1]) [some (.fz (sD p hs)), r, o2, o3] = some (.nx, [some (.fz (sD (wEnd p hs ws).1 (wEnd p hs ws).2)), r, a2, a3]))
    ∨ ∃ a, bar p hs ws = some a ∧ ∃ a0 a3, forN (turnF G [] (Tg.t [Tg.n 2, Tg.n 3]) [S.iff (E.call il [E.var 0, E.var 3]).not [S.retv 2] [], S.asg (Tg.n 0) (E.call sb [E.var 0, E.var 3])]) ((ws.zipIdx k).map fun x => .tuple [.int (x.2 : Nat), .int x.1]) [some (.fz (sD p hs)), r, o2, o3] = some (.rt (.fz (.int ((k + a : Nat) : Int))), [a0, r, none, a3])
  | [], k, p, hs, o2, o3, h => .inl ⟨rfl, o2, o3, rfl⟩
  | s :: ws, k, p, hs, o2, o3, h => by
    have e1 := hil p hs s h
    have e2 := hsb p hs s h
    rw [List.zipIdx_cons, List.map_cons]
    cases c : letB p hs s with
    | true =>
      rw [c] at e1
      have et : turnF G [] (Tg.t [Tg.n 2, Tg.n 3]) [S.iff (E.call il [E.var 0, E.var 3]).not [S.retv 2] [], S.asg (Tg.n 0) (E.call sb [E.var 0, E.var 3])] (.tuple [.int (k : Nat), .int s]) [some (.fz (sD p hs)), r, o2, o3] = some (.nx, [some (.fz (sD (p + s) (raiseH hs p))), r, some (.fz (.int (k : Nat))), some (.fz (.int s))]) := by
        simp only [sD, tI'] at *
        simp [turnF, e1, e2]
      unfold forN
      rw [et]
      simp only [Option.bind_some]
      unfold bar
      rw [c]
      rcases barBy_loop hil hsb r ws (k + 1) (p + s) (raiseH hs p) (some (.fz (.int (k : Nat)))) (some (.fz (.int s))) (h.step c) with ⟨q1, a2, a3, q2⟩ | ⟨a, q1, a0, a3, q2⟩
      · exact .inl ⟨by simp [q1], a2, a3, q2⟩
      · refine .inr ⟨a + 1, by simp [q1], a0, a3, ?_⟩
        rw [show k + (a + 1) = k + 1 + a by omega]
        exact q2
    | false =>
      rw [c] at e1
      have et : turnF G [] (Tg.t [Tg.n 2, Tg.n 3]) [S.iff (E.call il [E.var 0, E.var 3]).not [S.retv 2] [], S.asg (Tg.n 0) (E.call sb [E.var 0, E.var 3])] (.tuple [.int (k : Nat), .int s]) [some (.fz (sD p hs)), r, o2, o3] = some (.rt (.fz (.int (k : Nat))), [some (.fz (sD p hs)), r, none, some (.fz (.int s))]) := by
        simp only [sD, tI'] at *
        simp [turnF, e1]
      unfold forN
      rw [et]
      simp only [Option.bind_some]
      unfold bar
      rw [c]
      exact .inr ⟨0, rfl, _, _, rfl⟩
theorem barBy_run {G : Fs} {il sb : Nat} (hil : PLet G il) (hsb : PStepBy G sb) {p : Int} {hs ws : List Int} (h : IsSt p hs) : runF G (barByFn il sb) [.fz (sD p hs), .fz (tI' ws)] = some (.fz (barD p hs ws), [.fz (sD p hs), .fz (tI' ws)]) := by
  have en := enum_ints ws
  unfold barD
  rcases barBy_loop hil hsb (some (.fz (tI' ws))) ws 0 p hs none none h with ⟨q1, a2, a3, q2⟩ | ⟨a, q1, a0, a3, q2⟩
  · rw [q1]
    simp only [sD, tI'] at *
    simp [runF, barByFn, en, q2]
  · rw [q1]
    rw [Nat.zero_add] at q2
    simp only [sD, tI'] at *
    simp [runF, barByFn, en, q2]
def PBehind (G : Fs) (f : Nat) : Prop := ∀ p hs ws, IsSt p hs → IsWalk p hs ws → G f [.fz (sD p hs), .fz (tI' ws)] = some (.fz (sD (wEnd p hs ws).1 (wEnd p hs ws).2), [.fz (sD p hs), .fz (tI' ws)])
theorem behind_loop {G : Fs} {sb : Nat} (hsb : PStepBy G sb) (r : Option Vl) : ∀ (ws : List Int) (p : Int) (hs : List Int) (o2 : Option Vl), IsSt p hs → IsWalk p hs ws →
    ∃ a2, forN (turnF G [] (Tg.n 2) [S.asg (Tg.n 0) (E.call sb [E.var 0, E.var 2])]) (ws.map .int) [some (.fz (sD p hs)), r, o2] = some (.nx, [some (.fz (sD (wEnd p hs ws).1 (wEnd p hs ws).2)), r, a2])
  | [], p, hs, o2, _, _ => ⟨o2, rfl⟩
  | s :: ws, p, hs, o2, h, ⟨_, c, hw⟩ => by
    have e2 := hsb p hs s h
    have et : turnF G [] (Tg.n 2) [S.asg (Tg.n 0) (E.call sb [E.var 0, E.var 2])] (.int s) [some (.fz (sD p hs)), r, o2] = some (.nx, [some (.fz (sD (p + s) (raiseH hs p))), r, some (.fz (.int s))]) := by
      simp only [sD, tI'] at *
      simp [turnF, e2]
    rw [List.map_cons]
    unfold forN
    rw [et]
    exact behind_loop hsb r ws (p + s) (raiseH hs p) _ (h.step c) hw
theorem behind_run {G : Fs} {sb : Nat} (hsb : PStepBy G sb) {p : Int} {hs ws : List Int} (h : IsSt p hs) (hw : IsWalk p hs ws) : runF G (behindByFn sb) [.fz (sD p hs), .fz (tI' ws)] = some (.fz (sD (wEnd p hs ws).1 (wEnd p hs ws).2), [.fz (sD p hs), .fz (tI' ws)]) := by
  obtain ⟨a2, q⟩ := behind_loop hsb (some (.fz (tI' ws))) ws p hs none h hw
  simp only [sD, tI'] at *
  simp [runF, behindByFn, q]
/-! ### rows -/
def IsRow (row : List Int) : Prop := Stps row ∧ 1 ≤ row.length ∧ row.length ≤ 40
def PNeedRow (G : Fs) (f : Nat) : Prop := ∀ row, IsRow row → G f [.fz (tI' row)] = some (.fz .none, [.fz (tI' row)])
theorem needRow_run {G : Fs} {il iw : Nat} (hl : PLong G il) (hw : PIsWalk G iw) {row : List Int} (h : IsRow row) : runF G (needRowFn il iw) [.fz (tI' row)] = some (.fz .none, [.fz (tI' row)]) := by
  obtain ⟨h1, h2, h3⟩ := h
  have e1 := hl (row.map .int) 1 40 (by simp; omega) (by simp; omega)
  have e2 := hw row h1 (by omega)
  simp only [tI'] at *
  simp [runF, needRowFn, e1, e2]
def PNeedTimes (G : Fs) (f : Nat) : Prop := ∀ t : Nat, t ≤ 1000000000 → G f [.fz (.int (t : Nat))] = some (.fz .none, [.fz (.int (t : Nat))])
theorem needTimes_run {G : Fs} {iw : Nat} (hw : PWithin G iw) {t : Nat} (h : t ≤ 1000000000) : runF G (needTimesFn iw) [.fz (.int (t : Nat))] = some (.fz .none, [.fz (.int (t : Nat))]) := by
  have e1 := hw (t : Int) 0 1000000000 (by omega) (by omega)
  simp [runF, needTimesFn, e1]
/-! ### laps -/
def PLaps (G : Fs) (f : Nat) : Prop := ∀ p hs row (t : Nat), IsSt p hs → IsRow row → t ≤ 1000000000 → G f [.fz (sD p hs), .fz (tI' row), .fz (.int (t : Nat))] = some (.fz (lapsD row (p, hs) t), [.fz (sD p hs), .fz (tI' row), .fz (.int (t : Nat))])
def lapsIn (bb bb2 : Nat) : List S := [S.asg (Tg.n 5) (E.call bb [E.var 3, E.var 1]), S.iff ((E.var 5).isc .none true) [S.ret (E.tup [E.glb (.str "barred"), E.var 4, E.var 5])] [], S.asg (Tg.n 3) (E.call bb2 [E.var 3, E.var 1])]
theorem laps_loop {G : Fs} {bb bb2 : Nat} (hb : PBar G bb) (hb2 : PBehind G bb2) {row : List Int} (hr : IsRow row) (r0 r2 : Option Vl) : ∀ (n k : Nat) (st : Int × List Int) (o4 o5 : Option Vl), IsSt st.1 st.2 →
    ((∀ m < n, barN row m st = none) ∧ ∃ a4 a5, forN (turnF G [] (Tg.n 4) (lapsIn bb bb2)) ((List.range' k n).map fun (i : Nat) => .int (i : Int)) [r0, some (.fz (tI' row)), r2, some (.fz (sD st.1 st.2)), o4, o5, none, none, none, none] = some (.nx, [r0, some (.fz (tI' row)), r2, some (.fz (sD (lapE row n st).1 (lapE row n st).2)), a4, a5, none, none, none, none]))
    ∨ ((∃ m, m < n ∧ (∀ j < m, barN row j st = none) ∧ barN row m st ≠ none) ∧ ∃ a3 a4 a5, forN (turnF G [] (Tg.n 4) (lapsIn bb bb2)) ((List.range' k n).map fun (i : Nat) => .int (i : Int)) [r0, some (.fz (tI' row)), r2, some (.fz (sD st.1 st.2)), o4, o5, none, none, none, none] = some (.rt (.fz (rnd row n k st)), [r0, some (.fz (tI' row)), r2, a3, a4, a5, none, none, none, none]))
  | 0, k, st, o4, o5, h => .inl ⟨fun m hm => by omega, o4, o5, rfl⟩
  | n + 1, k, st, o4, o5, h => by
    have e1 := hb st.1 st.2 row h hr.1 (by have := hr.2.2; omega)
    unfold barD at e1
    rw [List.range'_succ, List.map_cons]
    cases c : bar st.1 st.2 row with
    | none =>
      rw [c] at e1
      have hw := (bar_walk hr.1).mp c
      have e2 := hb2 st.1 st.2 row h hw
      have et : turnF G [] (Tg.n 4) (lapsIn bb bb2) (.int (k : Nat)) [r0, some (.fz (tI' row)), r2, some (.fz (sD st.1 st.2)), o4, o5, none, none, none, none] = some (.nx, [r0, some (.fz (tI' row)), r2, some (.fz (sD (wEnd st.1 st.2 row).1 (wEnd st.1 st.2 row).2)), some (.fz (.int (k : Nat))), some (.fz .none), none, none, none, none]) := by
        simp only [sD, tI'] at *
        simp [turnF, lapsIn, e1, e2]
      unfold forN
      rw [et]
      simp only [Option.bind_some]
      unfold rnd
      rw [c]
      rcases laps_loop hb hb2 hr r0 r2 n (k + 1) (wEnd st.1 st.2 row) (some (.fz (.int (k : Nat)))) (some (.fz .none)) (walk_end h hw) with ⟨q1, q2⟩ | ⟨⟨m, q1, q2, q3⟩, q4⟩
      · refine .inl ⟨fun m hm => ?_, q2⟩
        cases m with
        | zero => exact c
        | succ m => exact q1 m (by omega)
      · refine .inr ⟨⟨m + 1, by omega, fun j hj => ?_, q3⟩, q4⟩
        cases j with
        | zero => exact c
        | succ j => exact q2 j (by omega)
    | some a =>
      rw [c] at e1
      have z3 : okSz 3 = true := by decide
      have et : turnF G [] (Tg.n 4) (lapsIn bb bb2) (.int (k : Nat)) [r0, some (.fz (tI' row)), r2, some (.fz (sD st.1 st.2)), o4, o5, none, none, none, none] = some (.rt (.fz (.tuple [.str "barred", .int (k : Nat), .int (a : Nat)])), [r0, some (.fz (tI' row)), r2, some (.fz (sD st.1 st.2)), some (.fz (.int (k : Nat))), some (.fz (.int (a : Nat))), none, none, none, none]) := by
        simp only [sD, tI'] at *
        simp [turnF, lapsIn, e1, z3]
      unfold forN
      rw [et]
      simp only [Option.bind_some]
      unfold rnd
      rw [c]
      refine .inr ⟨⟨0, by omega, fun j hj => by omega, ?_⟩, _, _, _, rfl⟩
      show bar st.1 st.2 row ≠ none
      rw [c]
      exact fun z => by cases z
theorem addN_on : ∀ (hs g : List Int) (n : Int), (List.zip (addN hs 5 g) (addN hs 6 g)).map (fun x => x.1 + n * (x.2 - x.1)) = addN hs (5 + n) g
  | [], g, n => by unfold addN; simp
  | _ :: _, [], n => by unfold addN; simp
  | a :: hs, b :: g, n => by
    have ih := addN_on hs g n
    unfold addN at ih ⊢
    simp only [List.zipWith_cons_cons, List.zip_cons_cons, List.map_cons, ih]
    congr 1
    have e1 : a + 6 * b - (a + 5 * b) = b := by omega
    rw [e1, Int.add_mul]
    omega
theorem rnd_ge {row : List Int} {st : Int × List Int} {m t : Nat} (h1 : m < 5) (h2 : ∀ j < m, barN row j st = none) (h3 : barN row m st ≠ none) (ht : 5 ≤ t) : rnd row t 0 st = rnd row 5 0 st := by
  cases c : barN row m st with
  | none => exact (h3 c).elim
  | some a => rw [rnd_bar row m t 0 st a (by omega) h2 c, rnd_bar row m 5 0 st a h1 h2 c]
theorem laps_run {G : Fs} {ns nr nt bb bb2 : Nat} (hns : PNeed G ns) (hnr : PNeedRow G nr) (hnt : PNeedTimes G nt) (hb : PBar G bb) (hb2 : PBehind G bb2) {p : Int} {hs row : List Int} {t : Nat} (h : IsSt p hs) (hr : IsRow row) (ht : t ≤ 1000000000) :
    runF G (lapsFn ns nr nt bb bb2) [.fz (sD p hs), .fz (tI' row), .fz (.int (t : Nat))] = some (.fz (lapsD row (p, hs) t), [.fz (sD p hs), .fz (tI' row), .fz (.int (t : Nat))]) := by
  have e1 := hns p hs h
  have e2 := hnr row hr
  have e3 := hnt t ht
  have z2 : okSz 2 = true := by decide
  unfold lapsD
  by_cases c5 : t ≤ 5
  · have en : ((if 5 < (t : Int) then 5 else (t : Int)) : Int) = ((t : Nat) : Int) := by rw [if_neg (by omega)]
    have sm := small_ok (n := (t : Int)) (by omega) (by omega)
    have er := rangeD_nat t
    rw [List.range_eq_range'] at er
    have c5' : ((t : Nat) : Int) ≤ 5 := by omega
    have hm : ev G (E.bi Bi.min [E.var 2, E.glb (.int 5)]) [some (.fz (sD p hs)), some (.fz (tI' row)), some (.fz (.int (t : Nat))), some (.fz (sD p hs)), none, none, none, none, none, none] = some (.st (.fz (.int (t : Nat))), [some (.fz (sD p hs)), some (.fz (tI' row)), some (.fz (.int (t : Nat))), some (.fz (sD p hs)), none, none, none, none, none, none]) := by
      simp [sD, tI', en]
    have ei := its_rg1_of hm sm
    rw [er] at ei
    rcases laps_loop hb hb2 hr (some (.fz (sD p hs))) (some (.fz (.int (t : Nat)))) t 0 (p, hs) none none h with ⟨q1, a4, a5, q2⟩ | ⟨-, a3, a4, a5, q2⟩
    · rw [rnd_done row t 0 _ q1]
      simp only [sD, tI', lapsIn] at *
      simp [-its_rg1, runF, lapsFn, e1, e2, e3, ei, q2, c5', z2]
      try omega
    · simp only [sD, tI', lapsIn] at *
      simp [-its_rg1, runF, lapsFn, e1, e2, e3, ei, q2]
  · have en : ((if 5 < (t : Int) then 5 else (t : Int)) : Int) = ((5 : Nat) : Int) := by rw [if_pos (by omega)]; rfl
    have sm := small_ok (n := ((5 : Nat) : Int)) (by omega) (by omega)
    have er := rangeD_nat 5
    rw [List.range_eq_range'] at er
    have c5' : ¬ ((t : Nat) : Int) ≤ 5 := by omega
    have hm : ev G (E.bi Bi.min [E.var 2, E.glb (.int 5)]) [some (.fz (sD p hs)), some (.fz (tI' row)), some (.fz (.int (t : Nat))), some (.fz (sD p hs)), none, none, none, none, none, none] = some (.st (.fz (.int ((5 : Nat) : Int))), [some (.fz (sD p hs)), some (.fz (tI' row)), some (.fz (.int (t : Nat))), some (.fz (sD p hs)), none, none, none, none, none, none]) := by
      simp [sD, tI']
      omega
    have ei := its_rg1_of hm sm
    rw [er] at ei
    rcases laps_loop hb hb2 hr (some (.fz (sD p hs))) (some (.fz (.int (t : Nat)))) 5 0 (p, hs) none none h with ⟨q1, a4, a5, q2⟩ | ⟨⟨m, w1, w2, w3⟩, a3, a4, a5, q2⟩
    · have go := laps_go hr.1 h q1
      have e5 : lapE row 5 (p, hs) = (p, addN hs 5 (gain row (p, hs))) := (go 5).1
      have e6 : lapE row 6 (p, hs) = (p, addN hs 6 (gain row (p, hs))) := (go 6).1
      rw [lapE_succ] at e6
      have hst := lapE_st hr.1 h 5 q1
      have hw : IsWalk (lapE row 5 (p, hs)).1 (lapE row 5 (p, hs)).2 row := (bar_walk hr.1).mp (go 5).2
      have eb := hb2 _ _ row hst hw
      rw [e6, e5] at eb
      rw [e5] at q2
      have gn : ∀ m < t, barN row m (p, hs) = none := fun m _ => (go m).2
      rw [rnd_done row t 0 _ gn, (go t).1]
      have ew := addN_on hs (gain row (p, hs)) ((t : Int) - 5)
      rw [show (5 : Int) + ((t : Int) - 5) = (t : Int) by omega] at ew
      have em : ∀ x : Int, binD .mul (.int ((t : Int) - 5)) (.int x) = some (.fz (.int (((t : Int) - 5) * x))) := fun x => binD_mulL (by omega)
      have ez := pairs_ints (addN hs 5 (gain row (p, hs))) (addN hs 6 (gain row (p, hs)))
      have hlen : ((addN hs 5 (gain row (p, hs))).zip (addN hs 6 (gain row (p, hs)))).length ≤ 16777216 := by
        have a1 : (addN hs 5 (gain row (p, hs))).length = hs.length := addN_len _ (gain_len row (p, hs))
        rw [List.length_zip, a1]
        have := h.1.2.1
        omega
      have ec : ev G ((E.bin Bop.add (E.var 8) (E.bin Bop.mul (E.var 7) (E.bin Bop.sub (E.var 9) (E.var 8)))).comp (Tg.t [Tg.n 8, Tg.n 9]) (It.zp ((E.var 3).idx (cI 1)) (E.var 6)) none [8, 9] false) [some (.fz (sD p hs)), some (.fz (tI' row)), some (.fz (.int (t : Nat))), some (.fz (sD p (addN hs 5 (gain row (p, hs))))), a4, a5, some (.fz (tI' (addN hs 6 (gain row (p, hs))))), some (.fz (.int ((t : Int) - 5))), none, none]
          = some (.st (.ol (((addN hs 5 (gain row (p, hs))).zip (addN hs 6 (gain row (p, hs)))).map fun x => .int (x.1 + ((t : Int) - 5) * (x.2 - x.1)))), [some (.fz (sD p hs)), some (.fz (tI' row)), some (.fz (.int (t : Nat))), some (.fz (sD p (addN hs 5 (gain row (p, hs))))), a4, a5, some (.fz (tI' (addN hs 6 (gain row (p, hs))))), some (.fz (.int ((t : Int) - 5))), none, none]) := by
        refine ev_comp_map _ (fun x : Int × Int => .tuple [.int x.1, .int x.2]) _ ?_ (fun x hx => ?_) hlen
        · simp only [sD, tI']
          simp [ez, Vl.strip]
        · simp only [sD, tI']
          simp [turn0, wipeF, wipeP, em]
      have ef : (((addN hs 5 (gain row (p, hs))).zip (addN hs 6 (gain row (p, hs)))).map fun x => PyData.int (x.1 + ((t : Int) - 5) * (x.2 - x.1))) = (addN hs (t : Int) (gain row (p, hs))).map .int := by
        rw [← ew, List.map_map]
        rfl
      rw [ef] at ec
      simp only [sD, tI', lapsIn] at *
      simp [-its_rg1, runF, lapsFn, e1, e2, e3, ei, q2, c5', z2, eb, ec]
    · rw [rnd_ge w1 w2 w3 (by omega)]
      simp only [sD, tI', lapsIn] at *
      simp [-its_rg1, runF, lapsFn, e1, e2, e3, ei, q2]
end Tr

set_option Elab.async false
set_option linter.all false
set_option maxRecDepth 100000
set_option maxHeartbeats 4000000
/-! Rows and laps: the laws' own defs. -/
namespace Tr
open PySem
/-- the stand ahead of the step that bars, or behind all -/
def wTo (p : Int) (hs : List Int) : List Int → Int × List Int
  | [] => (p, hs)
  | s :: ws => if letB p hs s then wTo (p + s) (raiseH hs p) ws else (p, hs)
theorem wTo_end : ∀ {ws : List Int} {p : Int} {hs : List Int}, bar p hs ws = none → wTo p hs ws = wEnd p hs ws
  | [], _, _, _ => rfl
  | s :: ws, p, hs, h => by
    unfold bar at h
    unfold wTo
    cases c : letB p hs s with
    | false => rw [c] at h; simp at h
    | true =>
      rw [c] at h
      simp only [if_true, Option.map_eq_none_iff] at h ⊢
      exact wTo_end h
def PLawBar (G : Fs) (f : Nat) : Prop := ∀ p hs ws, IsSt p hs → Stps ws → ws.length ≤ 1000 → G f [.fz (sD p hs), .fz (tI' ws)] = some (.fz (.tuple [barD p hs ws, sD (wTo p hs ws).1 (wTo p hs ws).2]), [.fz (sD p hs), .fz (tI' ws)])
def lawBarIn (ll ls : Nat) : List S := [S.iff (E.call ll [E.var 0, E.var 3]).not [S.ret (E.tup [E.var 2, E.var 0])] [], S.asg (Tg.n 0) (E.call ls [E.var 0, E.var 3])]
theorem lawBar_loop {G : Fs} {il sb : Nat} (hil : PLet G il) (hsb : PStepBy G sb) (r : Option Vl) : ∀ (ws : List Int) (k : Nat) (p : Int) (hs : List Int) (o2 o3 : Option Vl), IsSt p hs →
    (bar p hs ws = none ∧ ∃ a2 a3, forN (turnF G [] (Tg.t [Tg.n 2, Tg.n 3]) (lawBarIn il sb)) ((ws.zipIdx k).map fun x => .tuple [.int (x.2 : Nat), .int x.1]) [some (.fz (sD p hs)), r, o2, o3] = some (.nx, [some (.fz (sD (wTo p hs ws).1 (wTo p hs ws).2)), r, a2, a3]))
    ∨ ∃ a, bar p hs ws = some a ∧ ∃ a0 a2 a3, forN (turnF G [] (Tg.t [Tg.n 2, Tg.n 3]) (lawBarIn il sb)) ((ws.zipIdx k).map fun x => .tuple [.int (x.2 : Nat), .int x.1]) [some (.fz (sD p hs)), r, o2, o3] = some (.rt (.fz (.tuple [.int ((k + a : Nat) : Int), sD (wTo p hs ws).1 (wTo p hs ws).2])), [a0, r, a2, a3])
  | [], k, p, hs, o2, o3, h => .inl ⟨rfl, o2, o3, rfl⟩
  | s :: ws, k, p, hs, o2, o3, h => by
    have e1 := hil p hs s h
    have e2 := hsb p hs s h
    have z2 : okSz 2 = true := by decide
    rw [List.zipIdx_cons, List.map_cons]
    cases c : letB p hs s with
    | true =>
      rw [c] at e1
      have et : turnF G [] (Tg.t [Tg.n 2, Tg.n 3]) (lawBarIn il sb) (.tuple [.int (k : Nat), .int s]) [some (.fz (sD p hs)), r, o2, o3] = some (.nx, [some (.fz (sD (p + s) (raiseH hs p))), r, some (.fz (.int (k : Nat))), some (.fz (.int s))]) := by
        simp only [sD, tI'] at *
        simp [turnF, lawBarIn, e1, e2]
      have e3 : wTo p hs (s :: ws) = wTo (p + s) (raiseH hs p) ws := by
        conv => lhs; unfold wTo
        rw [c]
        rfl
      rw [e3]
      unfold forN
      rw [et]
      simp only [Option.bind_some]
      unfold bar
      rw [c]
      rcases lawBar_loop hil hsb r ws (k + 1) (p + s) (raiseH hs p) (some (.fz (.int (k : Nat)))) (some (.fz (.int s))) (h.step c) with ⟨q1, a2, a3, q2⟩ | ⟨a, q1, a0, a2, a3, q2⟩
      · exact .inl ⟨by simp [q1], a2, a3, q2⟩
      · refine .inr ⟨a + 1, by simp [q1], a0, a2, a3, ?_⟩
        rw [show k + (a + 1) = k + 1 + a by omega]
        exact q2
    | false =>
      rw [c] at e1
      have et : turnF G [] (Tg.t [Tg.n 2, Tg.n 3]) (lawBarIn il sb) (.tuple [.int (k : Nat), .int s]) [some (.fz (sD p hs)), r, o2, o3] = some (.rt (.fz (.tuple [.int (k : Nat), sD p hs])), [some (.fz (sD p hs)), r, some (.fz (.int (k : Nat))), some (.fz (.int s))]) := by
        simp only [sD, tI'] at *
        simp [turnF, lawBarIn, e1, z2]
      have e3 : wTo p hs (s :: ws) = (p, hs) := by
        conv => lhs; unfold wTo
        rw [c]
        rfl
      rw [e3]
      unfold forN
      rw [et]
      simp only [Option.bind_some]
      unfold bar
      rw [c]
      exact .inr ⟨0, rfl, _, _, _, rfl⟩
theorem lawBar_run {G : Fs} {il sb : Nat} (hil : PLet G il) (hsb : PStepBy G sb) {p : Int} {hs ws : List Int} (h : IsSt p hs) : runF G (lawBarFn il sb) [.fz (sD p hs), .fz (tI' ws)] = some (.fz (.tuple [barD p hs ws, sD (wTo p hs ws).1 (wTo p hs ws).2]), [.fz (sD p hs), .fz (tI' ws)]) := by
  have en := enum_ints ws
  have z2 : okSz 2 = true := by decide
  unfold barD
  rcases lawBar_loop hil hsb (some (.fz (tI' ws))) ws 0 p hs none none h with ⟨q1, a2, a3, q2⟩ | ⟨a, q1, a0, a2, a3, q2⟩
  · rw [q1]
    simp only [sD, tI', lawBarIn] at *
    simp [runF, lawBarFn, en, q2, z2]
  · rw [q1]
    rw [Nat.zero_add] at q2
    simp only [sD, tI', lawBarIn] at *
    simp [runF, lawBarFn, en, q2]
/-! ### lap by lap -/
def PRounds (G : Fs) (f : Nat) : Prop := ∀ p hs row (t : Nat), IsSt p hs → IsRow row → t ≤ 1000 → G f [.fz (sD p hs), .fz (tI' row), .fz (.int (t : Nat))] = some (.fz (rnd row t 0 (p, hs)), [.fz (sD p hs), .fz (tI' row), .fz (.int (t : Nat))])
def roundsIn (lb : Nat) : List S := [S.asg (Tg.t [Tg.n 4, Tg.n 5]) (E.call lb [E.var 0, E.var 1]), S.iff ((E.var 4).isc .none true) [S.ret (E.tup [E.con (.str "barred"), E.var 3, E.var 4])] [], S.asg (Tg.n 0) (E.var 5)]
theorem rounds_loop {G : Fs} {lb : Nat} (hb : PLawBar G lb) {row : List Int} (hr : IsRow row) (r2 : Option Vl) : ∀ (n k : Nat) (st : Int × List Int) (o3 o4 o5 : Option Vl), IsSt st.1 st.2 →
    (∃ (st' : Int × List Int) (a3 a4 a5 : Option Vl), forN (turnF G [] (Tg.n 3) (roundsIn lb)) ((List.range' k n).map fun (i : Nat) => .int (i : Int)) [some (.fz (sD st.1 st.2)), some (.fz (tI' row)), r2, o3, o4, o5] = some (.nx, [some (.fz (sD st'.1 st'.2)), some (.fz (tI' row)), r2, a3, a4, a5]) ∧ rnd row n k st = .tuple [.str "done", sD st'.1 st'.2])
    ∨ (∃ a0 a3 a4 a5, forN (turnF G [] (Tg.n 3) (roundsIn lb)) ((List.range' k n).map fun (i : Nat) => .int (i : Int)) [some (.fz (sD st.1 st.2)), some (.fz (tI' row)), r2, o3, o4, o5] = some (.rt (.fz (rnd row n k st)), [a0, some (.fz (tI' row)), r2, a3, a4, a5]))
  | 0, k, st, o3, o4, o5, h => .inl ⟨st, o3, o4, o5, rfl, rfl⟩
  | n + 1, k, st, o3, o4, o5, h => by
    have e1 := hb st.1 st.2 row h hr.1 (by have := hr.2.2; omega)
    unfold barD at e1
    rw [List.range'_succ, List.map_cons]
    cases c : bar st.1 st.2 row with
    | none =>
      rw [c] at e1
      have hw := (bar_walk hr.1).mp c
      rw [wTo_end c] at e1
      have et : turnF G [] (Tg.n 3) (roundsIn lb) (.int (k : Nat)) [some (.fz (sD st.1 st.2)), some (.fz (tI' row)), r2, o3, o4, o5] = some (.nx, [some (.fz (sD (wEnd st.1 st.2 row).1 (wEnd st.1 st.2 row).2)), some (.fz (tI' row)), r2, some (.fz (.int (k : Nat))), some (.fz .none), some (.fz (sD (wEnd st.1 st.2 row).1 (wEnd st.1 st.2 row).2))]) := by
        simp only [sD, tI'] at *
        simp [turnF, roundsIn, e1]
      unfold forN
      rw [et]
      simp only [Option.bind_some]
      unfold rnd
      rw [c]
      exact rounds_loop hb hr r2 n (k + 1) (wEnd st.1 st.2 row) _ _ _ (walk_end h hw)
    | some a =>
      rw [c] at e1
      have z3 : okSz 3 = true := by decide
      have et : turnF G [] (Tg.n 3) (roundsIn lb) (.int (k : Nat)) [some (.fz (sD st.1 st.2)), some (.fz (tI' row)), r2, o3, o4, o5] = some (.rt (.fz (.tuple [.str "barred", .int (k : Nat), .int (a : Nat)])), [some (.fz (sD st.1 st.2)), some (.fz (tI' row)), r2, some (.fz (.int (k : Nat))), some (.fz (.int (a : Nat))), some (.fz (sD (wTo st.1 st.2 row).1 (wTo st.1 st.2 row).2))]) := by
        simp only [sD, tI'] at *
        simp [turnF, roundsIn, e1, z3]
      unfold forN
      rw [et]
      simp only [Option.bind_some]
      unfold rnd
      rw [c]
      exact .inr ⟨_, _, _, _, rfl⟩
theorem its_rg1_var {G : Fs} {i : Nat} {fr : Fm} {n : Int} (h : fr[i]? = some (some (.fz (.int n)))) (hs : smallI n = true) : its G (.rg1 (.var i)) fr = some (rangeD 0 n, fr) := by
  rw [its_rg1]
  have e : ev G (.var i) fr = some (.sl i, fr) := by
    unfold ev
    rw [h]
  rw [e]
  have e2 : look fr (.sl i) = some (.int n) := by
    unfold look
    dsimp only
    rw [h]
    rfl
  simp only [Option.bind_some, e2]
  rw [if_pos hs]
theorem rounds_run {G : Fs} {lb : Nat} (hb : PLawBar G lb) {p : Int} {hs row : List Int} {t : Nat} (h : IsSt p hs) (hr : IsRow row) (ht : t ≤ 1000) : runF G (lawRoundsFn lb) [.fz (sD p hs), .fz (tI' row), .fz (.int (t : Nat))] = some (.fz (rnd row t 0 (p, hs)), [.fz (sD p hs), .fz (tI' row), .fz (.int (t : Nat))]) := by
  have sm := small_ok (n := (t : Int)) (by omega) (by omega)
  have er := rangeD_nat t
  rw [List.range_eq_range'] at er
  have z2 : okSz 2 = true := by decide
  have ei : its G (It.rg1 (E.var 2)) [some (.fz (sD p hs)), some (.fz (tI' row)), some (.fz (.int (t : Nat))), none, none, none] = some ((List.range' 0 t).map fun (i : Nat) => .int (i : Int), [some (.fz (sD p hs)), some (.fz (tI' row)), some (.fz (.int (t : Nat))), none, none, none]) := by
    rw [← er]
    exact its_rg1_var rfl sm
  rcases rounds_loop hb hr (some (.fz (.int (t : Nat)))) t 0 (p, hs) none none none h with ⟨st', a3, a4, a5, q1, q2⟩ | ⟨a0, a3, a4, a5, q1⟩
  · rw [q2]
    simp only [sD, tI', roundsIn] at *
    simp [-its_rg1, runF, lawRoundsFn, ei, q1, z2]
  · simp only [sD, tI', roundsIn] at *
    simp [-its_rg1, runF, lawRoundsFn, ei, q1]
/-! ### rows drawn -/
def lawRowFn (ld lw ls : Nat) : Fn := ⟨2, 10, [S.par [2, 3] [E.call ld [E.var 0, cI 6], E.bi Bi.tuple [((E.lst [nI 1, cI 1]).idx (E.call ld [E.var 0, cI 2])).comp (Tg.n 4) (It.rg1 (E.bin Bop.add (cI 1) (E.call ld [E.var 0, cI 5]))) none [4] false]], S.asg (Tg.n 5) ((E.call lw [E.var 0, E.var 1, (E.lst [cI 4, cI 9, cI 40]).idx (E.call ld [E.var 0, cI 3])]).idx (cI 0)), S.asg (Tg.n 6) (E.bin Bop.add ((E.var 5).slc none (some (cI 20)) false) (E.bi Bi.tuple [(E.bin Bop.sub (cI 0) (E.var 7)).comp (Tg.n 7) (It.li (((E.var 5).slc none (some (cI 20)) false).slc none none true)) none [7] false])), S.asg (Tg.n 8) (E.bin Bop.add ((E.var 7).comp (Tg.n 7) (It.li (E.call ls [E.var 1])) none [7] false) (E.lst [cI 1])), S.asg (Tg.n 9) (E.bin Bop.mul (E.tup [(E.var 8).idx (cI 0), E.bin Bop.sub (cI 0) ((E.var 8).idx (cI 0))]) (E.bin Bop.add (cI 1) (E.call ld [E.var 0, cI 20]))), S.ret ((E.lst [E.var 3, (E.var 5).or (E.var 3), (E.var 6).or (E.var 3), E.var 9, E.var 9, (E.bin Bop.mul (E.var 3) (cI 40)).slc none (some (cI 40)) false]).idx (E.var 2))]⟩
def PRow (G : Fs) (f : Nat) : Prop := ∀ (x : Vl) (p : Int) (hs : List Int), IsPen x → IsSt p hs → ∃ (row : List Int) (x' : Vl), G f [x, .fz (sD p hs)] = some (.fz (tI' row), [x', .fz (sD p hs)]) ∧ IsRow row ∧ IsPen x'
theorem ints_of : ∀ {vs : List D}, (∀ v ∈ vs, ∃ s, v = .int s ∧ IsStp s) → ∃ ws : List Int, vs = ws.map .int ∧ Stps ws ∧ ws.length = vs.length
  | [], _ => ⟨[], rfl, fun s h => (by cases h), rfl⟩
  | v :: vs, h => by
    obtain ⟨s, rfl, hs⟩ := h v List.mem_cons_self
    obtain ⟨ws, rfl, h2, h3⟩ := ints_of fun w hw => h w (List.mem_cons_of_mem _ hw)
    refine ⟨s :: ws, rfl, fun x hx => ?_, by simp⟩
    rcases List.mem_cons.mp hx with rfl | hx
    · exact hs
    · exact h2 x hx
theorem stp_neg {s : Int} (h : IsStp s) : IsStp (0 - s) := by
  rcases h with rfl | rfl
  · exact .inr rfl
  · exact .inl rfl
theorem truD_ints (ws : List Int) : truD (.tuple (ws.map .int)) = !ws.isEmpty := by cases ws <;> rfl
theorem row_run {G : Fs} {ld lw ls : Nat} (hd : PDraw G ld) (hw : PWalk G lw) (hls : PLawSteps G ls) {x : Vl} {p : Int} {hs : List Int} (hx : IsPen x) (h : IsSt p hs) :
    ∃ (row : List Int) (x' : Vl), runF G (lawRowFn ld lw ls) [x, .fz (sD p hs)] = some (.fz (tI' row), [x', .fz (sD p hs)]) ∧ IsRow row ∧ IsPen x' := by
  obtain ⟨way, x1, d1, w0, w1, hx1⟩ := hd x 6 hx (by decide) (by decide)
  obtain ⟨n, x2, d2, n0, n1, hx2⟩ := hd x1 5 hx1 (by decide) (by decide)
  have z2 : okSz 2 = true := by decide
  have z3 : okSz 3 = true := by decide
  have z6 : okSz 6 = true := by decide
  have z1 : okSz 1 = true := by decide
  -- the steps drawn
  have ec : ∃ (some' : List Int) (x3 : Vl), ev G (((E.lst [nI 1, cI 1]).idx (E.call ld [E.var 0, cI 2])).comp (Tg.n 4) (It.rg1 (E.bin Bop.add (cI 1) (E.call ld [E.var 0, cI 5]))) none [4] false) [some x1, some (.fz (sD p hs)), none, none, none, none, none, none, none, none] = some (.st (.ol (some'.map .int)), [some x3, some (.fz (sD p hs)), none, none, none, none, none, none, none, none]) ∧ Stps some' ∧ 1 ≤ some'.length ∧ some'.length ≤ 5 ∧ IsPen x3 := by
    have ei : its G (It.rg1 (E.bin Bop.add (cI 1) (E.call ld [E.var 0, cI 5]))) [some x1, some (.fz (sD p hs)), none, none, none, none, none, none, none, none] = some (rangeD 0 (1 + n), [some x2, some (.fz (sD p hs)), none, none, none, none, none, none, none, none]) := by
      obtain ⟨a, b, c, rfl, -, -⟩ := id hx1
      obtain ⟨a, b, c, rfl, -, -⟩ := id hx2
      refine its_rg1_of ?_ (small_ok (by omega) (by omega))
      simp [d2]
    obtain ⟨vs, g, e, l, pv, y, o4, rfl, hy⟩ := ev_comp_inv (elt := (E.lst [nI 1, cI 1]).idx (E.call ld [E.var 0, cI 2])) (tg := Tg.n 4) (cond := none) (ws := [4]) (fun v => ∃ s, v = .int s ∧ IsStp s) (fun g => ∃ (y : Vl) (o4 : Option Vl), g = [some y, some (.fz (sD p hs)), none, none, o4, none, none, none, none, none] ∧ IsPen y) ei ⟨x2, none, rfl, hx2⟩ (by
      rintro d g ⟨y, o4, rfl, hy⟩ hdm
      obtain ⟨i, rfl, -, -⟩ := mem_range hdm
      obtain ⟨r, y', e, r0, r1, hy'⟩ := hd y 2 hy (by decide) (by decide)
      obtain ⟨a, b, c, rfl, -, -⟩ := id hy
      obtain ⟨a', b', c', rfl, -, -⟩ := id hy'
      have hr : r = 0 ∨ r = 1 := by omega
      rcases hr with rfl | rfl
      · refine ⟨.int (-1), _, ?_, ⟨-1, rfl, .inl rfl⟩, ⟨_, some (.fz (.int i)), rfl, hy'⟩⟩
        have ix : idxD (.list [.int (-1), .int 1]) (.int 0) = some (.int (-1)) := rfl
        simp [turn0, wipeF, wipeP, e, z2, ix]
      · refine ⟨.int 1, _, ?_, ⟨1, rfl, .inr rfl⟩, ⟨_, some (.fz (.int i)), rfl, hy'⟩⟩
        have ix : idxD (.list [.int (-1), .int 1]) (.int 1) = some (.int 1) := rfl
        simp [turn0, wipeF, wipeP, e, z2, ix]) (by rw [rangeD_length]; omega)
    obtain ⟨ws, rfl, s1, s2⟩ := ints_of pv
    rw [rangeD_length] at l
    refine ⟨ws, y, ?_, s1, by omega, by omega, hy⟩
    rw [e]
    rfl
  obtain ⟨sm, x3, ec, s1, s2, s3, hx3⟩ := ec
  obtain ⟨j, x4, d4, j0, j1, hx4⟩ := hd x3 3 hx3 (by decide) (by decide)
  obtain ⟨mm, im, m0, m1⟩ : ∃ mm, idxD (.list [.int 4, .int 9, .int 40]) (.int j) = some (.int mm) ∧ 0 ≤ mm ∧ mm ≤ 40 := by
    have : j = 0 ∨ j = 1 ∨ j = 2 := by omega
    rcases this with rfl | rfl | rfl
    · exact ⟨4, rfl, by decide, by decide⟩
    · exact ⟨9, rfl, by decide, by decide⟩
    · exact ⟨40, rfl, by decide, by decide⟩
  obtain ⟨mine, x5, ew, hmw, hml, hx5⟩ := hw x4 p hs mm hx4 h m0 (by omega)
  have mst := hmw.stps
  let cut := mine.take 20
  have ecut : cutL (mine.map PyData.int) none (some 20) = cut.map .int := by
    rw [cutL_to _ (by decide), List.map_take]
    rfl
  have cl : cut.length ≤ 20 := List.length_take_le _ _
  have cst : Stps cut := fun s hs => mst s (List.mem_of_mem_take hs)
  have ethere : ∀ (o0 o2 o3 : Option Vl), ev G ((E.bin Bop.sub (cI 0) (E.var 7)).comp (Tg.n 7) (It.li (((E.var 5).slc none (some (cI 20)) false).slc none none true)) none [7] false) [o0, some (.fz (sD p hs)), o2, o3, none, some (.fz (tI' mine)), none, none, none, none] = some (.st (.ol ((cut.reverse.map fun s => 0 - s).map .int)), [o0, some (.fz (sD p hs)), o2, o3, none, some (.fz (tI' mine)), none, none, none, none]) := by
    intro o0 o2 o3
    rw [List.map_map]
    refine ev_comp_map cut.reverse .int _ ?_ (fun s _ => ?_) (by rw [List.length_reverse]; omega)
    · have er : ∀ xs : List D, slcD true none none (.tuple xs) = some (.fz (.tuple xs.reverse)) := fun _ => rfl
      simp only [tI']
      simp [ecut, er]
    · simp [turn0, wipeF, wipeP]
  let there := cut ++ cut.reverse.map fun s => 0 - s
  have tst : Stps there := fun s hs => by
    rcases List.mem_append.mp hs with hs | hs
    · exact cst s hs
    · obtain ⟨t, ht, rfl⟩ := List.mem_map.mp hs
      exact stp_neg (cst t (List.mem_reverse.mp ht))
  have tl : there.length ≤ 40 := by simp only [there, List.length_append, List.length_map, List.length_reverse]; omega
  have elet := hls p hs h
  have esides : ∀ (o0 o2 o3 o6 : Option Vl), ev G ((E.var 7).comp (Tg.n 7) (It.li (E.call ls [E.var 1])) none [7] false) [o0, some (.fz (sD p hs)), o2, o3, none, some (.fz (tI' mine)), o6, none, none, none] = some (.st (.ol ((lets p hs).map .int)), [o0, some (.fz (sD p hs)), o2, o3, none, some (.fz (tI' mine)), o6, none, none, none]) := by
    intro o0 o2 o3 o6
    refine ev_comp_map (lets p hs) .int _ ?_ (fun s _ => ?_) ?_
    · simp only [sD, tI'] at *
      simp [elet]
    · simp [turn0, wipeF, wipeP]
    · have : (lets p hs).length ≤ 2 := List.length_filter_le _ _
      omega
  obtain ⟨sd, rest, eside, hsd⟩ : ∃ sd rest, (lets p hs).map PyData.int ++ [.int 1] = .int sd :: rest ∧ IsStp sd := by
    cases c : lets p hs with
    | nil => exact ⟨1, [], rfl, .inr rfl⟩
    | cons a l => exact ⟨a, l.map .int ++ [.int 1], rfl, (lets_stp (p := p) (hs := hs) (by rw [c]; exact List.mem_cons_self)).1⟩
  obtain ⟨q, x6, d6, q0, q1, hx6⟩ := hd x5 20 hx5 (by decide) (by decide)
  have ix0 : idxD (.list (.int sd :: rest)) (.int 0) = some (.int sd) := by
    simp only [idxD, List.length_cons]
    rw [place_ok (by omega) (by omega)]
    rfl
  have esw : binD .mul (.tuple [.int sd, .int (-sd)]) (.int (1 + q)) = some (.fz (.tuple ((repI (1 + q) [sd, -sd]).map .int))) := by
    have e1 := repD_map (1 + q) [sd, -sd]
    rw [← e1]
    show (if decide (-1000 ≤ 1 + q) && decide (1 + q ≤ 1000) && decide ([PyData.int sd, PyData.int (-sd)].length ≤ 1000) then _ else _) = _
    rw [if_pos (by simp; omega)]
    rfl
  have esm : binD .mul (.tuple (sm.map .int)) (.int 40) = some (.fz (.tuple ((repI 40 sm).map .int))) := by
    rw [← repD_map 40 sm]
    show (if decide ((-1000 : Int) ≤ 40) && decide ((40 : Int) ≤ 1000) && decide ((sm.map PyData.int).length ≤ 1000) then _ else _) = _
    rw [if_pos (by simp; omega)]
  have ecut2 : cutL ((repI 40 sm).map PyData.int) none (some 40) = ((repI 40 sm).take 40).map .int := by
    rw [cutL_to _ (by decide), List.map_take]
    rfl
  obtain ⟨la, hla⟩ : ∃ la, la = (repI 40 sm).take 40 := ⟨_, rfl⟩
  have r1 : IsRow sm := ⟨s1, s2, by omega⟩
  have r2 : IsRow (if mine.isEmpty then sm else mine) := by
    cases mine with
    | nil => exact r1
    | cons a l =>
      show IsRow (a :: l)
      exact ⟨mst, by simp, by omega⟩
  have r3 : IsRow (if there.isEmpty then sm else there) := by
    cases c : there with
    | nil => exact r1
    | cons a l =>
      rw [c] at tst tl
      show IsRow (a :: l)
      exact ⟨tst, by simp, tl⟩
  have r4 : IsRow (repI (1 + q) [sd, -sd]) := by
    refine ⟨fun s hs => ?_, ?_, ?_⟩
    · have := repI_mem hs
      simp only [List.mem_cons, List.not_mem_nil, or_false] at this
      rcases this with rfl | rfl
      · exact hsd
      · have := stp_neg hsd; rwa [Int.zero_sub] at this
    · rw [repI_len]; simp only [List.length_cons, List.length_nil]; omega
    · rw [repI_len]; simp only [List.length_cons, List.length_nil]; omega
  have r5 : IsRow ((repI 40 sm).take 40) := by
    refine ⟨fun s hs => s1 s (repI_mem (List.mem_of_mem_take hs)), ?_, List.length_take_le _ _⟩
    rw [List.length_take, repI_len]
    have : (40 : Int).toNat = 40 := rfl
    rw [this]
    omega
  rw [← hla] at ecut2 r5
  clear hla
  have t1 := truD_ints mine
  have t2 := truD_ints there
  have zB : okSz ((lets p hs).length + 1) = true := okSz_ok (by have : (lets p hs).length ≤ 2 := List.length_filter_le _ _; omega)
  have em2 : (cut.map PyData.int ++ (cut.reverse.map fun s => 0 - s).map PyData.int) = there.map .int := by simp only [there, List.map_append]
  obtain ⟨bk, hbk⟩ : ∃ bk, bk = (cut.reverse.map fun s => 0 - s).map PyData.int := ⟨_, rfl⟩
  rw [← hbk] at em2
  have ethere2 : ∀ (o0 o2 o3 : Option Vl), ev G ((E.bin Bop.sub (cI 0) (E.var 7)).comp (Tg.n 7) (It.li (((E.var 5).slc none (some (cI 20)) false).slc none none true)) none [7] false) [o0, some (.fz (sD p hs)), o2, o3, none, some (.fz (tI' mine)), none, none, none, none] = some (.st (.ol bk), [o0, some (.fz (sD p hs)), o2, o3, none, some (.fz (tI' mine)), none, none, none, none]) := by
    intro o0 o2 o3
    rw [hbk]
    exact ethere o0 o2 o3
  have zA : okSz (cut.length + bk.length) = true := okSz_ok (by rw [hbk]; simp only [List.length_map, List.length_reverse]; omega)
  clear ethere hbk
  obtain ⟨a, b, c, rfl, -, -⟩ := id hx
  obtain ⟨a1, b1, c1, rfl, -, -⟩ := id hx1
  obtain ⟨a3, b3, c3, rfl, -, -⟩ := id hx3
  obtain ⟨a4, b4, c4, rfl, -, -⟩ := id hx4
  obtain ⟨a5, b5, c5, rfl, -, -⟩ := id hx5
  obtain ⟨a6, b6, c6, rfl, -, -⟩ := id hx6
  have way' : way = 0 ∨ way = 1 ∨ way = 2 ∨ way = 3 ∨ way = 4 ∨ way = 5 := by omega
  have fin : ∀ row : List Int, IsRow row → idxD (.list [.tuple (sm.map .int), if (!mine.isEmpty) = true then .tuple (mine.map .int) else .tuple (sm.map .int), if (!there.isEmpty) = true then .tuple (there.map .int) else .tuple (sm.map .int), .tuple ((repI (1 + q) [sd, -sd]).map .int), .tuple ((repI (1 + q) [sd, -sd]).map .int), .tuple (la.map .int)]) (.int way) = some (tI' row) →
      ∃ (row : List Int) (x' : Vl), runF G (lawRowFn ld lw ls) [.ol [.int a, .int b, .int c], .fz (sD p hs)] = some (.fz (tI' row), [x', .fz (sD p hs)]) ∧ IsRow row ∧ IsPen x' := by
    intro row hr ei
    refine ⟨row, .ol [.int a6, .int b6, .int c6], ?_, hr, hx6⟩
    clear_value cut there
    cases cm : mine.isEmpty <;> cases ct : there.isEmpty <;> (rw [cm] at t1 ei; rw [ct] at t2 ei; simp only [sD, tI'] at *; simp only [Bool.not_true, Bool.not_false, if_true, if_false, Bool.false_eq_true] at ei t1 t2; simp [runF, lawRowFn, d1, ec, d4, im, ew, ecut, ethere2, esides, eside, d6, ix0, esw, esm, ecut2, t1, t2, z1, z2, z3, z6, zA, zB, em2, ei])
  rcases way' with rfl | rfl | rfl | rfl | rfl | rfl
  · exact fin _ r1 rfl
  · refine fin _ r2 ?_
    show some _ = _
    cases mine.isEmpty <;> rfl
  · refine fin _ r3 ?_
    show some _ = _
    cases there.isEmpty <;> rfl
  · exact fin _ r4 rfl
  · exact fin _ r4 rfl
  · exact fin _ r5 rfl
end Tr

set_option Elab.async false
set_option linter.all false
set_option maxRecDepth 100000
set_option maxHeartbeats 4000000
/-! k32: the law. -/
namespace Tr
open PySem
theorem tame_done : tame (.str "done") = true := by decide +kernel
theorem tame_barred : tame (.str "barred") = true := by decide +kernel
theorem tame_sD {p : Int} {hs : List Int} (h : IsSt p hs) {m : Int} (hi : Hi hs m) (hm : m < 10 ^ 19) : tame (sD p hs) = true ∧ cnt (sD p hs) ≤ 1000 ∧ (sD p hs).depth ≤ 2 := by
  obtain ⟨⟨h1, h2, h3⟩, h4, h5⟩ := h
  have t1 := tameL_ints (ns := hs) fun n hn => by
    have a := h3 n hn
    have b := hi n hn
    omega
  have t2 : p.natAbs < 10 ^ 20 := by omega
  refine ⟨?_, ?_, ?_⟩
  · simp only [sD, tI', tame, tameL, t1, decide_eq_true t2]; rfl
  · simp only [sD, tI', cnt, cntL, cntL_ints]; omega
  · simp only [sD, tI', PyData.depth, PyData.depthAll, depthL_ints]; decide
theorem lapE_hi {row : List Int} (hr : IsRow row) {st : Int × List Int} (h : IsSt st.1 st.2) {m : Int} (hi : Hi st.2 m) : ∀ n : Nat, (∀ j < n, barN row j st = none) → Hi (lapE row n st).2 (m + 40 * n)
  | 0, _ => fun x hx => by have := hi x hx; omega
  | n + 1, hb => by
    have ih := lapE_hi hr h hi n fun j hj => hb j (by omega)
    have hst := lapE_st hr.1 h n fun j hj => hb j (by omega)
    rw [lapE_succ]
    intro x hx
    have := walk_hi hst ((bar_walk hr.1).mp (hb n (by omega))) ih x hx
    have := hr.2.2
    push_cast
    omega
theorem bar_lt : ∀ {ws : List Int} {p : Int} {hs : List Int} {a : Nat}, bar p hs ws = some a → a < ws.length
  | [], _, _, _, h => by cases h
  | s :: ws, p, hs, a, h => by
    unfold bar at h
    cases c : letB p hs s with
    | false =>
      rw [c] at h
      simp at h
      subst h
      simp
    | true =>
      rw [c] at h
      simp only [if_true] at h
      obtain ⟨b, hb, rfl⟩ := Option.map_eq_some_iff.mp h
      have := bar_lt hb
      simp only [List.length_cons]
      omega
/-- what is told of laps is a text that is not too long -/
theorem rnd_tame {row : List Int} (hr : IsRow row) {st : Int × List Int} (h : IsSt st.1 st.2) (hi : Hi st.2 1000) {t : Nat} (ht : t ≤ 1000000000) : tame (rnd row t 0 st) = true ∧ cnt (rnd row t 0 st) ≤ 1040 ∧ (rnd row t 0 st).depth ≤ 3 := by
  rcases five row st t with hb | ⟨m, a, h1, h2, h3⟩
  · rw [rnd_done row t 0 st hb]
    obtain ⟨q1, q2, q3⟩ := tame_sD (lapE_st hr.1 h t hb) (lapE_hi hr h hi t hb) (by omega)
    refine ⟨?_, ?_, ?_⟩
    · simp only [tame, tameL, q1, Bool.and_true]
      exact tame_done
    · simp only [cnt, cntL]; omega
    · simp only [PyData.depth, PyData.depthAll]; omega
  · rw [rnd_bar row m t 0 st a h1 h2 h3]
    have := bar_lt h3
    have := hr.2.2
    refine ⟨?_, ?_, ?_⟩
    · simp only [tame, tameL, Bool.and_true, Bool.and_eq_true, decide_eq_true_eq]
      refine ⟨?_, by omega, by omega⟩
      have := tame_barred
      unfold tame at this
      exact of_decide_eq_true this
    · simp only [cnt, cntL]; omega
    · simp only [PyData.depth, PyData.depthAll]; omega
theorem row_tame {row : List Int} (hr : IsRow row) : tame (tI' row) = true ∧ cnt (tI' row) ≤ 1046 ∧ (tI' row).depth ≤ 1 := by
  obtain ⟨h1, h2, h3⟩ := hr
  have t1 := tameL_ints (ns := row) fun n hn => by
    rcases h1 n hn with rfl | rfl <;> decide
  refine ⟨?_, ?_, ?_⟩
  · simp only [tI', tame, t1]
  · simp only [tI', cnt, cntL_ints]; omega
  · simp only [tI', PyData.depth, depthL_ints]; decide
theorem okShow_dd {d : D} (a : tame d = true) (b : cnt d ≤ 1000000) (c : d.depth ≤ 20) : okShow (.list [d, d]) = true := by
  refine okShow_of ?_ ?_ ?_
  · simp only [tame, tameL, a]; rfl
  · simp only [cnt, cntL]; omega
  · simp only [PyData.depth, PyData.depthAll]; omega
theorem okShow_pr {d e : D} (a : tame d = true) (b : cnt d ≤ 1000000) (c : d.depth ≤ 20) (a2 : tame e = true) (b2 : cnt e ≤ 1000000) (c2 : e.depth ≤ 20) : okShow (.tuple [d, e]) = true := by
  refine okShow_of ?_ ?_ ?_
  · simp only [tame, tameL, a, a2]; rfl
  · simp only [cnt, cntL]; omega
  · simp only [PyData.depth, PyData.depthAll]; omega
theorem lenM {n : Nat} {rest : Fm} (h : rest.length = n + 1) : ∃ a r, rest = a :: r ∧ r.length = n := by
  cases rest with
  | nil => cases h
  | cons a r => exact ⟨a, r, rfl, Nat.succ.inj h⟩
def law32In (ls lr ld lr2 la ls2 : Nat) : List S := [S.asg (Tg.n 4) (E.call ls [E.var 2, cI 5, cI 5]), S.par [5, 6] [E.call lr [E.var 2, E.var 4], (E.lst [cI 0, cI 1, cI 2, cI 3, cI 4, cI 5, cI 6, cI 7, cI 9, cI 50]).idx (E.call ld [E.var 2, cI 10])], S.par [7, 8] [E.bi Bi.repr [E.tup [E.var 4, E.var 5]], E.call lr2 [E.var 4, E.var 5, E.var 6]], S.asg (Tg.n 9) ((E.call la [E.var 4, E.var 5, E.var 6]).comp (Tg.n 10) (It.rg1 (cI 2)) none [10] false), S.iff ((E.call ls2 [E.var 9, E.lst [E.var 8, E.var 8]]).not.or (E.cmp Cop.ne (E.bi Bi.repr [E.tup [E.var 4, E.var 5]]) (E.var 7))) [S.ret (E.con (.bool false))] []]
def law32Fn (lp lca ls lr ld lr2 la ls2 : Nat) : Fn := ⟨1, 11, [S.for (Tg.n 1) (It.rg1 (E.bi Bi.max [cI 1, E.bi Bi.min [E.bi Bi.len [E.var 0], cI 3]])) [S.asg (Tg.n 2) (E.call lp [E.call lca [E.var 0, E.var 1]]), S.for (Tg.n 3) (It.rg1 (cI 6)) (law32In ls lr ld lr2 la ls2)], S.ret (E.con (.bool true))]⟩
theorem law32_in {G : Fs} {ls lr ld lr2 la ls2 : Nat} (hst : PStandDraw G ls) (hrow : PRow G lr) (hd : PDraw G ld) (hro : PRounds G lr2) (hla : PLaps G la) (hsm : PSameL G ls2) (ns : List Int) (j : Int) (y : Vl) (o1 o3 : Option Vl) (rest : Fm) (hy : IsPen y) (hrest : rest.length = 7) :
    ∃ (y' : Vl) (o3' : Option Vl) (rest' : Fm), turnF G [] (Tg.n 3) (law32In ls lr ld lr2 la ls2) (.int j) (some (.scr ns) :: o1 :: some y :: o3 :: rest) = some (.nx, some (.scr ns) :: o1 :: some y' :: o3' :: rest') ∧ IsPen y' ∧ rest'.length = 7 := by
  obtain ⟨o4, q0, rfl, hq0⟩ := lenM (n := 6) hrest
  obtain ⟨o5, q1, rfl, hq1⟩ := lenM (n := 5) hq0
  obtain ⟨o6, q2, rfl, hq2⟩ := lenM (n := 4) hq1
  obtain ⟨o7, q3, rfl, hq3⟩ := lenM (n := 3) hq2
  obtain ⟨o8, q4, rfl, hq4⟩ := lenM (n := 2) hq3
  obtain ⟨o9, q5, rfl, hq5⟩ := lenM (n := 1) hq4
  obtain ⟨o10, q6, rfl, hq6⟩ := lenM (n := 0) hq5
  obtain rfl := List.length_eq_zero_iff.mp hq6
  obtain ⟨p, hs, y1, e1, h, hi, -, hy1⟩ := hst y 5 5 hy (by decide) (by decide) (by decide) (by decide)
  obtain ⟨row, y2, e2, hr, hy2⟩ := hrow y1 p hs hy1 h
  obtain ⟨q, y3, e3, q0, q1, hy3⟩ := hd y2 10 hy2 (by decide) (by decide)
  obtain ⟨t, et, ht⟩ : ∃ t : Nat, idxD (.list [.int 0, .int 1, .int 2, .int 3, .int 4, .int 5, .int 6, .int 7, .int 9, .int 50]) (.int q) = some (.int (t : Int)) ∧ t ≤ 50 := by
    have : q = 0 ∨ q = 1 ∨ q = 2 ∨ q = 3 ∨ q = 4 ∨ q = 5 ∨ q = 6 ∨ q = 7 ∨ q = 8 ∨ q = 9 := by omega
    rcases this with rfl | rfl | rfl | rfl | rfl | rfl | rfl | rfl | rfl | rfl
    · exact ⟨0, rfl, by decide⟩
    · exact ⟨1, rfl, by decide⟩
    · exact ⟨2, rfl, by decide⟩
    · exact ⟨3, rfl, by decide⟩
    · exact ⟨4, rfl, by decide⟩
    · exact ⟨5, rfl, by decide⟩
    · exact ⟨6, rfl, by decide⟩
    · exact ⟨7, rfl, by decide⟩
    · exact ⟨9, rfl, by decide⟩
    · exact ⟨50, rfl, by decide⟩
  have hi2 : Hi hs 1000 := fun x hx => by have := hi x hx; omega
  obtain ⟨s1, s2, s3⟩ := tame_sD (m := 1000) h hi2 (by decide)
  obtain ⟨r1, r2, r3⟩ := row_tame hr
  obtain ⟨t1, t2, t3⟩ := rnd_tame hr (st := (p, hs)) h hi2 (t := t) (by omega)
  have w1 := okShow_pr s1 (by omega) (by omega) r1 (by omega) (by omega)
  have w2 := okShow_dd t1 (by omega) (by omega)
  have e4 := hro p hs row t h hr (by omega)
  have e5 := hla p hs row t h hr (by omega)
  have e6 := hsm _ w2
  unfold lapsD at e5
  generalize rnd row t 0 (p, hs) = due at *
  obtain ⟨a, b, c, rfl, -, -⟩ := id hy
  obtain ⟨a1, b1, c1, rfl, -, -⟩ := id hy1
  obtain ⟨a2, b2, c2, rfl, -, -⟩ := id hy2
  obtain ⟨a3, b3, c3, rfl, -, -⟩ := id hy3
  have ec : ∀ (o3 o7 o8 o9 o10 : Option Vl), ev G ((E.call la [E.var 4, E.var 5, E.var 6]).comp (Tg.n 10) (It.rg1 (cI 2)) none [10] false) [some (.scr ns), o1, some (.ol [.int a3, .int b3, .int c3]), o3, some (.fz (sD p hs)), some (.fz (tI' row)), some (.fz (.int (t : Nat))), o7, o8, o9, o10] = some (.st (.ol [due, due]), [some (.scr ns), o1, some (.ol [.int a3, .int b3, .int c3]), o3, some (.fz (sD p hs)), some (.fz (tI' row)), some (.fz (.int (t : Nat))), o7, o8, o9, o10]) := by
    intro o3 o7 o8 o9 o10
    refine ev_comp_map (List.range 2) (fun (i : Nat) => .int (i : Int)) (fun _ => due) ?_ (fun i _ => ?_) (by decide)
    · rw [← rangeD_nat 2]
      exact its_rg1_of (by simp) (by decide)
    · simp only [sD, tI'] at *
      simp [turn0, wipeF, wipeP, e5]
  have z2 : okSz 2 = true := by decide
  have z10 : okSz 10 = true := by decide
  have e9 : ∀ x : Str, cmpD .ne (.str x) (.str x) = some false := by
    intro x
    show some (!decide (x = x)) = _
    simp
  refine ⟨.ol [.int a3, .int b3, .int c3], some (.fz (.int j)), [some (.fz (sD p hs)), some (.fz (tI' row)), some (.fz (.int (t : Nat))), some (.fz (.str (PyData.tuple [sD p hs, tI' row]).shown)), some (.fz due), some (.ol [due, due]), o10], ?_, hy3, rfl⟩
  simp only [sD, tI'] at *
  simp [turnF, law32In, e1, e2, e3, et, e4, ec, e6, w1, z2, z10, e9]
theorem law32_run {G : Fs} {ce pe ls lr ld lr2 la ls2 : Nat} (hce : PCell G ce) (hpe : PPen G pe) (hst : PStandDraw G ls) (hrow : PRow G lr) (hd : PDraw G ld) (hro : PRounds G lr2) (hla : PLaps G la) (hsm : PSameL G ls2) (ns : List Int) : ∃ ps, runF G (law32Fn pe ce ls lr ld lr2 la ls2) [.scr ns] = some (.fz (.bool true), ps) :=
  outer_run hce hpe ns (N := 3) (M := 6) (m := 7) (by decide) (by decide) fun j y o1 o3 rest hy _ _ hr => law32_in hst hrow hd hro hla hsm ns j y o1 o3 rest hy hr
end Tr

set_option Elab.async false
set_option linter.all false
set_option maxRecDepth 100000
set_option maxHeartbeats 1000000
/-! The program's first defs, of any thing. -/
namespace Tr
open PySem
/-- a tuple of so many -/
def lngD (d : D) (a b : Int) : Bool := match d with
  | .tuple xs => decide (a ≤ (xs.length : Int)) && decide ((xs.length : Int) ≤ b)
  | _ => false
def PLongA (G : Fs) (f : Nat) : Prop := ∀ (d : D) (a b : Int), G f [.fz d, .fz (.int a), .fz (.int b)] = some (.fz (.bool (lngD d a b)), [.fz d, .fz (.int a), .fz (.int b)])
theorem longA_run (G : Fs) (d : D) (a b : Int) : runF G isLongFn [.fz d, .fz (.int a), .fz (.int b)] = some (.fz (.bool (lngD d a b)), [.fz d, .fz (.int a), .fz (.int b)]) := by
  cases d with
  | tuple xs =>
    by_cases c : a ≤ (xs.length : Int)
    · simp [runF, isLongFn, isTy, lngD, c]
    · simp [runF, isLongFn, isTy, lngD, c]
  | _ => simp [runF, isLongFn, isTy, lngD]
theorem PLongA.to {G : Fs} {f : Nat} (h : PLongA G f) : PLong G f := fun xs a b h1 h2 => by
  have e := h (.tuple xs) a b
  have : lngD (.tuple xs) a b = true := by
    show (decide _ && decide _) = true
    rw [decide_eq_true h1, decide_eq_true h2]
    rfl
  rw [this] at e
  exact e
def withD (d : D) (a b : Int) : Bool := match d with
  | .int i => decide (a ≤ i) && decide (i ≤ b)
  | _ => false
def PWithinA (G : Fs) (f : Nat) : Prop := ∀ (d : D) (a b : Int), G f [.fz d, .fz (.int a), .fz (.int b)] = some (.fz (.bool (withD d a b)), [.fz d, .fz (.int a), .fz (.int b)])
theorem withinA_run {G : Fs} {iw : Nat} (h : PWhole G iw) (d : D) (a b : Int) : runF G (isWithinFn iw) [.fz d, .fz (.int a), .fz (.int b)] = some (.fz (.bool (withD d a b)), [.fz d, .fz (.int a), .fz (.int b)]) := by
  have e := h d
  cases d with
  | int i =>
    by_cases c : a ≤ i
    · simp [runF, isWithinFn, isWhole, e, withD, c]
    · simp [runF, isWithinFn, isWhole, e, withD, c]
  | _ => simp [runF, isWithinFn, isWhole, e, withD]
theorem PWithinA.to {G : Fs} {f : Nat} (h : PWithinA G f) : PWithin G f := fun i a b h1 h2 => by
  have e := h (.int i) a b
  have : withD (.int i) a b = true := by
    show (decide _ && decide _) = true
    rw [decide_eq_true h1, decide_eq_true h2]
    rfl
  rw [this] at e
  exact e
def stpD (d : D) : Bool := match d with
  | .int s => decide (s = -1 ∨ s = 1)
  | _ => false
def PIsStepA (G : Fs) (f : Nat) : Prop := ∀ d : D, G f [.fz d] = some (.fz (.bool (stpD d)), [.fz d])
theorem in_steps (s : Int) : inD (.int s) [.int (-1), .int 1] = decide (s = -1 ∨ s = 1) := by
  simp only [inD, List.any_cons, List.any_nil, PyData.eqv, Bool.or_false]
  rw [Bool.eq_iff_iff]
  simp
  omega
theorem isStepA_run {G : Fs} {iw : Nat} (hw : PWhole G iw) (d : D) : runF G (isStepFn iw) [.fz d] = some (.fz (.bool (stpD d)), [.fz d]) := by
  have e1 := hw d
  cases d with
  | int s =>
    have e2 : cmpD .isin (.int s) sTup = some (decide (s = -1 ∨ s = 1)) := by
      rw [← in_steps]
      rfl
    simp [runF, isStepFn, e1, e2, isWhole, stpD]
  | _ => simp [runF, isStepFn, e1, isWhole, stpD]
theorem PIsStepA.to {G : Fs} {f : Nat} (h : PIsStepA G f) : PIsStep G f := fun s hs => by
  have e := h (.int s)
  have : stpD (.int s) = true := decide_eq_true hs
  rw [this] at e
  exact e
def wlkD (d : D) : Bool := match d with
  | .tuple xs => xs.all stpD
  | _ => false
theorem boolsD_map {α : Type} (g : α → Bool) : ∀ l : List α, boolsD (l.map fun x => .bool (g x)) = some (l.map g)
  | [] => rfl
  | x :: l => by
    rw [List.map_cons, List.map_cons]
    show (boolsD (l.map fun x => .bool (g x))).map (g x :: ·) = _
    rw [boolsD_map g l]
    rfl
/-- a thing whose tuples are not too long -/
def fewD (d : D) : Prop := ∀ xs, d = .tuple xs → xs.length ≤ 1000
def PIsWalkA (G : Fs) (f : Nat) : Prop := ∀ d : D, fewD d → G f [.fz d] = some (.fz (.bool (wlkD d)), [.fz d])
theorem isWalkA_run {G : Fs} {isx : Nat} (hi : PIsStepA G isx) {d : D} (h : fewD d) : runF G (isWalkFn isx) [.fz d] = some (.fz (.bool (wlkD d)), [.fz d]) := by
  cases d with
  | tuple xs =>
    have hl := h xs rfl
    have ec : ev G ((E.call isx [E.var 1]).comp (Tg.n 1) (It.li (E.var 0)) none [1] false) [some (.fz (.tuple xs)), none] = some (.st (.ol (xs.map fun x => .bool (stpD x))), [some (.fz (.tuple xs)), none]) := by
      refine ev_comp_map xs (fun x => x) (fun x => .bool (stpD x)) (by simp) (fun n hn => ?_) (by omega)
      have := hi n
      simp [turn0, wipeF, wipeP, this]
    have e2 : biD .all [.list (xs.map fun x => .bool (stpD x))] = some (.fz (.bool (xs.all stpD))) := by
      show (boolsD _).map _ = _
      rw [boolsD_map]
      show some (Vl.fz (.bool ((xs.map stpD).all id))) = _
      rw [List.all_map]
      rfl
    simp [runF, isWalkFn, ec, e2, isTy, wlkD]
  | _ => simp [runF, isWalkFn, isTy, wlkD]
theorem stps_all : ∀ {ws : List Int}, Stps ws → (ws.map PyData.int).all stpD = true
  | [], _ => rfl
  | s :: ws, h => by
    rw [List.map_cons, List.all_cons, stps_all fun x hx => h x (List.mem_cons_of_mem _ hx), Bool.and_true]
    exact decide_eq_true (h s List.mem_cons_self)
theorem all_stps : ∀ {xs : List D}, xs.all stpD = true → ∃ ws : List Int, xs = ws.map .int ∧ Stps ws
  | [], _ => ⟨[], rfl, fun _ h => nomatch h⟩
  | x :: xs, h => by
    rw [List.all_cons, Bool.and_eq_true] at h
    obtain ⟨ws, e, hs⟩ := all_stps h.2
    cases x with
    | int s =>
      have h1 : decide (s = -1 ∨ s = 1) = true := h.1
      have h2 : s = -1 ∨ s = 1 := of_decide_eq_true h1
      refine ⟨s :: ws, by rw [List.map_cons, e], fun y hy => ?_⟩
      rcases List.mem_cons.mp hy with rfl | hy
      · exact h2
      · exact hs y hy
    | _ => exact absurd h.1 (by simp [stpD])
theorem PIsWalkA.to {G : Fs} {f : Nat} (h : PIsWalkA G f) : PIsWalk G f := fun ws hs hl => by
  have e := h (tI' ws) (fun xs hx => by cases hx; rw [List.length_map]; exact hl)
  have : wlkD (tI' ws) = true := stps_all hs
  rw [this] at e
  exact e
end Tr

set_option Elab.async false
set_option linter.all false
set_option maxRecDepth 100000
set_option maxHeartbeats 1000000
/-! Stands as pairs; dicts whose keys are stands. -/
namespace Tr
open PySem
abbrev Stt := Int × List Int
def dS (a : Stt) : D := sD a.1 a.2
def stB (a : Stt) (s : Int) : Stt := (a.1 + s, raiseH a.2 a.1)
def letS (a : Stt) (s : Int) : Bool := letB a.1 a.2 s
def IsS (a : Stt) : Prop := IsSt a.1 a.2
theorem stB_is {a : Stt} {s : Int} (h : IsS a) (hl : letS a s = true) : IsS (stB a s) := IsSt.step h hl
theorem pks_ints : ∀ hs : List Int, pks (hs.map PyData.int) = true
  | [] => rfl
  | h :: hs => by simp only [List.map_cons, pks, pk, pks_ints hs, Bool.and_self]
theorem pk_dS (a : Stt) : pk (dS a) = true := by
  simp only [dS, sD, tI', pk, pks, pks_ints, Bool.and_self]
theorem depths_ints : ∀ hs : List Int, NestedKey.depthAll (nks (hs.map PyData.int)) ≤ 1
  | [] => by simp [nks, NestedKey.depthAll]
  | h :: hs => by
    have := depths_ints hs
    simp only [List.map_cons, nks, nk, NestedKey.depthAll, NestedKey.depth]
    omega
theorem tkey_dS (a : Stt) : tkey (dS a) = true := by
  unfold tkey
  rw [pk_dS, Bool.and_true]
  have := depths_ints a.2
  simp only [dS, sD, tI', isTupD, nk, nks, NestedKey.depth, NestedKey.depthAll, Bool.true_and, decide_eq_true_eq]
  omega
theorem map_int_inj : ∀ {xs ys : List Int}, xs.map PyData.int = ys.map PyData.int → xs = ys
  | [], [], _ => rfl
  | [], _ :: _, h => by cases h
  | _ :: _, [], h => by cases h
  | x :: xs, y :: ys, h => by
    simp only [List.map_cons, List.cons.injEq, PyData.int.injEq] at h
    rw [h.1, map_int_inj h.2]
theorem dS_inj {a b : Stt} (h : dS a = dS b) : a = b := by
  obtain ⟨a1, a2⟩ := a
  obtain ⟨b1, b2⟩ := b
  simp only [dS, sD, tI', PyData.tuple.injEq, List.cons.injEq, PyData.int.injEq, and_true] at h
  rw [h.1, map_int_inj h.2]
theorem nk_dS {a b : Stt} : nk (dS a) = nk (dS b) ↔ a = b :=
  ⟨fun h => dS_inj (nk_inj _ _ (pk_dS a) (pk_dS b) h), fun h => by rw [h]⟩
/-! ### dicts with stands as keys -/
variable {β : Type}
def encM (enc : β → D) (m : List (Stt × β)) : List (D × D) := m.map fun p => (dS p.1, enc p.2)
def getS (m : List (Stt × β)) (k : Stt) : Option β := (m.find? fun p => decide (p.1 = k)).map (·.2)
def putS (m : List (Stt × β)) (k : Stt) (v : β) : List (Stt × β) :=
  if m.any fun p => decide (p.1 = k) then m.map fun p => if p.1 = k then (p.1, v) else p else m ++ [(k, v)]
theorem kfit_dS (enc : β → D) (m : List (Stt × β)) (k : Stt) : kfit (encM enc m) (dS k) = true := by
  unfold kfit encM
  rw [tkey_dS, Bool.true_and, Bool.or_eq_true]
  left
  rw [List.all_map, List.all_eq_true]
  intro p _
  exact tkey_dS p.1
theorem dget_dS (enc : β → D) : ∀ (m : List (Stt × β)) (k : Stt), dget (encM enc m) (dS k) = (getS m k).map enc
  | [], k => rfl
  | p :: m, k => by
    have ih := dget_dS enc m k
    unfold dget getS encM at *
    simp only [List.map_cons, List.find?_cons, nk_dS]
    by_cases h : p.1 = k
    · simp [h]
    · simp only [h, decide_false]
      exact ih
theorem any_dS (enc : β → D) (m : List (Stt × β)) (k : Stt) : ((encM enc m).any fun p => decide (nk p.1 = nk (dS k))) = m.any fun p => decide (p.1 = k) := by
  unfold encM
  rw [List.any_map]
  congr 1
  funext p
  show decide (nk (dS p.1) = nk (dS k)) = _
  simp only [nk_dS]
theorem dput_dS (enc : β → D) (m : List (Stt × β)) (k : Stt) (v : β) : dput (encM enc m) (dS k) (enc v) = encM enc (putS m k v) := by
  unfold dput
  rw [any_dS]
  unfold putS
  split
  · unfold encM
    rw [List.map_map, List.map_map]
    refine List.map_congr_left fun p _ => ?_
    show (if nk (dS p.1) = nk (dS k) then _ else _) = (fun q : Stt × β => (dS q.1, enc q.2)) (if p.1 = k then (p.1, v) else p)
    simp only [nk_dS]
    split <;> rfl
  · unfold encM
    rw [List.map_append]
    rfl
theorem putS_new {m : List (Stt × β)} {k : Stt} {v : β} (h : ∀ p ∈ m, p.1 ≠ k) : putS m k v = m ++ [(k, v)] := by
  unfold putS
  rw [if_neg]
  intro c
  obtain ⟨p, hp, e⟩ := List.any_eq_true.mp c
  exact h p hp (of_decide_eq_true e)
theorem encM_len (enc : β → D) (m : List (Stt × β)) : (encM enc m).length = m.length := List.length_map ..
theorem putS_len (m : List (Stt × β)) (k : Stt) (v : β) : (putS m k v).length ≤ m.length + 1 := by
  unfold putS
  split
  · rw [List.length_map]; omega
  · rw [List.length_append]; simp
end Tr

set_option Elab.async false
set_option linter.all false
set_option maxRecDepth 100000
set_option maxHeartbeats 1000000
/-! k24: who goes on for ever: the program's runs. -/
namespace Tr
open PySem
def dnB (p : Int) (hs : List Int) (s : Int) : Bool := decide (at' hs (p + s) < at' hs p)
def dnS (a : Stt) (s : Int) : Bool := dnB a.1 a.2 s
def goesDownFn : Fn := ⟨2, 4, [S.asg (Tg.t [Tg.n 2, Tg.n 3]) (E.var 0), S.ret (E.cmp Cop.lt ((E.var 3).idx (E.bin Bop.add (E.var 2) (E.var 1))) ((E.var 3).idx (E.var 2)))]⟩
def PDown (G : Fs) (f : Nat) : Prop := ∀ p hs s, IsSt p hs → letB p hs s = true → G f [.fz (sD p hs), .fz (.int s)] = some (.fz (.bool (dnB p hs s)), [.fz (sD p hs), .fz (.int s)])
theorem let_bounds {p : Int} {hs : List Int} {s : Int} (h : letB p hs s = true) : 0 ≤ p + s ∧ p + s < hs.length ∧ at' hs (p + s) - at' hs p ≤ 1 ∧ -1 ≤ at' hs (p + s) - at' hs p := by
  unfold letB at h
  simp only [Bool.and_eq_true, decide_eq_true_eq] at h
  exact ⟨h.1.1.1, h.1.1.2, h.1.2, h.2⟩
theorem down_run (G : Fs) {p : Int} {hs : List Int} {s : Int} (h : IsSt p hs) (hl : letB p hs s = true) : runF G goesDownFn [.fz (sD p hs), .fz (.int s)] = some (.fz (.bool (dnB p hs s)), [.fz (sD p hs), .fz (.int s)]) := by
  obtain ⟨h1, h2, h3⟩ := h
  have e1 := idx_tup h2 h3
  have b := let_bounds hl
  have e2 := idx_tup b.1 b.2.1
  simp only [sD, tI']
  simp [runF, goesDownFn, dnB, e1, e2]
def runTo : Nat → Stt → Int → List Int × Bool
  | 0, _, _ => ([], false)
  | n + 1, a, s => if letS a s then (if dnS a s then (s :: (runTo n (stB a s) s).1, (runTo n (stB a s) s).2) else ([s], true)) else ([], false)
def room (a : Stt) (s : Int) : Nat := if s = 1 then a.2.length - 1 - a.1.toNat else a.1.toNat
theorem raise_len' (hs : List Int) (p : Int) : (raiseH hs p).length = hs.length := by unfold raiseH; rw [List.length_set]
theorem room_step {a : Stt} {s : Int} (ha : IsS a) (hs : IsStp s) (hl : letS a s = true) : room (stB a s) s + 1 = room a s := by
  have b := let_bounds hl
  obtain ⟨-, h2, h3⟩ := ha
  unfold room stB
  rw [raise_len']
  rcases hs with rfl | rfl
  · simp only [show ¬((-1 : Int) = 1) by decide, if_false]
    omega
  · simp only [if_true]
    omega
theorem room_le {a : Stt} {s : Int} (ha : IsS a) : room a s ≤ 4 := by
  obtain ⟨⟨h0, h1, -⟩, h2, h3⟩ := ha
  unfold room
  split <;> omega
theorem runTo_len : ∀ (n : Nat) (a : Stt) (s : Int), (runTo n a s).1.length ≤ n
  | 0, _, _ => Nat.le_refl _
  | n + 1, a, s => by
    unfold runTo
    have := runTo_len n (stB a s) s
    split
    · split
      · simp only [List.length_cons]; omega
      · simp
    · simp
theorem runTo_good : ∀ (n : Nat) (a : Stt) (s : Int), (runTo n a s).2 = true → ∃ w, (runTo n a s).1 = s :: w
  | 0, _, _, h => by cases h
  | n + 1, a, s, h => by
    unfold runTo at h ⊢
    split
    · rename_i c
      rw [if_pos c] at h
      split
      · exact ⟨_, rfl⟩
      · exact ⟨_, rfl⟩
    · rename_i c
      rw [if_neg c] at h
      cases h
def runIn (gd sb : Nat) : List S := [S.asg (Tg.n 2) (E.bin Bop.add (E.var 2) (E.tup [E.var 1])), S.iff (E.call gd [E.var 0, E.var 1]).not [S.ret (E.tup [E.var 2, E.con (.bool true)])] [], S.asg (Tg.n 0) (E.call sb [E.var 0, E.var 1])]
def runToFn (il gd sb : Nat) : Fn := ⟨2, 3, [S.asg (Tg.n 2) (E.tup []), S.whl (E.call il [E.var 0, E.var 1]) (runIn gd sb), S.ret (E.tup [E.var 2, E.con (.bool false)])]⟩
def rD (r : List Int × Bool) : D := .tuple [tI' r.1, .bool r.2]
theorem whileN_succ (test : Fm → R Bool) (body : Fm → R Sg) (n : Nat) (fr : Fm) : whileN test body (n + 1) fr = (test fr).bind fun c => if c.1 then (body c.2).bind fun r => match r.1 with
      | .nx => whileN test body n r.2
      | .rt x => some (.rt x, r.2)
    else some (.nx, c.2) := rfl
theorem runTo_while {G : Fs} {il gd sb : Nat} (hil : PLet G il) (hgd : PDown G gd) (hsb : PStepBy G sb) {s : Int} (hs : IsStp s) : ∀ (n : Nat) (a : Stt) (w : List Int) (K : Nat), IsS a → w.length + n ≤ 100 → n < K → room a s ≤ n →
    ∃ a' : Stt, whileN (fun fr => tru G (.call il [.var 0, .var 1]) fr) (fun fr => Tr.execs G [] (runIn gd sb) fr) K [some (.fz (dS a)), some (.fz (.int s)), some (.fz (tI' w))] = some (if (runTo n a s).2 then .rt (.fz (rD (w ++ (runTo n a s).1, true))) else .nx, [some (.fz (dS a')), some (.fz (.int s)), some (.fz (tI' (w ++ (runTo n a s).1)))])
  | n, a, w, 0, _, _, h, _ => absurd h (by omega)
  | n, a, w, K + 1, ha, hw, hK, hr => by
    rw [whileN_succ]
    have e1 := hil a.1 a.2 s ha
    cases c : letS a s with
    | false =>
      have c' : letB a.1 a.2 s = false := c
      rw [c'] at e1
      have er : runTo n a s = ([], false) := by
        cases n with
        | zero => rfl
        | succ n => unfold runTo; rw [c]; rfl
      rw [er]
      refine ⟨a, ?_⟩
      simp only [dS, sD, tI'] at *
      simp [e1]
    | true =>
      cases n with
      | zero =>
        have := room_step ha hs c
        omega
      | succ n =>
        have c' : letB a.1 a.2 s = true := c
        rw [c'] at e1
        have e2 := hgd a.1 a.2 s ha c
        have e3 := hsb a.1 a.2 s ha
        have z1 : okSz 1 = true := by decide
        have z2 : okSz 2 = true := by decide
        have zw : okSz (w.length + 1) = true := okSz_ok (by omega)
        unfold runTo
        rw [c]
        cases d : dnS a s with
        | false =>
          have d' : dnB a.1 a.2 s = false := d
          rw [d'] at e2
          refine ⟨a, ?_⟩
          simp only [dS, sD, tI', rD] at *
          simp [e1, e2, runIn, z1, z2, zw]
        | true =>
          have d' : dnB a.1 a.2 s = true := d
          rw [d'] at e2
          have hr' := room_step ha hs c
          obtain ⟨a', e4⟩ := runTo_while hil hgd hsb hs n (stB a s) (w ++ [s]) K (stB_is ha c) (by simp; omega) (by omega) (by omega)
          refine ⟨a', ?_⟩
          simp only [if_true]
          have e5 : Tr.execs G [] (runIn gd sb) [some (.fz (dS a)), some (.fz (.int s)), some (.fz (tI' w))] = some (.nx, [some (.fz (dS (stB a s))), some (.fz (.int s)), some (.fz (tI' (w ++ [s])))]) := by
            simp only [dS, sD, tI', rD, stB] at *
            simp [e1, e2, e3, runIn, z1, z2, zw]
          have e6 : tru G (.call il [.var 0, .var 1]) [some (.fz (dS a)), some (.fz (.int s)), some (.fz (tI' w))] = some (true, [some (.fz (dS a)), some (.fz (.int s)), some (.fz (tI' w))]) := by
            simp only [dS, sD, tI', rD, stB] at *
            simp [e1]
          rw [e6]
          simp only [Option.bind_some, if_true]
          rw [e5]
          simp only [Option.bind_some]
          rw [e4]
          simp only [List.append_assoc, List.singleton_append]
def PRunTo (G : Fs) (f : Nat) : Prop := ∀ a s, IsS a → IsStp s → G f [.fz (dS a), .fz (.int s)] = some (.fz (rD (runTo 5 a s)), [.fz (dS a), .fz (.int s)])
theorem runTo_run {G : Fs} {il gd sb : Nat} (hil : PLet G il) (hgd : PDown G gd) (hsb : PStepBy G sb) {a : Stt} {s : Int} (ha : IsS a) (hs : IsStp s) : runF G (runToFn il gd sb) [.fz (dS a), .fz (.int s)] = some (.fz (rD (runTo 5 a s)), [.fz (dS a), .fz (.int s)]) := by
  have hr : room a s ≤ 5 := by have := room_le (s := s) ha; omega
  obtain ⟨a', e⟩ := runTo_while hil hgd hsb hs 5 a [] fuel ha (by decide) (by decide) hr
  have z0 : okSz 0 = true := by decide
  have z2 : okSz 2 = true := by decide
  have e0 : Tr.exec G [] (S.whl (E.call il [E.var 0, E.var 1]) (runIn gd sb)) [some (.fz (dS a)), some (.fz (.int s)), some (.fz (tI' []))] = _ := (exec_whl (G := G) ..).trans e
  generalize runTo 5 a s = r at *
  obtain ⟨w, g⟩ := r
  have el : (finals [Vl.fz (dS a), Vl.fz (.int s)] [some (Vl.fz (dS a')), some (.fz (.int s)), some (.fz (tI' w))]) = some [Vl.fz (dS a), Vl.fz (.int s)] := rfl
  cases g <;> simp only [dS, sD, tI', rD, List.nil_append, List.map_nil, if_true, Bool.false_eq_true, if_false] at * <;> simp [runF, runToFn, e0, z0, z2]
end Tr

set_option Elab.async false
set_option linter.all false
set_option maxRecDepth 100000
set_option maxHeartbeats 1000000
/-! k24: ever_by: of both runs the less. -/
namespace Tr
open PySem
theorem canLay_ints (ns : List Int) : PyData.canLayAll0 (ns.map .int) = true := by
  induction ns with
  | nil => rfl
  | cons n ns ih =>
    rw [List.map_cons]
    show (true && PyData.canLayAll0 (ns.map .int)) = true
    rw [ih]; rfl
theorem shaped_list {xs : List D} (h1 : PyData.canLayAll0 xs = true) (h2 : PyData.depthAll xs ≤ 63) : SeqAt.shaped (.list xs) = true := by
  unfold SeqAt.shaped
  rw [Bool.and_eq_true]
  exact ⟨h1, decide_eq_true (by show PyData.depthAll xs + 1 ≤ 64; omega)⟩
theorem cmp_ne_nil {xs : List D} (h : SeqAt.shaped (.list xs) = true) : cmpD .ne (.list xs) (.list []) = some (!xs.isEmpty) := by
  have h2 := shaped_ints []
  show (if okEq (.list xs) (.list []) = true then some (!PyData.eqv (.list xs) (.list [])) else none) = _
  rw [if_pos (by unfold okEq; rw [h]; exact h2), eqv_nilL]
/-- a walk, and how long it is -/
def lwD (w : List Int) : D := .tuple [.int (w.length : Nat), tI' w]
theorem canLay_w (w : List Int) : PyData.canLay0 (tI' w) = true := canLay_ints w
theorem canLay_lw (w : List Int) : PyData.canLay0 (lwD w) = true := by
  show PyData.canLayAll0 [_, _] = true
  simp only [PyData.canLayAll0, PyData.canLay0, canLay_w, Bool.and_self]
theorem depth_w (w : List Int) : (tI' w).depth ≤ 1 := by
  show PyData.depthAll (w.map .int) + 1 ≤ 1
  rw [depthL_ints]
  exact Nat.le_refl _
theorem depth_lw (w : List Int) : (lwD w).depth ≤ 2 := by
  have := depth_w w
  show PyData.depthAll [_, _] + 1 ≤ 2
  simp only [PyData.depthAll, PyData.depth]
  omega
theorem alike_w (a b : List Int) : PySem.W.alike (tI' a) (tI' b) = true := by simp [tI', PySem.W.alike, PySem.W.alike_ints]
theorem alike_lw (a b : List Int) : PySem.W.alike (lwD a) (lwD b) = true := by
  have := alike_w a b
  simp [lwD, PySem.W.alike, PySem.W.alikeAll, this]
theorem okMin_of {xs : List D} (h1 : ∀ x ∈ xs, ∀ y ∈ xs, PySem.W.alike x y = true) (h2 : ∀ x ∈ xs, x ≠ .none) (h3 : PyData.depthAll xs ≤ 64) : okMin xs = true := by
  unfold okMin
  rw [Bool.and_eq_true, Bool.and_eq_true]
  refine ⟨⟨?_, ?_⟩, decide_eq_true h3⟩
  · unfold allAlikeB
    rw [List.all_eq_true]
    intro x hx
    rw [List.all_eq_true]
    exact fun y hy => h1 x hx y hy
  · rw [List.all_eq_true]
    intro x hx
    have := h2 x hx
    cases x <;> first | rfl | exact absurd rfl this
theorem lt_w (a b : List Int) : PySem.W.dataLt (tI' a) (tI' b) = decide (a < b) := by
  unfold tI'
  rw [PySem.W.dataLt_tuple]
  exact PySem.W.dataLt_ints a b
theorem lt_lw (a b : List Int) : PySem.W.dataLt (lwD a) (lwD b) = if a.length = b.length then (if PyData.eqv (tI' a) (tI' b) = true then false else decide (a < b)) else decide (a.length < b.length) := by
  unfold lwD
  rw [PySem.W.dataLt_pair (by simp [PySem.W.alike]) (alike_w a b), PySem.W.dataLt_int, lt_w]
  by_cases h : a.length = b.length
  · rw [if_pos (by simp [PyData.eqv, h]), if_pos h]
  · rw [if_neg (by simp [PyData.eqv]; omega), if_neg h]
    congr 1
    apply propext
    omega
theorem lt_right (a b : List Int) : decide ((1 : Int) :: b < (-1) :: a) = false := by
  refine decide_eq_false fun h => ?_
  rw [List.cons_lt_cons_iff] at h
  omega
theorem min_lw1 (w : List Int) : biD .min [.list [lwD w]] = some (.fz (lwD w)) := by
  show (if okMin [lwD w] = true then some (Vl.fz (PySem.W.minD (lwD w) [])) else none) = _
  rw [if_pos (okMin_of (by simp [alike_lw]) (by simp [lwD]) (by have := depth_lw w; simp only [PyData.depthAll]; omega))]
  rfl
theorem okMin_lw2 (a b : List Int) : okMin [lwD a, lwD b] = true :=
  okMin_of (by simp [alike_lw]) (by simp [lwD]) (by have := depth_lw a; have := depth_lw b; simp only [PyData.depthAll]; omega)
theorem min_lw2 (a b : List Int) : biD .min [.list [lwD (-1 :: a), lwD (1 :: b)]] = some (.fz (if b.length < a.length then lwD (1 :: b) else lwD (-1 :: a))) := by
  show (if okMin [lwD (-1 :: a), lwD (1 :: b)] = true then some (Vl.fz (if PySem.W.dataLt (lwD (1 :: b)) (lwD (-1 :: a)) then lwD (1 :: b) else lwD (-1 :: a))) else none) = _
  rw [if_pos (okMin_lw2 _ _), lt_lw, lt_right]
  simp only [List.length_cons]
  by_cases h : b.length + 1 = a.length + 1
  · rw [if_pos h, if_neg (show ¬ b.length < a.length by omega)]
    simp
  · rw [if_neg h]
    by_cases h2 : b.length < a.length
    · rw [if_pos h2, if_pos (by simp; omega)]
    · rw [if_neg h2, if_neg (by simp; omega)]
theorem min_w1 (w : List Int) : biD .min [.list [tI' w]] = some (.fz (tI' w)) := by
  show (if okMin [tI' w] = true then some (Vl.fz (PySem.W.minD (tI' w) [])) else none) = _
  rw [if_pos (okMin_of (by simp [alike_w]) (by simp [tI']) (by have := depth_w w; simp only [PyData.depthAll]; omega))]
  rfl
theorem min_w2 (a b : List Int) : biD .min [.list [tI' (-1 :: a), tI' (1 :: b)]] = some (.fz (tI' (-1 :: a))) := by
  show (if okMin [tI' (-1 :: a), tI' (1 :: b)] = true then some (Vl.fz (if PySem.W.dataLt (tI' (1 :: b)) (tI' (-1 :: a)) then tI' (1 :: b) else tI' (-1 :: a))) else none) = _
  rw [if_pos (okMin_of (by simp [alike_w]) (by simp [tI']) (by have := depth_w (-1 :: a); have := depth_w (1 :: b); simp only [PyData.depthAll]; omega)), lt_w, lt_right]
  rfl
theorem max_ints2 (a b : Int) : biD .max [.list [.int a, .int b]] = some (.fz (.int (max a b))) := maxL_ints a [b]
def endl (w : List Int) : D := .tuple [.str "endless", tI' w]
def ends (n : Nat) : D := .tuple [.str "ends", .int (n : Nat)]
def everD (a : Stt) : D :=
  if (runTo 5 a (-1)).2 then (if (runTo 5 a 1).2 && decide ((runTo 5 a 1).1.length < (runTo 5 a (-1)).1.length) then endl (runTo 5 a 1).1 else endl (runTo 5 a (-1)).1)
  else if (runTo 5 a 1).2 then endl (runTo 5 a 1).1 else ends (max (runTo 5 a (-1)).1.length (runTo 5 a 1).1.length)
def everByFn (rt : Nat) : Fn := ⟨1, 6, [S.asg (Tg.n 1) ((E.call rt [E.var 0, E.var 2]).comp (Tg.n 2) (It.li (E.tup [E.glb (.int (-1)), E.glb (.int 1)])) none [2] false), S.asg (Tg.n 3) ((E.tup [E.bi Bi.len [E.var 4], E.var 4]).comp (Tg.t [Tg.n 4, Tg.n 5]) (It.li (E.var 1)) (some (E.var 5)) [4, 5] false), S.iff (E.cmp Cop.ne (E.var 3) (E.lst [])) [S.ret (E.tup [E.glb (.str "endless"), (E.bi Bi.min [E.var 3]).idx (cI 1)])] [], S.ret (E.tup [E.glb (.str "ends"), E.bi Bi.max [(E.bi Bi.len [E.var 4]).comp (Tg.t [Tg.n 4, Tg.n 5]) (It.li (E.var 1)) none [4, 5] false]])]⟩
def PEver (G : Fs) (f : Nat) : Prop := ∀ a, IsS a → G f [.fz (dS a)] = some (.fz (everD a), [.fz (dS a)])
theorem everBy_run {G : Fs} {rt : Nat} (hrt : PRunTo G rt) {a : Stt} (ha : IsS a) : runF G (everByFn rt) [.fz (dS a)] = some (.fz (everD a), [.fz (dS a)]) := by
  have z2 : okSz 2 = true := by decide
  have z0 : okSz 0 = true := by decide
  have ec1 : ev G ((E.call rt [E.var 0, E.var 2]).comp (Tg.n 2) (It.li (E.tup [E.glb (.int (-1)), E.glb (.int 1)])) none [2] false) [some (.fz (dS a)), none, none, none, none, none] = some (.st (.ol (([-1, 1] : List Int).map fun s => rD (runTo 5 a s))), [some (.fz (dS a)), none, none, none, none, none]) := by
    refine ev_comp_map ([-1, 1] : List Int) .int (fun s => rD (runTo 5 a s)) (by simp [z2]) (fun n hn => ?_) (by decide)
    have hs : IsStp n := by simpa [IsStp] using hn
    have e1 := hrt a n ha hs
    simp [turn0, wipeF, wipeP, e1]
  have ec2 : ∀ (x1 : Vl), (x1 = .ol [rD (runTo 5 a (-1)), rD (runTo 5 a 1)] ∨ x1 = .fz (.list [rD (runTo 5 a (-1)), rD (runTo 5 a 1)])) → ev G ((E.tup [E.bi Bi.len [E.var 4], E.var 4]).comp (Tg.t [Tg.n 4, Tg.n 5]) (It.li (E.var 1)) (some (E.var 5)) [4, 5] false) [some (.fz (dS a)), some x1, none, none, none, none] = some (.st (.ol (([runTo 5 a (-1), runTo 5 a 1].filter (·.2)).map fun r => lwD r.1)), [some (.fz (dS a)), some (.fz (.list [rD (runTo 5 a (-1)), rD (runTo 5 a 1)])), none, none, none, none]) := by
    intro x1 h1
    refine ev_comp_filter [runTo 5 a (-1), runTo 5 a 1] rD (fun r => lwD r.1) (·.2) (by rcases h1 with rfl | rfl <;> simp) (fun r hr => ?_) (by simp)
    obtain ⟨w, g⟩ := r
    have hl : w.length ≤ 5 := by
      simp only [List.mem_cons, List.not_mem_nil, or_false] at hr
      rcases hr with e | e
      · have := runTo_len 5 a (-1); rw [← e] at this; exact this
      · have := runTo_len 5 a 1; rw [← e] at this; exact this
    cases g <;> simp [turn0, wipeF, wipeP, rD, lwD, tI', z2]
  have ec3 : ev G ((E.bi Bi.len [E.var 4]).comp (Tg.t [Tg.n 4, Tg.n 5]) (It.li (E.var 1)) none [4, 5] false) [some (.fz (dS a)), some (.fz (.list [rD (runTo 5 a (-1)), rD (runTo 5 a 1)])), none, some (.ol []), none, none] = some (.st (.ol ([runTo 5 a (-1), runTo 5 a 1].map fun r => .int (r.1.length : Nat))), [some (.fz (dS a)), some (.fz (.list [rD (runTo 5 a (-1)), rD (runTo 5 a 1)])), none, some (.ol []), none, none]) := by
    refine ev_comp_map [runTo 5 a (-1), runTo 5 a 1] rD (fun r => .int (r.1.length : Nat)) (by simp) (fun r hr => ?_) (by simp)
    obtain ⟨w, g⟩ := r
    simp [turn0, wipeF, wipeP, rD, tI']
  simp only [List.map_cons, List.map_nil] at ec1 ec3
  have g1 := runTo_good 5 a (-1)
  have g2 := runTo_good 5 a 1
  unfold everD
  generalize runTo 5 a (-1) = r1 at *
  generalize runTo 5 a 1 = r2 at *
  obtain ⟨w1, b1⟩ := r1
  obtain ⟨w2, b2⟩ := r2
  have ec2' := ec2 _ (Or.inl rfl)
  have n0 : cmpD .ne (.list []) (.list []) = some false := cmp_ne_nil (xs := []) (shaped_ints [])
  have n1 : ∀ w, cmpD .ne (.list [lwD w]) (.list []) = some true := fun w => cmp_ne_nil (shaped_list (by simp [PyData.canLayAll0, canLay_lw]) (by have := depth_lw w; simp only [PyData.depthAll]; omega))
  have n2 : ∀ u v, cmpD .ne (.list [lwD u, lwD v]) (.list []) = some true := fun u v => cmp_ne_nil (shaped_list (by simp [PyData.canLayAll0, canLay_lw]) (by have := depth_lw u; have := depth_lw v; simp only [PyData.depthAll]; omega))
  have m1 := min_lw1
  have m2 := min_lw2
  have m3 := max_ints2
  have ix : ∀ w, idxD (lwD w) (.int 1) = some (tI' w) := fun w => rfl
  cases b1 <;> cases b2
  · simp only [List.filter_cons, List.filter_nil, List.map_cons, List.map_nil, Bool.false_eq_true, if_false, if_true] at *
    simp [runF, everByFn, ec1, ec2', ec3, n0, z0, z2, m3, ends]
    omega
  · obtain ⟨v2, rfl⟩ := g2 rfl
    simp only [List.filter_cons, List.filter_nil, List.map_cons, List.map_nil, Bool.false_eq_true, if_false, if_true] at *
    simp [runF, everByFn, ec1, ec2', ec3, n1, ix, z0, z2, m1, endl]
  · obtain ⟨v1, rfl⟩ := g1 rfl
    simp only [List.filter_cons, List.filter_nil, List.map_cons, List.map_nil, Bool.false_eq_true, if_false, if_true] at *
    simp [runF, everByFn, ec1, ec2', ec3, n1, ix, z0, z2, m1, endl]
  · obtain ⟨v1, rfl⟩ := g1 rfl
    obtain ⟨v2, rfl⟩ := g2 rfl
    simp only [List.filter_cons, List.filter_nil, List.map_cons, List.map_nil, Bool.false_eq_true, if_false, if_true] at *
    by_cases h : v2.length < v1.length
    · have m2' := m2 v1 v2
      rw [if_pos h] at m2'
      simp [runF, everByFn, ec1, ec2', ec3, n2, ix, z0, z2, m2', endl, h]
    · have m2' := m2 v1 v2
      rw [if_neg h] at m2'
      simp [runF, everByFn, ec1, ec2', ec3, n2, ix, z0, z2, m2', endl, h]
end Tr

set_option Elab.async false
set_option linter.all false
set_option maxRecDepth 100000
set_option maxHeartbeats 1000000
/-! k24: the law's layers. -/
namespace Tr
open PySem
abbrev Ly := List (Stt × List Int)
def inS (x : Stt × List Int) (acc : List (List Int) × Ly) (s : Int) : List (List Int) × Ly :=
  if dnS x.1 s then (acc.1, putS acc.2 (stB x.1 s) (x.2 ++ [s])) else (acc.1 ++ [x.2 ++ [s]], acc.2)
def elS (x : Stt × List Int) (acc : List (List Int) × Ly) : List (List Int) × Ly := (lets x.1.1 x.1.2).foldl (inS x) acc
def lnS (l : Ly) (acc : List (List Int) × Ly) : List (List Int) × Ly := l.foldl (fun acc x => elS x acc) acc
def minW : List (List Int) → List Int
  | [] => []
  | w :: ws => ws.foldl (fun a y => if y < a then y else a) w
def dueF : Nat → Ly → Nat → D
  | 0, _, _ => .none
  | k + 1, l, n => if (lnS l ([], [])).1 = [] then (if (lnS l ([], [])).2 = [] then ends n else dueF k (lnS l ([], [])).2 (n + 1)) else endl (minW (lnS l ([], [])).1)
def dueIn (ld lst : Nat) : List S := [S.iff (E.call ld [E.var 5, E.var 7]) [S.sidx 4 (E.call lst [E.var 5, E.var 7]) (E.bin Bop.add (E.var 6) (E.tup [E.var 7]))] [S.app 3 (E.bin Bop.add (E.var 6) (E.tup [E.var 7]))]]
def dueMid (ls ld lst : Nat) : List S := [S.for (Tg.n 7) (It.li (E.call ls [E.var 5])) (dueIn ld lst)]
def dueBody (ls ld lst : Nat) : List S := [S.par [3, 4] [E.lst [], E.dct []], S.for (Tg.t [Tg.n 5, Tg.n 6]) (It.im (E.var 1)) (dueMid ls ld lst), S.iff (E.cmp Cop.ne (E.var 3) (E.lst [])) [S.ret (E.tup [E.con (.str "endless"), E.bi Bi.min [E.var 3]])] [], S.iff (E.cmp Cop.eq (E.var 4) (E.dct [])) [S.ret (E.tup [E.con (.str "ends"), E.var 2])] [], S.par [1, 2] [E.var 4, E.bin Bop.add (E.var 2) (cI 1)]]
def lawDueFn (ls ld lst : Nat) : Fn := ⟨1, 8, [S.par [1, 2] [E.dct [E.var 0, E.tup []], cI 0], S.whl (E.con (.bool true)) (dueBody ls ld lst)]⟩
/-- the frame of a layer's walk -/
def fr24 (r0 r1 r2 : Option Vl) (acc : List (List Int) × Ly) (r : Fm) : Fm := r0 :: r1 :: r2 :: some (.ol (acc.1.map tI')) :: some (.od (encM tI' acc.2)) :: r
theorem due_in {G : Fs} {ld lst : Nat} (hd : PDown G ld) (hst : PStepBy G lst) (r0 r1 r2 o7 : Option Vl) {x : Stt × List Int} {acc : List (List Int) × Ly} {s : Int} (hx : IsS x.1) (hl : letS x.1 s = true) (hw : x.2.length ≤ 100) (h1 : acc.1.length ≤ 10000) (h2 : acc.2.length ≤ 10000) :
    turnF G [] (Tg.n 7) (dueIn ld lst) (.int s) (fr24 r0 r1 r2 acc [some (.fz (dS x.1)), some (.fz (tI' x.2)), o7]) = some (.nx, fr24 r0 r1 r2 (inS x acc s) [some (.fz (dS x.1)), some (.fz (tI' x.2)), some (.fz (.int s))]) := by
  obtain ⟨b, w⟩ := x
  obtain ⟨g, m⟩ := acc
  have e1 := hd b.1 b.2 s hx hl
  have e2 := hst b.1 b.2 s hx
  have z1 : okSz 1 = true := by decide
  have hw' : w.length ≤ 100 := hw
  have h1' : g.length ≤ 10000 := h1
  have h2' : m.length ≤ 10000 := h2
  have zw : okSz (w.length + 1) = true := okSz_ok (by omega)
  have k1 := kfit_dS tI' m (stB b s)
  have k2 := dput_dS tI' m (stB b s) (w ++ [s])
  have k3 := encM_len tI' m
  have g3 : g.length < 16777216 := by omega
  have m3 : m.length < 16777216 := by omega
  unfold inS
  cases d : dnS b s with
  | false =>
    have d' : dnB b.1 b.2 s = false := d
    rw [d'] at e1
    simp only [fr24, dS, sD, tI'] at *
    simp [turnF, dueIn, e1, z1, zw, g3, d, tI']
  | true =>
    have d' : dnB b.1 b.2 s = true := d
    rw [d'] at e1
    simp only [fr24, if_true] at *
    rw [← k2]
    generalize hk : encM tI' m = kvs at *
    have k3' : kvs.length < 16777216 := by omega
    simp only [dS, sD, tI', stB] at *
    simp [turnF, dueIn, e1, e2, z1, zw, k1, k3', d]
theorem inS_len (x : Stt × List Int) (acc : List (List Int) × Ly) (s : Int) : (inS x acc s).1.length ≤ acc.1.length + 1 ∧ (inS x acc s).2.length ≤ acc.2.length + 1 := by
  unfold inS
  have := putS_len acc.2 (stB x.1 s) (x.2 ++ [s])
  split
  · exact ⟨Nat.le_succ _, this⟩
  · exact ⟨by simp, Nat.le_succ _⟩
theorem due_steps {G : Fs} {ld lst : Nat} (hd : PDown G ld) (hst : PStepBy G lst) (r0 r1 r2 : Option Vl) {x : Stt × List Int} (hx : IsS x.1) (hw : x.2.length ≤ 100) : ∀ (l : List Int) (acc : List (List Int) × Ly) (o7 : Option Vl), (∀ s ∈ l, letS x.1 s = true) → acc.1.length + l.length ≤ 10000 → acc.2.length + l.length ≤ 10000 →
    ∃ b7, forN (turnF G [] (Tg.n 7) (dueIn ld lst)) (l.map .int) (fr24 r0 r1 r2 acc [some (.fz (dS x.1)), some (.fz (tI' x.2)), o7]) = some (.nx, fr24 r0 r1 r2 (l.foldl (inS x) acc) [some (.fz (dS x.1)), some (.fz (tI' x.2)), b7])
  | [], acc, o7, _, _, _ => ⟨o7, rfl⟩
  | s :: l, acc, o7, hl, h1, h2 => by
    simp only [List.length_cons] at h1 h2
    have e := due_in hd hst r0 r1 r2 o7 (acc := acc) hx (hl s List.mem_cons_self) hw (by omega) (by omega)
    have q := inS_len x acc s
    obtain ⟨b7, e2⟩ := due_steps hd hst r0 r1 r2 hx hw l (inS x acc s) (some (.fz (.int s))) (fun t ht => hl t (List.mem_cons_of_mem _ ht)) (by omega) (by omega)
    refine ⟨b7, ?_⟩
    rw [List.map_cons]
    unfold forN
    rw [e]
    exact e2
theorem lets_let {p : Int} {hs : List Int} {s : Int} (h : s ∈ lets p hs) : letB p hs s = true := (List.mem_filter.mp h).2
theorem lets_len (p : Int) (hs : List Int) : (lets p hs).length ≤ 2 := List.length_filter_le _ _
theorem foldl_inS_len (x : Stt × List Int) : ∀ (l : List Int) (acc : List (List Int) × Ly), (l.foldl (inS x) acc).1.length ≤ acc.1.length + l.length ∧ (l.foldl (inS x) acc).2.length ≤ acc.2.length + l.length
  | [], acc => ⟨Nat.le_refl _, Nat.le_refl _⟩
  | s :: l, acc => by
    have a := inS_len x acc s
    have b := foldl_inS_len x l (inS x acc s)
    simp only [List.foldl_cons, List.length_cons]
    omega
def xD (x : Stt × List Int) : D := .tuple [dS x.1, tI' x.2]
theorem due_elem {G : Fs} {ls ld lst : Nat} (hls : PLawSteps G ls) (hd : PDown G ld) (hst : PStepBy G lst) (r0 r1 r2 o5 o6 o7 : Option Vl) {x : Stt × List Int} {acc : List (List Int) × Ly} (hx : IsS x.1) (hw : x.2.length ≤ 100) (h1 : acc.1.length ≤ 5000) (h2 : acc.2.length ≤ 5000) :
    ∃ b5 b6 b7, turnF G [] (Tg.t [Tg.n 5, Tg.n 6]) (dueMid ls ld lst) (xD x) (fr24 r0 r1 r2 acc [o5, o6, o7]) = some (.nx, fr24 r0 r1 r2 (elS x acc) [b5, b6, b7]) := by
  have e1 := hls x.1.1 x.1.2 hx
  have q := lets_len x.1.1 x.1.2
  obtain ⟨b7, e2⟩ := due_steps hd hst r0 r1 r2 hx hw (lets x.1.1 x.1.2) acc o7 (fun s hs => lets_let hs) (by omega) (by omega)
  refine ⟨some (.fz (dS x.1)), some (.fz (tI' x.2)), b7, ?_⟩
  generalize hb : dueIn ld lst = body at *
  simp only [fr24, dueMid, hb, xD, elS] at *
  simp only [dS] at *
  simp [turnF, e1]
  rw [e2]
  rfl
theorem elS_len (x : Stt × List Int) (acc : List (List Int) × Ly) : (elS x acc).1.length ≤ acc.1.length + 2 ∧ (elS x acc).2.length ≤ acc.2.length + 2 := by
  have a := foldl_inS_len x (lets x.1.1 x.1.2) acc
  have q := lets_len x.1.1 x.1.2
  unfold elS
  omega
theorem due_line {G : Fs} {ls ld lst : Nat} (hls : PLawSteps G ls) (hd : PDown G ld) (hst : PStepBy G lst) (r0 r1 r2 : Option Vl) : ∀ (l : Ly) (acc : List (List Int) × Ly) (o5 o6 o7 : Option Vl), (∀ x ∈ l, IsS x.1 ∧ x.2.length ≤ 100) → acc.1.length + 2 * l.length ≤ 5000 → acc.2.length + 2 * l.length ≤ 5000 →
    ∃ b5 b6 b7, forN (turnF G [] (Tg.t [Tg.n 5, Tg.n 6]) (dueMid ls ld lst)) (l.map xD) (fr24 r0 r1 r2 acc [o5, o6, o7]) = some (.nx, fr24 r0 r1 r2 (lnS l acc) [b5, b6, b7])
  | [], acc, o5, o6, o7, _, _, _ => ⟨o5, o6, o7, rfl⟩
  | x :: l, acc, o5, o6, o7, hl, h1, h2 => by
    simp only [List.length_cons] at h1 h2
    have hx := hl x List.mem_cons_self
    obtain ⟨b5, b6, b7, e⟩ := due_elem hls hd hst r0 r1 r2 o5 o6 o7 (acc := acc) hx.1 hx.2 (by omega) (by omega)
    have q := elS_len x acc
    obtain ⟨c5, c6, c7, e2⟩ := due_line hls hd hst r0 r1 r2 l (elS x acc) b5 b6 b7 (fun t ht => hl t (List.mem_cons_of_mem _ ht)) (by omega) (by omega)
    refine ⟨c5, c6, c7, ?_⟩
    rw [List.map_cons]
    unfold forN
    rw [e]
    exact e2
theorem min_ws (w : List Int) (ws : List (List Int)) : biD .min [.list ((w :: ws).map tI')] = some (.fz (tI' (minW (w :: ws)))) := by
  have ok : okMin ((w :: ws).map tI') = true := by
    refine okMin_of (fun x hx y hy => ?_) (fun x hx => ?_) ?_
    · obtain ⟨u, -, rfl⟩ := List.mem_map.mp hx
      obtain ⟨v, -, rfl⟩ := List.mem_map.mp hy
      exact alike_w u v
    · obtain ⟨u, -, rfl⟩ := List.mem_map.mp hx
      intro c
      cases c
    · have : ∀ l : List (List Int), PyData.depthAll (l.map tI') ≤ 1 := by
        intro l
        induction l with
        | nil => exact Nat.zero_le _
        | cons a l ih =>
          have := depth_w a
          rw [List.map_cons]
          simp only [PyData.depthAll]
          omega
      have := this (w :: ws)
      omega
  have e : ∀ (ws : List (List Int)) (w : List Int), PySem.W.minD (tI' w) (ws.map tI') = tI' (ws.foldl (fun a y => if y < a then y else a) w) := by
    intro ws
    induction ws with
    | nil => intro w; rfl
    | cons v ws ih =>
      intro w
      rw [List.foldl_cons, ← ih]
      show (ws.map tI').foldl _ (if PySem.W.dataLt (tI' v) (tI' w) then tI' v else tI' w) = (ws.map tI').foldl _ (tI' (if v < w then v else w))
      rw [lt_w]
      congr 1
      by_cases h : v < w <;> simp [h]
  show (if okMin ((w :: ws).map tI') = true then some (Vl.fz (PySem.W.minD (tI' w) (ws.map tI'))) else none) = _
  rw [if_pos ok, e]
  rfl
/-- a layer of walks, all so long -/
def LyOk (l : Ly) (n : Nat) : Prop := l.length ≤ 2 ^ n ∧ ∀ x ∈ l, IsS x.1 ∧ x.2.length = n
end Tr

set_option Elab.async false
set_option linter.all false
set_option maxRecDepth 100000
set_option maxHeartbeats 1000000
/-! k24: the law's loop over layers. -/
namespace Tr
open PySem
theorem mem_putS {m : Ly} {k : Stt} {v : List Int} {y : Stt × List Int} (h : y ∈ putS m k v) : (y ∈ m ∨ (y.1 = k ∧ y.2 = v)) := by
  unfold putS at h
  split at h
  · obtain ⟨p, hp, rfl⟩ := List.mem_map.mp h
    by_cases c : p.1 = k
    · right
      rw [if_pos c]
      exact ⟨c, rfl⟩
    · left
      rw [if_neg c]
      exact hp
  · rcases List.mem_append.mp h with h | h
    · exact Or.inl h
    · rw [List.mem_singleton] at h
      rw [h]
      exact Or.inr ⟨rfl, rfl⟩
def LyP (l : Ly) (n : Nat) : Prop := ∀ x ∈ l, IsS x.1 ∧ x.2.length = n
theorem inS_ok {x : Stt × List Int} {acc : List (List Int) × Ly} {s : Int} {n : Nat} (hx : IsS x.1 ∧ x.2.length = n) (hl : letS x.1 s = true) (h : LyP acc.2 (n + 1)) : LyP (inS x acc s).2 (n + 1) := by
  unfold inS
  split
  · intro y hy
    rcases mem_putS hy with hy | ⟨h1, h2⟩
    · exact h y hy
    · rw [h1, h2]
      exact ⟨stB_is hx.1 hl, by rw [List.length_append, hx.2]; rfl⟩
  · exact h
theorem foldl_inS_ok {x : Stt × List Int} {n : Nat} (hx : IsS x.1 ∧ x.2.length = n) : ∀ (l : List Int) (acc : List (List Int) × Ly), (∀ s ∈ l, letS x.1 s = true) → LyP acc.2 (n + 1) → LyP (l.foldl (inS x) acc).2 (n + 1)
  | [], _, _, h => h
  | s :: l, acc, hl, h => foldl_inS_ok hx l _ (fun t ht => hl t (List.mem_cons_of_mem _ ht)) (inS_ok hx (hl s List.mem_cons_self) h)
theorem lnS_ok {n : Nat} : ∀ (l : Ly) (acc : List (List Int) × Ly), LyP l n → LyP acc.2 (n + 1) → LyP (lnS l acc).2 (n + 1)
  | [], _, _, h => h
  | x :: l, acc, hl, h => lnS_ok l _ (fun t ht => hl t (List.mem_cons_of_mem _ ht)) (foldl_inS_ok (hl x List.mem_cons_self) _ _ (fun s hs => lets_let hs) h)
theorem lnS_len : ∀ (l : Ly) (acc : List (List Int) × Ly), (lnS l acc).1.length ≤ acc.1.length + 2 * l.length ∧ (lnS l acc).2.length ≤ acc.2.length + 2 * l.length
  | [], _ => ⟨Nat.le_refl _, Nat.le_refl _⟩
  | x :: l, acc => by
    have a := elS_len x acc
    have b := lnS_len l (elS x acc)
    simp only [List.length_cons]
    show (lnS l (elS x acc)).1.length ≤ _ ∧ (lnS l (elS x acc)).2.length ≤ _
    omega
theorem shaped_ws (l : List (List Int)) : SeqAt.shaped (.list (l.map tI')) = true := by
  refine shaped_list ?_ ?_
  · induction l with
    | nil => rfl
    | cons a l ih =>
      rw [List.map_cons]
      simp only [PyData.canLayAll0, canLay_w, ih, Bool.and_self]
  · have : PyData.depthAll (l.map tI') ≤ 1 := by
      induction l with
      | nil => exact Nat.zero_le _
      | cons a l ih =>
        have := depth_w a
        rw [List.map_cons]
        simp only [PyData.depthAll]
        omega
    omega
theorem due_round {G : Fs} {ls ld lst : Nat} (hls : PLawSteps G ls) (hd : PDown G ld) (hst : PStepBy G lst) (r0 o3 o4 o5 o6 o7 : Option Vl) {x1 : Vl} {l : Ly} {n : Nat} (h1 : x1 = .od (encM tI' l) ∨ x1 = .fz (.dict (encM tI' l))) (hl : LyP l n) (hn : n ≤ 50) (hb : l.length ≤ 1000) :
    ((lnS l ([], [])).1 ≠ [] → ∃ rest, Tr.execs G [] (dueBody ls ld lst) [r0, some x1, some (.fz (.int (n : Nat))), o3, o4, o5, o6, o7] = some (.rt (.fz (endl (minW (lnS l ([], [])).1))), r0 :: rest))
    ∧ ((lnS l ([], [])).1 = [] → (lnS l ([], [])).2 = [] → ∃ rest, Tr.execs G [] (dueBody ls ld lst) [r0, some x1, some (.fz (.int (n : Nat))), o3, o4, o5, o6, o7] = some (.rt (.fz (ends n)), r0 :: rest))
    ∧ ((lnS l ([], [])).1 = [] → (lnS l ([], [])).2 ≠ [] → ∃ b3 b4 b5 b6 b7, Tr.execs G [] (dueBody ls ld lst) [r0, some x1, some (.fz (.int (n : Nat))), o3, o4, o5, o6, o7] = some (.nx, [r0, some (.fz (.dict (encM tI' (lnS l ([], [])).2))), some (.fz (.int ((n + 1 : Nat) : Int))), b3, b4, b5, b6, b7])) := by
  obtain ⟨b5, b6, b7, e⟩ := due_line hls hd hst r0 (some (.fz (.dict (encM tI' l)))) (some (.fz (.int (n : Nat)))) l ([], []) o5 o6 o7 (fun x hx => ⟨(hl x hx).1, by have := (hl x hx).2; omega⟩) (by simp; omega) (by simp; omega)
  have z0 : okSz 0 = true := by decide
  have z2 : okSz 2 = true := by decide
  have ek : ∀ kvs : List (D × D), cmpD .eq (.dict kvs) (.dict []) = some (decide (kvs.length = 0)) := fun _ => rfl
  have ne := cmp_ne_nil (shaped_ws (lnS l ([], [])).1)
  have el := encM_len tI' (lnS l ([], [])).2
  have mp : (encM tI' l).map (fun p => PyData.tuple [p.1, p.2]) = l.map xD := by
    unfold encM
    rw [List.map_map]
    rfl
  have im : its G (.im (.var 1)) [r0, some x1, some (.fz (.int (n : Nat))), some (.ol []), some (.od []), o5, o6, o7] = some (l.map xD, [r0, some (.fz (.dict (encM tI' l))), some (.fz (.int (n : Nat))), some (.ol []), some (.od []), o5, o6, o7]) := by
    rcases h1 with rfl | rfl <;> simp [mp, Vl.strip]
  generalize lnS l ([], []) = acc at *
  obtain ⟨g, m⟩ := acc
  generalize hmid : dueMid ls ld lst = mid at *
  have en : encM tI' ([] : Ly) = [] := rfl
  simp only [fr24, List.map_nil, en] at e
  have el' : (encM tI' m).length = m.length := el
  have ow : ∀ kvs, (Vl.od kvs).own = true := fun _ => rfl
  have fl : ∀ kvs, (Vl.od kvs).flat = some (.dict kvs) := fun _ => rfl
  refine ⟨fun hg => ?_, fun hg hm => ?_, fun hg hm => ?_⟩
  · have hg' : g ≠ [] := hg
    obtain ⟨w, ws, rfl⟩ := List.exists_cons_of_ne_nil hg'
    have mw := min_ws w ws
    generalize hws : (w :: ws).map tI' = L at *
    have hL : L.isEmpty = false := by rw [← hws]; rfl
    rw [hL] at ne
    refine ⟨[some (.fz (.dict (encM tI' l))), some (.fz (.int (n : Nat))), some (.ol L), some (.od (encM tI' m)), b5, b6, b7], ?_⟩
    simp [-its_im, dueBody, hmid, ow, fl, im, e, ne, mw, z0, z2, endl]
  · have hg' : g = [] := hg
    have hm' : m = [] := hm
    subst hg' hm'
    simp only [List.map_nil, en, List.isEmpty_nil] at e ne
    refine ⟨[some (.fz (.dict (encM tI' l))), some (.fz (.int (n : Nat))), some (.ol []), some (.od []), b5, b6, b7], ?_⟩
    simp [-its_im, dueBody, hmid, ow, fl, im, e, ne, z0, z2, ek, ends]
  · have hg' : g = [] := hg
    have hm' : m.length ≠ 0 := fun c => hm (List.length_eq_zero_iff.mp c)
    subst hg'
    generalize encM tI' m = kvs at *
    have hk : ¬ (kvs.length = 0) := by omega
    simp only [List.map_nil, List.isEmpty_nil] at e ne
    refine ⟨some (.ol []), some (.fz (.dict kvs)), b5, b6, b7, ?_⟩
    simp [-its_im, dueBody, hmid, ow, fl, im, e, ne, z0, z2, ek, hk]
theorem due_while {G : Fs} {ls ld lst : Nat} (hls : PLawSteps G ls) (hd : PDown G ld) (hst : PStepBy G lst) (r0 : Option Vl) : ∀ (k : Nat) (l : Ly) (n K : Nat) (x1 : Vl) (o3 o4 o5 o6 o7 : Option Vl), (x1 = .od (encM tI' l) ∨ x1 = .fz (.dict (encM tI' l))) → LyP l n → l.length ≤ 2 ^ n → n + k ≤ 9 → k ≤ K → dueF k l n ≠ .none →
    ∃ rest, whileN (fun fr => tru G (.con (.bool true)) fr) (fun fr => Tr.execs G [] (dueBody ls ld lst) fr) K [r0, some x1, some (.fz (.int (n : Nat))), o3, o4, o5, o6, o7] = some (.rt (.fz (dueF k l n)), r0 :: rest)
  | 0, _, _, _, _, _, _, _, _, _, _, _, _, _, _, h => absurd rfl h
  | k + 1, l, n, 0, _, _, _, _, _, _, _, _, _, _, h, _ => absurd h (by omega)
  | k + 1, l, n, K + 1, x1, o3, o4, o5, o6, o7, h1, hl, hb, hn, hK, hne => by
    have hb' : l.length ≤ 1000 := by
      have : 2 ^ n ≤ 2 ^ 9 := Nat.pow_le_pow_right (by decide) (by omega)
      have h9 : 2 ^ 9 = 512 := by decide
      omega
    obtain ⟨q1, q2, q3⟩ := due_round hls hd hst r0 o3 o4 o5 o6 o7 h1 hl (by omega) hb'
    have et : ∀ fr, tru G (.con (.bool true)) fr = some (true, fr) := fun fr => by simp
    have ok := lnS_ok l ([], []) hl (fun x hx => by cases hx)
    have len := (lnS_len l ([], [])).2
    rw [whileN_succ, et]
    simp only [Option.bind_some, if_true]
    unfold dueF at hne ⊢
    generalize lnS l ([], []) = acc at *
    obtain ⟨g, m⟩ := acc
    simp only at q1 q2 q3 hne ⊢
    by_cases hg : g = []
    · by_cases hm : m = []
      · obtain ⟨rest, e⟩ := q2 hg hm
        refine ⟨rest, ?_⟩
        rw [e, if_pos hg, if_pos hm]
        rfl
      · obtain ⟨b3, b4, b5, b6, b7, e⟩ := q3 hg hm
        rw [if_pos hg, if_neg hm] at hne
        have len' : m.length ≤ 2 ^ (n + 1) := by
          simp only [List.length_nil] at len
          rw [Nat.pow_succ]
          omega
        obtain ⟨rest, e2⟩ := due_while hls hd hst r0 k m (n + 1) K (.fz (.dict (encM tI' m))) b3 b4 b5 b6 b7 (Or.inr rfl) ok len' (by omega) (by omega) hne
        refine ⟨rest, ?_⟩
        rw [e, if_pos hg, if_neg hm]
        exact e2
    · obtain ⟨rest, e⟩ := q1 hg
      refine ⟨rest, ?_⟩
      rw [e, if_neg hg]
      rfl
def PLawDue (G : Fs) (f : Nat) : Prop := ∀ a, IsS a → dueF 5 [(a, [])] 0 ≠ .none → G f [.fz (dS a)] = some (.fz (dueF 5 [(a, [])] 0), [.fz (dS a)])
theorem lawDue_run {G : Fs} {ls ld lst : Nat} (hls : PLawSteps G ls) (hd : PDown G ld) (hst : PStepBy G lst) {a : Stt} (ha : IsS a) (hne : dueF 5 [(a, [])] 0 ≠ .none) : runF G (lawDueFn ls ld lst) [.fz (dS a)] = some (.fz (dueF 5 [(a, [])] 0), [.fz (dS a)]) := by
  obtain ⟨rest, e⟩ := due_while hls hd hst (some (.fz (dS a))) 5 [(a, [])] 0 fuel (.od (encM tI' [(a, [])])) none none none none none (Or.inl rfl) (fun x hx => by rw [List.mem_singleton] at hx; subst hx; exact ⟨ha, rfl⟩) (by simp) (by decide) (by decide) hne
  have z0 : okSz 0 = true := by decide
  have kf : kfit [] (dS a) = true := kfit_dS tI' [] a
  have ow : ∀ kvs, (Vl.od kvs).own = true := fun _ => rfl
  have st : (Vl.fz (dS a)).strip = dS a := rfl
  have st2 : (Vl.fz (.tuple [])).strip = .tuple [] := rfl
  have ee : encM tI' [(a, [])] = [(dS a, .tuple [])] := rfl
  have e0 : Tr.exec G [] (S.whl (E.con (.bool true)) (dueBody ls ld lst)) [some (.fz (dS a)), some (.od (encM tI' [(a, [])])), some (.fz (.int 0)), none, none, none, none, none] = _ := (exec_whl (G := G) ..).trans e
  generalize dueF 5 [(a, [])] 0 = r at *
  generalize hbd : dueBody ls ld lst = body at *
  rw [ee] at e0
  simp [runF, lawDueFn, hbd, z0, kf, ow, st, st2, e0]
end Tr

set_option Elab.async false
set_option linter.all false
set_option maxRecDepth 100000
set_option maxHeartbeats 1000000
/-! k24, the plain law: layers answer as both runs do. -/
namespace Tr
open PySem
/-- what one side gives at a layer: walks that are good, entries that go on -/
def gdS (s : Int) (x : Stt × List Int) : List (List Int) := if letS x.1 s && !dnS x.1 s then [x.2 ++ [s]] else []
def ltS (s : Int) (x : Stt × List Int) : Ly := if letS x.1 s && dnS x.1 s then [(stB x.1 s, x.2 ++ [s])] else []
theorem down_back {a : Stt} {s : Int} (ha : IsS a) (hs : IsStp s) (hl : letS a s = true) (hd : dnS a s = true) : letS (stB a s) (-s) = false := by
  obtain ⟨p, hs'⟩ := a
  obtain ⟨-, h2, h3⟩ := ha
  have b := let_bounds hl
  have d : at' hs' (p + s) < at' hs' p := of_decide_eq_true hd
  have h2' : 0 ≤ p := h2
  have h3' : p < hs'.length := h3
  have b1 : 0 ≤ p + s := b.1
  have b2 : p + s < hs'.length := b.2.1
  have e1 : at' (raiseH hs' p) p = at' hs' p + 1 := by
    unfold at' raiseH
    rw [List.getD_eq_getElem?_getD, List.getElem?_set_self (by omega)]
    rfl
  have e2 : at' (raiseH hs' p) (p + s) = at' hs' (p + s) := by
    unfold at' raiseH
    rw [List.getD_eq_getElem?_getD, List.getD_eq_getElem?_getD, List.getElem?_set_ne]
    rcases hs with rfl | rfl <;> omega
  show letB (p + s) (raiseH hs' p) (-s) = false
  unfold letB
  rw [show p + s + -s = p by omega, e1, e2]
  have : ¬ (at' hs' p + 1 - at' hs' (p + s) ≤ 1) := by omega
  simp [this]
theorem lets_eq (a : Stt) : lets a.1 a.2 = (if letS a (-1) then [-1] else []) ++ (if letS a 1 then [1] else []) := by
  unfold lets letS
  cases h1 : letB a.1 a.2 (-1) <;> cases h2 : letB a.1 a.2 1 <;> simp [h1, h2]
/-- an entry's turn, where its keys are new -/
theorem elS_eq {x : Stt × List Int} {g : List (List Int)} {m : Ly} (hn : ∀ y ∈ m, y.1.1 < x.1.1 - 1 ∨ (y.1.1 < x.1.1 + 1 ∧ letS x.1 (-1) = false)) :
    elS x (g, m) = (g ++ gdS (-1) x ++ gdS 1 x, m ++ ltS (-1) x ++ ltS 1 x) := by
  have n1 : letS x.1 (-1) = true → putS m (stB x.1 (-1)) (x.2 ++ [-1]) = m ++ [(stB x.1 (-1), x.2 ++ [-1])] := by
    intro hl
    refine putS_new fun y hy c => ?_
    have e : y.1.1 = x.1.1 + -1 := by rw [c]; rfl
    rcases hn y hy with h | ⟨-, h⟩
    · omega
    · rw [hl] at h; cases h
  have n2 : putS m (stB x.1 1) (x.2 ++ [1]) = m ++ [(stB x.1 1, x.2 ++ [1])] := by
    refine putS_new fun y hy c => ?_
    have e : y.1.1 = x.1.1 + 1 := by rw [c]; rfl
    rcases hn y hy with h | ⟨h, -⟩ <;> omega
  have n3 : letS x.1 (-1) = true → putS (m ++ [(stB x.1 (-1), x.2 ++ [-1])]) (stB x.1 1) (x.2 ++ [1]) = m ++ [(stB x.1 (-1), x.2 ++ [-1])] ++ [(stB x.1 1, x.2 ++ [1])] := by
    intro hl
    refine putS_new fun y hy c => ?_
    have e : y.1.1 = x.1.1 + 1 := by rw [c]; rfl
    rcases List.mem_append.mp hy with hy | hy
    · rcases hn y hy with h | ⟨h, -⟩ <;> omega
    · rw [List.mem_singleton] at hy
      rw [hy] at e
      have : (stB x.1 (-1)).1 = x.1.1 + -1 := rfl
      simp only [this] at e
      omega
  unfold elS
  rw [lets_eq]
  unfold gdS ltS
  cases h1 : letS x.1 (-1) <;> cases h2 : letS x.1 1 <;> cases d1 : dnS x.1 (-1) <;> cases d2 : dnS x.1 1 <;> simp [inS, d1, d2, n1, n2, n3, h1]
end Tr

set_option Elab.async false
set_option linter.all false
set_option maxRecDepth 100000
set_option maxHeartbeats 1000000
/-! k24, the plain law. -/
namespace Tr
open PySem
def everC (r1 r2 : List Int × Bool) : D :=
  if r1.2 then (if r2.2 && decide (r2.1.length < r1.1.length) then endl r2.1 else endl r1.1) else if r2.2 then endl r2.1 else ends (max r1.1.length r2.1.length)
def ent (al : Bool) (x : Stt × List Int) : Ly := if al then [x] else []
def resS (s : Int) (k : Nat) (al : Bool) (x : Stt × List Int) : List Int × Bool := if al then (x.2 ++ (runTo k x.1 s).1, (runTo k x.1 s).2) else (x.2, false)
def glS (s : Int) (al : Bool) (x : Stt × List Int) : List (List Int) := if al then gdS s x else []
def tlS (s : Int) (al : Bool) (x : Stt × List Int) : Ly := if al then ltS s x else []
def dueG (k : Nat) (g : List (List Int)) (t : Ly) (n : Nat) : D := if g = [] then (if t = [] then ends n else dueF k t (n + 1)) else endl (minW g)
theorem dueF_G (k : Nat) (l : Ly) (n : Nat) : dueF (k + 1) l n = dueG k (lnS l ([], [])).1 (lnS l ([], [])).2 n := rfl
def okSide (s : Int) (k n : Nat) (al : Bool) (x : Stt × List Int) : Prop := if al then IsS x.1 ∧ x.2 = List.replicate n s ∧ room x.1 s ≤ k else x.2.length ≤ n
/-- what a side may do in a layer -/
theorem side_cases {s : Int} (hs : IsStp s) {k n : Nat} {al : Bool} {x : Stt × List Int} (h : okSide s k n al x) :
    (glS s al x = [] ∧ tlS s al x = [] ∧ ∃ w', resS s (k + 1) al x = (w', false) ∧ w'.length ≤ n ∧ (al = true → w'.length = n))
    ∨ (al = true ∧ glS s al x = [x.2 ++ [s]] ∧ tlS s al x = [] ∧ resS s (k + 1) al x = (x.2 ++ [s], true) ∧ x.2 = List.replicate n s)
    ∨ (∃ k', k = k' + 1 ∧ al = true ∧ glS s al x = [] ∧ tlS s al x = [(stB x.1 s, x.2 ++ [s])] ∧ resS s (k + 1) al x = resS s (k' + 1) true (stB x.1 s, x.2 ++ [s]) ∧ okSide s k' (n + 1) true (stB x.1 s, x.2 ++ [s]) ∧ letS (stB x.1 s) (-s) = false
        ∧ ((resS s (k + 1) al x).2 = true → n + 2 ≤ (resS s (k + 1) al x).1.length)) := by
  cases al with
  | false => exact Or.inl ⟨rfl, rfl, x.2, rfl, h, fun c => by cases c⟩
  | true =>
    obtain ⟨h1, h2, h3⟩ : IsS x.1 ∧ x.2 = List.replicate n s ∧ room x.1 s ≤ k := h
    have hw : x.2.length = n := by rw [h2, List.length_replicate]
    cases hl : letS x.1 s with
    | false =>
      refine Or.inl ⟨by simp [glS, gdS, hl], by simp [tlS, ltS, hl], x.2, ?_, by omega, fun _ => hw⟩
      simp [resS, runTo, hl]
    | true =>
      cases hd : dnS x.1 s with
      | false =>
        refine Or.inr (Or.inl ⟨rfl, by simp [glS, gdS, hl, hd], by simp [tlS, ltS, hl, hd], ?_, h2⟩)
        simp [resS, runTo, hl, hd]
      | true =>
        have hr := room_step h1 hs hl
        obtain ⟨k', rfl⟩ : ∃ k', k = k' + 1 := ⟨k - 1, by omega⟩
        have er : resS s (k' + 1 + 1) true x = resS s (k' + 1) true (stB x.1 s, x.2 ++ [s]) := by
          simp only [resS, if_true]
          conv => lhs; unfold runTo
          simp [hl, hd]
        refine Or.inr (Or.inr ⟨k', rfl, rfl, by simp [glS, gdS, hl, hd], by simp [tlS, ltS, hl, hd], er, ?_, down_back h1 hs hl hd, fun hg => ?_⟩)
        · refine ⟨stB_is h1 hl, ?_, by show room (stB x.1 s) s ≤ k'; omega⟩
          show x.2 ++ [s] = List.replicate (n + 1) s
          rw [h2, List.replicate_succ']
        · rw [er] at hg ⊢
          obtain ⟨v, ev⟩ := runTo_good (k' + 1) (stB x.1 s) s hg
          show n + 2 ≤ ((x.2 ++ [s]) ++ (runTo (k' + 1) (stB x.1 s) s).1).length
          rw [ev]
          simp only [List.length_append, List.length_cons, List.length_nil]
          omega
theorem ent_L {x : Stt × List Int} (h : letS x.1 1 = false) : elS x ([], []) = (gdS (-1) x, ltS (-1) x) := by
  rw [elS_eq (fun y hy => by cases hy)]
  simp [gdS, ltS, h]
theorem ent_R {x : Stt × List Int} {g : List (List Int)} {m : Ly} (h : letS x.1 (-1) = false) (hn : ∀ y ∈ m, y.1.1 < x.1.1 + 1) : elS x (g, m) = (g ++ gdS 1 x, m ++ ltS 1 x) := by
  rw [elS_eq (fun y hy => Or.inr ⟨hn y hy, h⟩)]
  simp [gdS, ltS, h]
/-- a layer of one-way entries -/
theorem round_eq {aL aR : Bool} {xL xR : Stt × List Int} (hL : aL = true → letS xL.1 1 = false) (hR : aR = true → letS xR.1 (-1) = false) (ho : aL = true → aR = true → xL.1.1 ≤ xR.1.1) :
    lnS (ent aL xL ++ ent aR xR) ([], []) = (glS (-1) aL xL ++ glS 1 aR xR, tlS (-1) aL xL ++ tlS 1 aR xR) := by
  cases aL <;> cases aR <;> simp only [ent, glS, tlS, if_true, Bool.false_eq_true, if_false, List.append_nil, List.nil_append, List.cons_append]
  · rfl
  · show elS xR ([], []) = _
    rw [ent_R (hR rfl) (fun y hy => by cases hy)]
    simp
  · show elS xL ([], []) = _
    exact ent_L (hL rfl)
  · show elS xR (elS xL ([], [])) = _
    rw [ent_L (hL rfl), ent_R (hR rfl)]
    intro y hy
    have := ho rfl rfl
    unfold ltS at hy
    split at hy
    · rw [List.mem_singleton] at hy
      rw [hy]
      have e : (stB xL.1 (-1)).1 = xL.1.1 + -1 := rfl
      show (stB xL.1 (-1)).1 < _
      omega
    · cases hy
theorem minW_lr (n : Nat) : minW [List.replicate n (-1) ++ [-1], List.replicate n 1 ++ [1]] = List.replicate n (-1) ++ [-1] := by
  have e : ∀ m : Nat, ∀ s : Int, List.replicate m s ++ [s] = s :: List.replicate m s := fun m s => by
    rw [← List.replicate_succ', List.replicate_succ]
  rw [e, e]
  have h : ¬ ((1 : Int) :: List.replicate n (1 : Int) < (-1) :: List.replicate n (-1 : Int)) := of_decide_eq_false (lt_right (List.replicate n (-1)) (List.replicate n 1))
  simp only [minW, List.foldl_cons, List.foldl_nil, if_neg h]
theorem minW_one (w : List Int) : minW [w] = w := rfl
theorem everC_len {w1 w2 : List Int} {g2 : Bool} (h : g2 = true → w1.length ≤ w2.length) : everC (w1, true) (w2, g2) = endl w1 := by
  unfold everC
  simp only [if_true]
  rw [if_neg]
  intro c
  rw [Bool.and_eq_true, decide_eq_true_eq] at c
  have := h c.1
  omega
theorem everC_len2 {w1 w2 : List Int} {g1 : Bool} (h : g1 = true → w2.length < w1.length) : everC (w1, g1) (w2, true) = endl w2 := by
  unfold everC
  cases g1 with
  | false => rfl
  | true =>
    simp only [if_true]
    rw [if_pos]
    rw [Bool.and_eq_true, decide_eq_true_eq]
    exact ⟨rfl, h rfl⟩
theorem core : ∀ (k : Nat) (aL aR : Bool) (xL xR : Stt × List Int) (n : Nat), okSide (-1) k n aL xL → okSide 1 k n aR xR → (aL = true ∨ aR = true) → (aL = true → aR = true → xL.1.1 ≤ xR.1.1) →
    dueG k (glS (-1) aL xL ++ glS 1 aR xR) (tlS (-1) aL xL ++ tlS 1 aR xR) n = everC (resS (-1) (k + 1) aL xL) (resS 1 (k + 1) aR xR) := by
  intro k
  induction k with
  | zero =>
    intro aL aR xL xR n hL hR hal ho
    rcases side_cases (Or.inl rfl) hL with ⟨g1, t1, w1, r1, l1, f1⟩ | ⟨a1, g1, t1, r1, w1⟩ | ⟨k', hk, -⟩
    · rcases side_cases (Or.inr rfl) hR with ⟨g2, t2, w2, r2, l2, f2⟩ | ⟨a2, g2, t2, r2, w2⟩ | ⟨k', hk, -⟩
      · rw [g1, g2, t1, t2, r1, r2]
        show ends n = ends (max w1.length w2.length)
        rcases hal with h | h
        · rw [show max w1.length w2.length = n by have := f1 h; omega]
        · rw [show max w1.length w2.length = n by have := f2 h; omega]
      · rw [g1, g2, t1, t2, r1, r2]
        rfl
      · cases hk
    · rcases side_cases (Or.inr rfl) hR with ⟨g2, t2, w2, r2, l2, f2⟩ | ⟨a2, g2, t2, r2, w2⟩ | ⟨k', hk, -⟩
      · rw [g1, g2, t1, t2, r1, r2]
        rfl
      · rw [g1, g2, t1, t2, r1, r2, everC_len (fun _ => by rw [w1, w2]; simp), w1, w2]
        show endl (minW [_, _]) = _
        rw [minW_lr]
      · cases hk
    · cases hk
  | succ k ih =>
    intro aL aR xL xR n hL hR hal ho
    rcases side_cases (Or.inl rfl) hL with ⟨g1, t1, w1, r1, l1, f1⟩ | ⟨a1, g1, t1, r1, w1⟩ | ⟨k1, hk1, a1, g1, t1, r1, o1, b1, z1⟩
    · rcases side_cases (Or.inr rfl) hR with ⟨g2, t2, w2, r2, l2, f2⟩ | ⟨a2, g2, t2, r2, w2⟩ | ⟨k2, hk2, a2, g2, t2, r2, o2, b2, z2⟩
      · rw [g1, g2, t1, t2, r1, r2]
        show ends n = ends (max w1.length w2.length)
        rcases hal with h | h
        · rw [show max w1.length w2.length = n by have := f1 h; omega]
        · rw [show max w1.length w2.length = n by have := f2 h; omega]
      · rw [g1, g2, t1, t2, r1, r2]
        rfl
      · obtain rfl : k2 = k := by omega
        rw [g1, g2, t1, t2, r1, r2]
        show dueF (k2 + 1) (ent false (xL.1, w1) ++ ent true _) (n + 1) = _
        rw [dueF_G, round_eq (fun c => by cases c) (fun _ => b2) (fun c => by cases c)]
        exact ih false true (xL.1, w1) _ (n + 1) (by show w1.length ≤ n + 1; omega) o2 (Or.inr rfl) (fun c => by cases c)
    · rcases side_cases (Or.inr rfl) hR with ⟨g2, t2, w2, r2, l2, f2⟩ | ⟨a2, g2, t2, r2, w2⟩ | ⟨k2, hk2, a2, g2, t2, r2, o2, b2, z2⟩
      · rw [g1, g2, t1, t2, r1, r2]
        rfl
      · rw [g1, g2, t1, t2, r1, r2, everC_len (fun _ => by rw [w1, w2]; simp), w1, w2]
        show endl (minW [_, _]) = _
        rw [minW_lr]
      · rw [g1, g2, t1, t2, r1]
        generalize resS 1 (k + 1 + 1) aR xR = q at *
        obtain ⟨q1, q2⟩ := q
        rw [everC_len (fun c => by have := z2 c; rw [w1]; simp only [List.length_append, List.length_replicate, List.length_cons, List.length_nil]; simp only at this; omega)]
        rfl
    · rcases side_cases (Or.inr rfl) hR with ⟨g2, t2, w2, r2, l2, f2⟩ | ⟨a2, g2, t2, r2, w2⟩ | ⟨k2, hk2, a2, g2, t2, r2, o2, b2, z2⟩
      · obtain rfl : k1 = k := by omega
        rw [g1, g2, t1, t2, r1, r2]
        show dueF (k1 + 1) (ent true _ ++ ent false (xR.1, w2)) (n + 1) = _
        rw [dueF_G, round_eq (fun _ => b1) (fun c => by cases c) (fun _ c => by cases c)]
        exact ih true false _ (xR.1, w2) (n + 1) o1 (by show w2.length ≤ n + 1; omega) (Or.inl rfl) (fun _ c => by cases c)
      · rw [g1, g2, t1, t2, r2]
        generalize resS (-1) (k + 1 + 1) aL xL = q at *
        obtain ⟨q1, q2⟩ := q
        rw [everC_len2 (fun c => by have := z1 c; rw [w2]; simp only [List.length_append, List.length_replicate, List.length_cons, List.length_nil]; simp only at this; omega)]
        rfl
      · obtain rfl : k1 = k := by omega
        obtain rfl : k2 = k1 := by omega
        have hp := ho a1 a2
        have ho' : (stB xL.1 (-1)).1 ≤ (stB xR.1 1).1 := by
          show xL.1.1 + -1 ≤ xR.1.1 + 1
          omega
        rw [g1, g2, t1, t2, r1, r2]
        show dueF (k2 + 1) (ent true _ ++ ent true _) (n + 1) = _
        rw [dueF_G, round_eq (fun _ => b1) (fun _ => b2) (fun _ _ => ho')]
        exact ih true true _ _ (n + 1) o1 o2 (Or.inl rfl) (fun _ _ => ho')
theorem due_ever {a : Stt} (ha : IsS a) : dueF 5 [(a, [])] 0 = everD a := by
  rw [dueF_G]
  have e : lnS [(a, [])] ([], []) = (glS (-1) true (a, []) ++ glS 1 true (a, []), tlS (-1) true (a, []) ++ tlS 1 true (a, [])) := by
    show elS (a, []) ([], []) = _
    rw [elS_eq (fun y hy => by cases hy)]
    rfl
  rw [e]
  exact core 4 true true (a, []) (a, []) 0 ⟨ha, rfl, room_le ha⟩ ⟨ha, rfl, room_le ha⟩ (Or.inl rfl) (fun _ _ => Int.le_refl _)
end Tr

set_option Elab.async false
set_option linter.all false
set_option maxRecDepth 100000
set_option maxHeartbeats 200000
/-! k24: the law. -/
namespace Tr
open PySem
def everFn (ns eb : Nat) : Fn := ⟨1, 1, [S.exp (E.call ns [E.var 0]), S.ret (E.call eb [E.var 0])]⟩
theorem ever_run {G : Fs} {ns eb : Nat} (hn : PNeed G ns) (he : PEver G eb) {a : Stt} (ha : IsS a) : runF G (everFn ns eb) [.fz (dS a)] = some (.fz (everD a), [.fz (dS a)]) := by
  have e1 := hn a.1 a.2 ha
  have e2 := he a ha
  simp only [dS] at *
  simp [runF, everFn, e1, e2]
theorem runTo_mem : ∀ (n : Nat) (a : Stt) (s : Int), ∀ x ∈ (runTo n a s).1, x = s
  | 0, _, _, x, h => by cases h
  | n + 1, a, s, x, h => by
    unfold runTo at h
    split at h
    · split at h
      · rcases List.mem_cons.mp h with h | h
        · exact h
        · exact runTo_mem n _ s x h
      · rw [List.mem_singleton] at h; exact h
    · cases h
theorem tame_words : tame (.str "endless") = true ∧ tame (.str "ends") = true := by decide +kernel
theorem cnt_words : cnt (.str "endless") ≤ 1000 ∧ cnt (.str "ends") ≤ 1000 := by decide +kernel
theorem endl_tame {w : List Int} (h : ∀ x ∈ w, x = -1 ∨ x = 1) (hl : w.length ≤ 5) : tame (endl w) = true ∧ cnt (endl w) ≤ 5000 ∧ (endl w).depth ≤ 3 := by
  have t1 := tameL_ints (ns := w) fun n hn => by
    rcases h n hn with rfl | rfl <;> decide
  refine ⟨?_, ?_, ?_⟩
  · simp only [endl, tI', tame, tameL, t1]
    have := tame_words.1
    unfold tame at this
    simp [this]
  · have := cnt_words.1
    simp only [endl, tI', cnt, cntL, cntL_ints] at *
    omega
  · simp only [endl, tI', PyData.depth, PyData.depthAll, depthL_ints]
    decide
theorem ends_tame {n : Nat} (h : n ≤ 1000) : tame (ends n) = true ∧ cnt (ends n) ≤ 5000 ∧ (ends n).depth ≤ 3 := by
  refine ⟨?_, ?_, ?_⟩
  · have := tame_words.2
    unfold tame at this
    simp only [ends, tame, tameL]
    simp [this]
    omega
  · have := cnt_words.2
    simp only [ends, cnt, cntL] at *
    omega
  · simp only [ends, PyData.depth, PyData.depthAll]
    decide
theorem ever_tame (a : Stt) : tame (everD a) = true ∧ cnt (everD a) ≤ 5000 ∧ (everD a).depth ≤ 3 := by
  have m1 := runTo_mem 5 a (-1)
  have m2 := runTo_mem 5 a 1
  have l1 := runTo_len 5 a (-1)
  have l2 := runTo_len 5 a 1
  unfold everD
  generalize runTo 5 a (-1) = r1 at *
  generalize runTo 5 a 1 = r2 at *
  split
  · split
    · exact endl_tame (fun x hx => Or.inr (m2 x hx)) l2
    · exact endl_tame (fun x hx => Or.inl (m1 x hx)) l1
  · split
    · exact endl_tame (fun x hx => Or.inr (m2 x hx)) l2
    · exact ends_tame (by omega)
theorem okShow_dd2 {d : D} (a : tame d = true) (b : cnt d ≤ 1000000) (c : d.depth ≤ 20) : okShow (.list [d, d]) = true := by
  refine okShow_of ?_ ?_ ?_
  · simp only [tame, tameL, a]; rfl
  · simp only [cnt, cntL]; omega
  · simp only [PyData.depth, PyData.depthAll]; omega
theorem everD_ne (a : Stt) : everD a ≠ .none := by
  unfold everD endl ends
  split
  · split <;> exact fun c => by cases c
  · split <;> exact fun c => by cases c
theorem lenc {n : Nat} {rest : Fm} (h : rest.length = n + 1) : ∃ a r, rest = a :: r ∧ r.length = n := by
  cases rest with
  | nil => cases h
  | cons a r => exact ⟨a, r, rfl, Nat.succ.inj h⟩
def law24In (lw st du sm ev' : Nat) : List S := [S.asg (Tg.n 4) ((E.call lw [E.var 2, E.call st [E.var 2, cI 5, (E.lst [cI 5, cI 3, cI 1]).idx (E.bin Bop.mod (E.var 3) (cI 3))], (E.lst [cI 0, cI 4, cI 8]).idx (E.bin Bop.mod (E.var 3) (cI 3))]).idx (cI 1)), S.par [5, 6] [E.bi Bi.repr [E.var 4], E.call du [E.var 4]], S.iff ((E.call sm [E.lst [E.call ev' [E.var 4], E.call ev' [E.var 4]], E.lst [E.var 6, E.var 6]]).not.or (E.cmp Cop.ne (E.bi Bi.repr [E.var 4]) (E.var 5))) [S.ret (E.con (.bool false))] []]
def law24Fn (ce pe lw st du sm ev' : Nat) : Fn := ⟨1, 7, [S.for (Tg.n 1) (It.li (E.bin Bop.add (E.lst [E.call ce [E.var 0, cI 0]]) ((E.var 0).slc (some (cI 1)) (some (cI 4)) false))) [S.asg (Tg.n 2) (E.call pe [E.var 1]), S.for (Tg.n 3) (It.rg1 (cI 6)) (law24In lw st du sm ev')], S.ret (E.con (.bool true))]⟩
theorem law24_in {G : Fs} {lw st du sm ev' : Nat} (hst : PStandDraw G st) (hw : PWalk G lw) (hdu : PLawDue G du) (hsm : PSameL G sm) (hev : PEver G ev') (ns : List Int) (j : Int) (y : Vl) (o1 o3 : Option Vl) (rest : Fm) (hy : IsPen y) (j0 : 0 ≤ j) (j1 : j < 6) (hrest : rest.length = 3) :
    ∃ (y' : Vl) (o3' : Option Vl) (rest' : Fm), turnF G [] (Tg.n 3) (law24In lw st du sm ev') (.int j) (some (.scr ns) :: o1 :: some y :: o3 :: rest) = some (.nx, some (.scr ns) :: o1 :: some y' :: o3' :: rest') ∧ IsPen y' ∧ rest'.length = 3 := by
  obtain ⟨o4, r4, rfl, h4⟩ := lenc (n := 2) hrest
  obtain ⟨o5, r5, rfl, h5⟩ := lenc (n := 1) h4
  obtain ⟨o6, r6, rfl, h6⟩ := lenc (n := 0) h5
  obtain rfl := List.length_eq_zero_iff.mp h6
  obtain ⟨hi, eh, hi0, hi1⟩ : ∃ hi : Int, idxD (.list [.int 5, .int 3, .int 1]) (.int (j % 3)) = some (.int hi) ∧ 0 ≤ hi ∧ hi ≤ 5 := by
    have : j = 0 ∨ j = 1 ∨ j = 2 ∨ j = 3 ∨ j = 4 ∨ j = 5 := by omega
    rcases this with rfl | rfl | rfl | rfl | rfl | rfl
    · exact ⟨5, rfl, by decide, by decide⟩
    · exact ⟨3, rfl, by decide, by decide⟩
    · exact ⟨1, rfl, by decide, by decide⟩
    · exact ⟨5, rfl, by decide, by decide⟩
    · exact ⟨3, rfl, by decide, by decide⟩
    · exact ⟨1, rfl, by decide, by decide⟩
  obtain ⟨mo, em, mo0, mo1⟩ : ∃ mo : Int, idxD (.list [.int 0, .int 4, .int 8]) (.int (j % 3)) = some (.int mo) ∧ 0 ≤ mo ∧ mo ≤ 8 := by
    have : j = 0 ∨ j = 1 ∨ j = 2 ∨ j = 3 ∨ j = 4 ∨ j = 5 := by omega
    rcases this with rfl | rfl | rfl | rfl | rfl | rfl
    · exact ⟨0, rfl, by decide, by decide⟩
    · exact ⟨4, rfl, by decide, by decide⟩
    · exact ⟨8, rfl, by decide, by decide⟩
    · exact ⟨0, rfl, by decide, by decide⟩
    · exact ⟨4, rfl, by decide, by decide⟩
    · exact ⟨8, rfl, by decide, by decide⟩
  obtain ⟨p, hs, y1, e1, h, hh, -, hy1⟩ := hst y 5 hi hy (by decide) (by decide) hi0 (by omega)
  obtain ⟨ws, y2, e2, hws, hwl, hy2⟩ := hw y1 p hs mo hy1 h mo0 (by omega)
  have ha : IsS (wEnd p hs ws) := walk_end h hws
  have hH : Hi (wEnd p hs ws).2 (hi + ws.length) := walk_hi h hws hh
  generalize wEnd p hs ws = a at *
  have hH2 : Hi a.2 1000000 := fun x hx => by have := hH x hx; omega
  obtain ⟨s1, s2, s3⟩ := tame_st ha hH2
  have w1 : okShow (dS a) = true := okShow_of s1 (by show cnt (sD a.1 a.2) ≤ _; omega) (by show (sD a.1 a.2).depth ≤ _; omega)
  have hne : dueF 5 [(a, [])] 0 ≠ .none := by rw [due_ever ha]; exact everD_ne a
  have e3 := hdu a ha hne
  rw [due_ever ha] at e3
  have e4 := hev a ha
  obtain ⟨t1, t2, t3⟩ := ever_tame a
  have e5 := hsm [everD a, everD a] (okShow_dd2 t1 (by omega) (by omega))
  generalize everD a = d at *
  obtain ⟨a0, b0, c0, rfl, -, -⟩ := id hy
  obtain ⟨a1, b1, c1, rfl, -, -⟩ := id hy1
  obtain ⟨a2, b2, c2, rfl, -, -⟩ := id hy2
  have z2 : okSz 2 = true := by decide
  have z3 : okSz 3 = true := by decide
  have e9 : ∀ x : Str, cmpD .ne (.str x) (.str x) = some false := by
    intro x
    show some (!decide (x = x)) = _
    simp
  refine ⟨.ol [.int a2, .int b2, .int c2], some (.fz (.int j)), [some (.fz (dS a)), some (.fz (.str (dS a).shown)), some (.fz d)], ?_, hy2, rfl⟩
  simp only [dS, sD, tI'] at *
  simp [turnF, law24In, e1, e2, e3, e4, e5, eh, em, w1, z2, z3, e9]
theorem law24_run {G : Fs} {ce pe lw st du sm ev' : Nat} (hce : PCell G ce) (hpe : PPen G pe) (hst : PStandDraw G st) (hw : PWalk G lw) (hdu : PLawDue G du) (hsm : PSameL G sm) (hev : PEver G ev') (ns : List Int) : ∃ ps, runF G (law24Fn ce pe lw st du sm ev') [.scr ns] = some (.fz (.bool true), ps) :=
  outer2_run hce hpe ns (N := 4) (M := 6) (m := 3) (by decide) (by decide) fun j y o1 o3 rest hy j0 j1 hr => law24_in hst hw hdu hsm hev ns j y o1 o3 rest hy j0 j1 hr
end Tr

set_option Elab.async false
set_option linter.all false
set_option maxRecDepth 100000
set_option maxHeartbeats 1000000
/-! k25: what shows it. -/
namespace Tr
open PySem
/-- a walk behind which one goes on -/
def goodW (a : Stt) (ws : List Int) : Bool := match ws.getLast? with
  | none => false
  | some s => decide (bar a.1 a.2 ws = none) && !dnS (wEnd a.1 a.2 ws.dropLast) s
def numD : D → D → Bool
  | .tuple [.str z, .int n], .int i => decide (z = "ends") && decide (i = n)
  | _, _ => false
def stpsOf : List D → List Int
  | [] => []
  | .int s :: r => s :: stpsOf r
  | _ :: r => stpsOf r
theorem stpsOf_map : ∀ ws : List Int, stpsOf (ws.map .int) = ws
  | [] => rfl
  | s :: ws => by
    show s :: stpsOf (ws.map .int) = _
    rw [stpsOf_map ws]
def tupG (a : Stt) : D → Bool
  | .tuple xs => goodW a (stpsOf xs)
  | _ => false
def showsB (a : Stt) : D → Bool
  | .tuple [.str z, x] => if z = "endless" then wlkD x && tupG a x else decide (z = "ends") && numD (everD a) x
  | _ => false
theorem ever_cases (a : Stt) : (∃ w, everD a = endl w) ∨ ∃ n, everD a = ends n := by
  unfold everD
  split
  · split
    · exact .inl ⟨_, rfl⟩
    · exact .inl ⟨_, rfl⟩
  · split
    · exact .inl ⟨_, rfl⟩
    · exact .inr ⟨_, rfl⟩
theorem last_cases (ws : List Int) : ws = [] ∨ ∃ u s, ws = u ++ [s] := by
  rcases List.eq_nil_or_concat ws with h | ⟨u, s, h⟩
  · exact .inl h
  · exact .inr ⟨u, s, by rw [h, List.concat_eq_append]⟩
theorem good_app {a : Stt} (ha : IsS a) {u : List Int} {s : Int} (h : Stps (u ++ [s])) : goodW a (u ++ [s]) = (decide (bar a.1 a.2 u = none) && (letS (wEnd a.1 a.2 u) s && !dnS (wEnd a.1 a.2 u) s)) := by
  have hu : Stps u := fun x hx => h x (List.mem_append_left _ hx)
  unfold goodW
  rw [List.getLast?_concat, List.dropLast_concat]
  show (decide (bar a.1 a.2 (u ++ [s]) = none) && _) = _
  rw [bar_app]
  cases hb : bar a.1 a.2 u with
  | none =>
    show (decide ((bar (wEnd a.1 a.2 u).1 (wEnd a.1 a.2 u).2 [s]).map (· + u.length) = none) && _) = _
    rw [bar_cons]
    have e : letB (wEnd a.1 a.2 u).1 (wEnd a.1 a.2 u).2 s = letS (wEnd a.1 a.2 u) s := rfl
    rw [e]
    cases letS (wEnd a.1 a.2 u) s <;> simp [bar]
  | some k => simp
def shInFn (iw bb gd bh : Nat) : List S := [S.asg (Tg.n 2) ((E.var 1).idx (cI 1)), S.iff ((E.call iw [E.var 2]).not.or ((E.cmp Cop.eq (E.var 2) (E.tup [])).or ((E.call bb [E.var 0, E.var 2]).isc .none true))) [S.ret (E.con (.bool false))] [], S.ret (E.call gd [E.call bh [E.var 0, (E.var 2).slc none (some (nI 1)) false], (E.var 2).idx (nI 1)]).not]
def showsEverFn (ns il iw bb gd bh eb wi : Nat) : Fn := ⟨2, 5, [S.exp (E.call ns [E.var 0]), S.iff ((E.call il [E.var 1, cI 2, cI 2]).not.or (E.bi (Bi.isinst Ty.str) [(E.var 1).idx (cI 0)]).not) [S.ret (E.con (.bool false))] [], S.iff (E.cmp Cop.eq ((E.var 1).idx (cI 0)) (E.glb (.str "endless"))) (shInFn iw bb gd bh) [], S.asg (Tg.t [Tg.n 3, Tg.n 4]) (E.call eb [E.var 0]), S.ret ((E.cmp Cop.eq ((E.var 1).idx (cI 0)) (E.glb (.str "ends"))).and ((E.cmp Cop.eq (E.var 3) (E.glb (.str "ends"))).and (E.call wi [(E.var 1).idx (cI 1), E.var 4, E.var 4])))]⟩
/-- a thing whose parts are not too many -/
def fewP (d : D) : Prop := ∀ xs, d = .tuple xs → xs.length ≤ 1000 ∧ ∀ x ∈ xs, fewD x
def PShowsEver (G : Fs) (f : Nat) : Prop := ∀ a d, IsS a → fewP d → G f [.fz (dS a), .fz d] = some (.fz (.bool (showsB a d)), [.fz (dS a), .fz d])
theorem shaped_w25 (w : List Int) : SeqAt.shaped (tI' w) = true := by
  unfold SeqAt.shaped
  rw [Bool.and_eq_true]
  exact ⟨canLay_w w, decide_eq_true (by have := depth_w w; omega)⟩
theorem eq_nilT {ws : List Int} (h : ws.length ≤ 1000) : cmpD .eq (.tuple (ws.map .int)) (.tuple []) = some (decide (ws = [])) := by
  have e : okEq (.tuple (ws.map .int)) (.tuple []) = true := by
    have := shaped_w25 ws
    unfold okEq
    rw [show SeqAt.shaped (.tuple (ws.map .int)) = true from this]
    rfl
  show (if okEq (.tuple (ws.map .int)) (.tuple []) = true then some (PyData.eqv (.tuple (ws.map .int)) (.tuple [])) else none) = _
  rw [if_pos e]
  cases ws with
  | nil => rfl
  | cons s ws => rfl
theorem sh_in {G : Fs} {iw bb gd bh : Nat} (hiw : PIsWalkA G iw) (hbb : PBar G bb) (hgd : PDown G gd) (hbh : PBehind G bh) {a : Stt} {u x : D} (ha : IsS a) (hx : fewD x) (o2 o3 o4 : Option Vl) :
    ∃ r, Tr.execs G [] (shInFn iw bb gd bh) [some (.fz (dS a)), some (.fz (.tuple [u, x])), o2, o3, o4] = some (.rt (.fz (.bool (wlkD x && tupG a x))), [some (.fz (dS a)), some (.fz (.tuple [u, x])), r, o3, o4]) := by
  have rS : ∀ a : Stt, sD a.1 a.2 = dS a := fun _ => rfl
  have i1 : ∀ p q : D, idxD (.tuple [p, q]) (.int 1) = some q := fun _ _ => rfl
  refine ⟨some (.fz x), ?_⟩
  have e3 := hiw x hx
  cases hw : wlkD x with
  | false =>
    rw [hw] at e3
    generalize dS a = db at *
    simp [shInFn, e3, i1]
  | true =>
    rw [hw] at e3
    cases x with
    | tuple ys =>
      have hys : ys.length ≤ 1000 := hx ys rfl
      obtain ⟨ws, rfl, hws⟩ := all_stps hw
      rw [List.length_map] at hys
      have e4 := eq_nilT hys
      have et : tupG a (.tuple (ws.map .int)) = goodW a ws := by
        show goodW a (stpsOf _) = _
        rw [stpsOf_map]
      rw [et]
      have z0 : okSz 0 = true := by decide
      rcases last_cases ws with rfl | ⟨v, s, rfl⟩
      · have g0 : goodW a [] = false := rfl
        rw [g0]
        generalize dS a = db at *
        simp only [List.map_nil] at *
        simp [shInFn, e3, e4, i1, z0]
      · have e5 := hbb a.1 a.2 (v ++ [s]) ha hws hys
        have hv : Stps v := fun x hx => hws x (List.mem_append_left _ hx)
        have ne : ¬ (v ++ [s] = []) := by simp
        rw [decide_eq_false ne] at e4
        have bc := bar_app v [s] a.1 a.2
        rw [good_app ha hws]
        unfold barD at e5
        have l0 : idxD (.tuple ((v ++ [s]).map .int)) (.int (-1)) = some (.int s) := by
          show (placeD ((v ++ [s]).map PyData.int).length (-1)).bind (fun j => ((v ++ [s]).map PyData.int)[j]?) = _
          rw [place_last (by simp)]
          simp
        have ci : cutL ((v ++ [s]).map PyData.int) none (some (-1)) = v.map .int := by
          rw [cutL_init, List.map_append, List.map_cons, List.map_nil, List.dropLast_concat]
        cases hb : bar a.1 a.2 v with
        | some k =>
          rw [hb] at bc
          have bc' : bar a.1 a.2 (v ++ [s]) = some k := bc
          rw [bc', rS] at e5
          simp only [tI'] at *
          generalize (v ++ [s]).map PyData.int = vs at *
          generalize dS a = db at *
          simp [shInFn, e3, e4, e5, i1, z0]
        | none =>
          rw [hb] at bc
          have bc' : bar a.1 a.2 (v ++ [s]) = (bar (wEnd a.1 a.2 v).1 (wEnd a.1 a.2 v).2 [s]).map (· + v.length) := bc
          have hW : IsWalk a.1 a.2 v := (bar_walk hv).mp hb
          have e6 := hbh a.1 a.2 v ha hW
          have hE : IsS (wEnd a.1 a.2 v) := walk_end ha hW
          cases hl : letS (wEnd a.1 a.2 v) s with
          | false =>
            have : letB (wEnd a.1 a.2 v).1 (wEnd a.1 a.2 v).2 s = false := hl
            rw [bar_cons, this] at bc'
            have bc2 : bar a.1 a.2 (v ++ [s]) = some (0 + v.length) := bc'
            rw [bc2, rS] at e5
            simp only [tI'] at *
            generalize (v ++ [s]).map PyData.int = vs at *
            generalize dS a = db at *
            simp [shInFn, e3, e4, e5, i1, z0]
          | true =>
            have : letB (wEnd a.1 a.2 v).1 (wEnd a.1 a.2 v).2 s = true := hl
            rw [bar_cons, this] at bc'
            have bc2 : bar a.1 a.2 (v ++ [s]) = none := bc'
            rw [bc2, rS] at e5
            have e7 := hgd (wEnd a.1 a.2 v).1 (wEnd a.1 a.2 v).2 s hE hl
            have dn : dnB (wEnd a.1 a.2 v).1 (wEnd a.1 a.2 v).2 s = dnS (wEnd a.1 a.2 v) s := rfl
            rw [dn, rS] at e7
            rw [rS, rS] at e6
            simp only [tI'] at *
            generalize (v ++ [s]).map PyData.int = vs at *
            generalize v.map PyData.int = v2 at *
            generalize dS (wEnd a.1 a.2 v) = dw at *
            generalize dS a = db at *
            simp [shInFn, e3, e4, e5, e6, e7, i1, l0, ci, z0]
    | _ => exact absurd hw (by simp [wlkD])
end Tr

set_option Elab.async false
set_option linter.all false
set_option maxRecDepth 100000
set_option maxHeartbeats 1000000
/-! k25: what shows it: the program's. -/
namespace Tr
open PySem
theorem shows_no {a : Stt} {d : D} (h : ∀ z x, d ≠ .tuple [.str z, x]) : showsB a d = false := by
  unfold showsB
  split
  · rename_i z x
    exact absurd rfl (h z x)
  · rfl
theorem two_cases (d : D) : (∃ z x, d = .tuple [.str z, x]) ∨ ((∀ z x, d ≠ .tuple [.str z, x]) ∧ (lngD d 2 2 = false ∨ ∃ u x, d = .tuple [u, x] ∧ isTy .str u = false)) := by
  cases d with
  | tuple xs =>
    by_cases c : xs.length = 2
    · obtain ⟨u, x, rfl⟩ : ∃ u x, xs = [u, x] := by
        match xs, c with
        | [u, x], _ => exact ⟨u, x, rfl⟩
      cases u with
      | str z => exact .inl ⟨z, x, rfl⟩
      | _ => exact .inr ⟨fun z y e => (by cases e), .inr ⟨_, x, rfl, rfl⟩⟩
    · refine .inr ⟨fun z y e => by cases e; exact c rfl, .inl ?_⟩
      show (decide _ && decide _) = false
      rw [Bool.and_eq_false_iff]
      by_cases c2 : (2 : Int) ≤ (xs.length : Int)
      · right
        exact decide_eq_false (by omega)
      · left
        exact decide_eq_false c2
  | _ => exact .inr ⟨fun z y e => (by cases e), .inl rfl⟩
theorem showsEver_run {G : Fs} {ns il iw bb gd bh eb wi : Nat} (hns : PNeed G ns) (hil : PLongA G il) (hiw : PIsWalkA G iw) (hbb : PBar G bb) (hgd : PDown G gd) (hbh : PBehind G bh) (heb : PEver G eb) (hwi : PWithinA G wi) {a : Stt} {d : D} (ha : IsS a) (hd : fewP d) :
    runF G (showsEverFn ns il iw bb gd bh eb wi) [.fz (dS a), .fz d] = some (.fz (.bool (showsB a d)), [.fz (dS a), .fz d]) := by
  have e1 := hns a.1 a.2 ha
  have e2 := hil d 2 2
  have rS : ∀ a : Stt, sD a.1 a.2 = dS a := fun _ => rfl
  rw [rS] at e1
  have i0 : ∀ p q : D, idxD (.tuple [p, q]) (.int 0) = some p := fun _ _ => rfl
  have i1 : ∀ p q : D, idxD (.tuple [p, q]) (.int 1) = some q := fun _ _ => rfl
  have cs : ¬ (("endless" : Str) = "ends") := by decide
  rcases two_cases d with ⟨z, x, rfl⟩ | ⟨hn, hc⟩
  · have l1 : lngD (.tuple [.str z, x]) 2 2 = true := rfl
    rw [l1] at e2
    have t1 : ∀ z, isTy .str (.str z) = true := fun _ => rfl
    by_cases cz : z = "endless"
    · have ec : showsB a (.tuple [.str z, x]) = (wlkD x && tupG a x) := if_pos cz
      obtain ⟨r, e3⟩ := sh_in hiw hbb hgd hbh (u := .str z) (x := x) ha ((hd _ rfl).2 x (by simp)) none none none
      rw [ec]
      generalize (wlkD x && tupG a x) = b at *
      generalize hb : shInFn iw bb gd bh = body at *
      generalize dS a = db at *
      subst cz
      simp [runF, showsEverFn, hb, e1, e2, e3, t1, i0, i1]
    · have ec : showsB a (.tuple [.str z, x]) = (decide (z = "ends") && numD (everD a) x) := if_neg cz
      rw [ec]
      have e3 := heb a ha
      generalize hb : shInFn iw bb gd bh = body at *
      rcases ever_cases a with ⟨w, ew⟩ | ⟨n, ew⟩
      · have en : numD (everD a) x = false := by rw [ew]; rfl
        rw [en]
        rw [ew] at e3
        unfold endl at e3
        generalize dS a = db at *
        by_cases cy : z = "ends"
        · subst cy
          simp [runF, showsEverFn, hb, e1, e2, e3, t1, i0, i1, cz, cs]
        · simp [runF, showsEverFn, hb, e1, e2, e3, t1, i0, i1, cz, cy]
      · have e4 := hwi x n n
        have en : numD (everD a) x = withD x n n := by
          rw [ew]
          unfold ends
          cases x with
          | int i =>
            show (decide (("ends" : Str) = "ends") && decide (i = (n : Int))) = (decide ((n : Int) ≤ i) && decide (i ≤ (n : Int)))
            rw [Bool.eq_iff_iff]
            simp
            omega
          | _ => rfl
        rw [en]
        rw [ew] at e3
        unfold ends at e3
        generalize dS a = db at *
        by_cases cy : z = "ends"
        · subst cy
          simp [runF, showsEverFn, hb, e1, e2, e3, e4, t1, i0, i1, cz]
        · simp [runF, showsEverFn, hb, e1, e2, e3, t1, i0, i1, cz, cy]
  · rw [shows_no hn]
    generalize hb : shInFn iw bb gd bh = body at *
    rcases hc with hc | ⟨u, x, rfl, hu⟩
    · rw [hc] at e2
      generalize dS a = db at *
      simp [runF, showsEverFn, e1, e2]
    · have l1 : lngD (.tuple [u, x]) 2 2 = true := rfl
      rw [l1] at e2
      generalize dS a = db at *
      simp [runF, showsEverFn, e1, e2, hu, i0, i1]
end Tr

set_option Elab.async false
set_option linter.all false
set_option maxRecDepth 100000
set_option maxHeartbeats 1000000
/-! k25: what shows it: the law's. -/
namespace Tr
open PySem
/-- a thing whose parts are not too many, and may be held to be alike -/
def thgD (d : D) : Prop := ∀ xs, d = .tuple xs → xs.length ≤ 1000 ∧ ∀ x ∈ xs, fewD x ∧ SeqAt.shaped x = true
theorem thgD.few {d : D} (h : thgD d) : fewP d := fun xs e => ⟨(h xs e).1, fun x hx => ((h xs e).2 x hx).1⟩
theorem eq_nilX {ys : List D} (h : SeqAt.shaped (.tuple ys) = true) : cmpD .eq (.tuple ys) (.tuple []) = some (decide (ys = [])) := by
  have e : okEq (.tuple ys) (.tuple []) = true := by
    unfold okEq
    rw [h]
    rfl
  show (if okEq (.tuple ys) (.tuple []) = true then some (PyData.eqv (.tuple ys) (.tuple [])) else none) = _
  rw [if_pos e]
  cases ys with
  | nil => rfl
  | cons s ws => rfl
def rtIn : List S := [S.iff ((E.bi (Bi.isinst Ty.int) [E.var 3]).not.or ((E.bi (Bi.isinst Ty.bool) [E.var 3]).or (E.cmp Cop.notin (E.var 3) (E.tup [(nI 1), cI 1])))) [S.ret (E.con (.bool false))] []]
theorem rt_in (G : Fs) (y : D) (f0 f1 f2 o3 o4 o5 : Option Vl) : turnF G [] (Tg.n 3) rtIn y [f0, f1, f2, o3, o4, o5] = some (if stpD y then .nx else .rt (.fz (.bool false)), [f0, f1, f2, some (.fz y), o4, o5]) := by
  have z2 : okSz 2 = true := by decide
  cases y with
  | int s =>
    have ei : cmpD .notin (.int s) (.tuple [.int (-1), .int 1]) = some (!decide (s = -1 ∨ s = 1)) := by
      rw [← in_steps]
      rfl
    have t1 : isTy .int (.int s) = true := rfl
    have t2 : isTy .bool (.int s) = false := rfl
    have es : stpD (.int s) = decide (s = -1 ∨ s = 1) := rfl
    rw [es]
    by_cases c : s = -1 ∨ s = 1
    · rw [decide_eq_true c] at ei ⊢
      simp [turnF, rtIn, t1, t2, ei, z2]
    · rw [decide_eq_false c] at ei ⊢
      simp [turnF, rtIn, t1, t2, ei, z2]
  | bool b =>
    have t1 : isTy .int (.bool b) = true := rfl
    have t2 : isTy .bool (.bool b) = true := rfl
    simp [turnF, rtIn, t1, t2, stpD]
  | _ => simp [turnF, rtIn, isTy, stpD]
theorem rt_loop (G : Fs) : ∀ (ys : List D) (f0 f1 f2 o3 o4 o5 : Option Vl), ∃ r, forN (turnF G [] (Tg.n 3) rtIn) ys [f0, f1, f2, o3, o4, o5] = some (if ys.all stpD then .nx else .rt (.fz (.bool false)), [f0, f1, f2, r, o4, o5])
  | [], f0, f1, f2, o3, o4, o5 => ⟨o3, rfl⟩
  | y :: ys, f0, f1, f2, o3, o4, o5 => by
    have e := rt_in G y f0 f1 f2 o3 o4 o5
    unfold forN
    rw [e]
    cases hy : stpD y with
    | true =>
      obtain ⟨r, e2⟩ := rt_loop G ys f0 f1 f2 (some (.fz y)) o4 o5
      refine ⟨r, ?_⟩
      rw [List.all_cons, hy]
      exact e2
    | false =>
      refine ⟨some (.fz y), ?_⟩
      rw [List.all_cons, hy]
      rfl
def rtA (du : Nat) : List S := [S.asg (Tg.n 2) (E.call du [E.var 0]), S.ret ((E.cmp Cop.eq ((E.var 2).idx (cI 0)) (E.con (.str "ends"))).and ((E.bi (Bi.isinst Ty.int) [(E.var 1).idx (cI 1)]).and ((E.bi (Bi.isinst Ty.bool) [(E.var 1).idx (cI 1)]).not.and (E.cmp Cop.eq ((E.var 1).idx (cI 1)) ((E.var 2).idx (cI 1))))))]
def rtB (lb ll ld : Nat) : List S := [S.for (Tg.n 3) (It.li ((E.var 1).idx (cI 1))) rtIn, S.asg (Tg.t [Tg.n 4, Tg.n 5]) (E.call lb [E.var 0, ((E.var 1).idx (cI 1)).slc none (some (nI 1)) false]), S.ret (((E.var 4).isc .none false).and ((E.call ll [E.var 5, ((E.var 1).idx (cI 1)).idx (nI 1)]).and (E.call ld [E.var 5, ((E.var 1).idx (cI 1)).idx (nI 1)]).not))]
def lawRight25Fn (du lb ll ld : Nat) : Fn := ⟨2, 6, [S.iff ((E.bi (Bi.isinst Ty.tuple) [E.var 1]).not.or ((E.cmp Cop.ne (E.bi Bi.len [E.var 1]) (cI 2)).or (E.bi (Bi.isinst Ty.str) [(E.var 1).idx (cI 0)]).not)) [S.ret (E.con (.bool false))] [], S.iff (E.cmp Cop.eq ((E.var 1).idx (cI 0)) (E.con (.str "ends"))) (rtA du) [], S.iff ((E.cmp Cop.ne ((E.var 1).idx (cI 0)) (E.con (.str "endless"))).or ((E.bi (Bi.isinst Ty.tuple) [(E.var 1).idx (cI 1)]).not.or (E.cmp Cop.eq ((E.var 1).idx (cI 1)) (E.tup [])))) [S.ret (E.con (.bool false))] [], S.for (Tg.n 3) (It.li ((E.var 1).idx (cI 1))) rtIn, S.asg (Tg.t [Tg.n 4, Tg.n 5]) (E.call lb [E.var 0, ((E.var 1).idx (cI 1)).slc none (some (nI 1)) false]), S.ret (((E.var 4).isc .none false).and ((E.call ll [E.var 5, ((E.var 1).idx (cI 1)).idx (nI 1)]).and (E.call ld [E.var 5, ((E.var 1).idx (cI 1)).idx (nI 1)]).not))]⟩
def PRight25 (G : Fs) (f : Nat) : Prop := ∀ a d, IsS a → thgD d → G f [.fz (dS a), .fz d] = some (.fz (.bool (showsB a d)), [.fz (dS a), .fz d])
theorem rt_a {G : Fs} {du : Nat} (hdu : PLawDue G du) {a : Stt} (ha : IsS a) {u x : D} (o2 o3 o4 o5 : Option Vl) :
    ∃ r, Tr.execs G [] (rtA du) [some (.fz (dS a)), some (.fz (.tuple [u, x])), o2, o3, o4, o5] = some (.rt (.fz (.bool (numD (everD a) x))), [some (.fz (dS a)), some (.fz (.tuple [u, x])), r, o3, o4, o5]) := by
  have hne : dueF 5 [(a, [])] 0 ≠ .none := by rw [due_ever ha]; exact everD_ne a
  have e3 := hdu a ha hne
  rw [due_ever ha] at e3
  have i0 : ∀ p q : D, idxD (.tuple [p, q]) (.int 0) = some p := fun _ _ => rfl
  have i1 : ∀ p q : D, idxD (.tuple [p, q]) (.int 1) = some q := fun _ _ => rfl
  refine ⟨some (.fz (everD a)), ?_⟩
  have cs : ¬ (("endless" : Str) = "ends") := by decide
  rcases ever_cases a with ⟨w, ew⟩ | ⟨n, ew⟩
  · have en : numD (everD a) x = false := by rw [ew]; rfl
    rw [en]
    rw [ew] at e3 ⊢
    unfold endl at *
    generalize dS a = db at *
    simp [rtA, e3, i0, i1, cs]
  · rw [ew] at e3 ⊢
    unfold ends at *
    generalize dS a = db at *
    cases x with
    | int i =>
      have en : numD (.tuple [.str "ends", .int (n : Nat)]) (.int i) = (i == (n : Int)) := by
        show (decide (("ends" : Str) = "ends") && decide (i = (n : Int))) = _
        simp
        rfl
      rw [en]
      have t1 : isTy .int (.int i) = true := rfl
      have t2 : isTy .bool (.int i) = false := rfl
      simp [rtA, e3, i0, i1, t1, t2]
    | bool b =>
      have en : numD (.tuple [.str "ends", .int (n : Nat)]) (.bool b) = false := rfl
      rw [en]
      have t1 : isTy .int (.bool b) = true := rfl
      have t2 : isTy .bool (.bool b) = true := rfl
      simp [rtA, e3, i0, i1, t1, t2]
    | _ =>
      simp [rtA, e3, i0, i1, isTy, numD]
end Tr

set_option Elab.async false
set_option linter.all false
set_option maxRecDepth 100000
set_option maxHeartbeats 1000000
/-! k25: what shows it: the law's, whole. -/
namespace Tr
open PySem
theorem rt_b {G : Fs} {lb ll ld : Nat} (hlb : PLawBar G lb) (hll : PLet G ll) (hld : PDown G ld) {a : Stt} (ha : IsS a) {u : D} {ys : List D} (hy : ys.length ≤ 1000) (hne : ys ≠ []) (o2 o3 o4 o5 : Option Vl) :
    ∃ r3 r4 r5, Tr.execs G [] (rtB lb ll ld) [some (.fz (dS a)), some (.fz (.tuple [u, .tuple ys])), o2, o3, o4, o5] = some (.rt (.fz (.bool (wlkD (.tuple ys) && tupG a (.tuple ys)))), [some (.fz (dS a)), some (.fz (.tuple [u, .tuple ys])), o2, r3, r4, r5]) := by
  have i1 : ∀ p q : D, idxD (.tuple [p, q]) (.int 1) = some q := fun _ _ => rfl
  have i0 : ∀ p q : D, idxD (.tuple [p, q]) (.int 0) = some p := fun _ _ => rfl
  obtain ⟨r, e⟩ := rt_loop G ys (some (.fz (dS a))) (some (.fz (.tuple [u, .tuple ys]))) o2 o3 o4 o5
  have rS : ∀ a : Stt, sD a.1 a.2 = dS a := fun _ => rfl
  have ew : wlkD (.tuple ys) = ys.all stpD := rfl
  rw [ew]
  cases hw : ys.all stpD with
  | false =>
    rw [hw] at e
    refine ⟨r, o4, o5, ?_⟩
    generalize hb : rtIn = body at *
    generalize dS a = db at *
    simp [rtB, hb, i1, e]
  | true =>
    rw [hw] at e
    obtain ⟨ws, rfl, hws⟩ := all_stps hw
    rcases last_cases ws with rfl | ⟨v, s, rfl⟩
    · exact absurd rfl hne
    rw [List.length_map, List.length_append] at hy
    have hv : Stps v := fun x hx => hws x (List.mem_append_left _ hx)
    have e4 := hlb a.1 a.2 v ha hv (by omega)
    have et : tupG a (.tuple ((v ++ [s]).map .int)) = goodW a (v ++ [s]) := by
      show goodW a (stpsOf _) = _
      rw [stpsOf_map]
    rw [et, good_app ha hws]
    have l0 : idxD (.tuple ((v ++ [s]).map .int)) (.int (-1)) = some (.int s) := by
      show (placeD ((v ++ [s]).map PyData.int).length (-1)).bind (fun j => ((v ++ [s]).map PyData.int)[j]?) = _
      rw [place_last (by simp)]
      simp
    have ci : cutL ((v ++ [s]).map PyData.int) none (some (-1)) = v.map .int := by
      rw [cutL_init, List.map_append, List.map_cons, List.map_nil, List.dropLast_concat]
    unfold barD at e4
    cases hb : bar a.1 a.2 v with
    | some k =>
      rw [hb, rS, rS] at e4
      refine ⟨r, some (.fz (.int (k : Nat))), some (.fz (dS (wTo a.1 a.2 v))), ?_⟩
      generalize hbd : rtIn = body at *
      simp only [tI'] at *
      generalize (v ++ [s]).map PyData.int = vs at *
      generalize v.map PyData.int = v2 at *
      generalize dS (wTo a.1 a.2 v) = dw at *
      generalize dS a = db at *
      simp [rtB, hbd, i1, e, e4, ci, l0]
    | none =>
      rw [hb, rS, wTo_end hb, rS] at e4
      have hW : IsWalk a.1 a.2 v := (bar_walk hv).mp hb
      have hE : IsS (wEnd a.1 a.2 v) := walk_end ha hW
      refine ⟨r, some (.fz .none), some (.fz (dS (wEnd a.1 a.2 v))), ?_⟩
      have e5 := hll (wEnd a.1 a.2 v).1 (wEnd a.1 a.2 v).2 s hE
      have el : letB (wEnd a.1 a.2 v).1 (wEnd a.1 a.2 v).2 s = letS (wEnd a.1 a.2 v) s := rfl
      rw [el, rS] at e5
      cases hl : letS (wEnd a.1 a.2 v) s with
      | false =>
        rw [hl] at e5
        generalize hbd : rtIn = body at *
        simp only [tI'] at *
        generalize (v ++ [s]).map PyData.int = vs at *
        generalize v.map PyData.int = v2 at *
        generalize dS (wEnd a.1 a.2 v) = dw at *
        generalize dS a = db at *
        simp [rtB, hbd, i1, e, e4, e5, ci, l0]
      | true =>
        rw [hl] at e5
        have e7 := hld (wEnd a.1 a.2 v).1 (wEnd a.1 a.2 v).2 s hE hl
        have dn : dnB (wEnd a.1 a.2 v).1 (wEnd a.1 a.2 v).2 s = dnS (wEnd a.1 a.2 v) s := rfl
        rw [dn, rS] at e7
        generalize hbd : rtIn = body at *
        simp only [tI'] at *
        generalize (v ++ [s]).map PyData.int = vs at *
        generalize v.map PyData.int = v2 at *
        generalize dS (wEnd a.1 a.2 v) = dw at *
        generalize dS a = db at *
        simp [rtB, hbd, i1, e, e4, e5, e7, ci, l0]
theorem showsB_two (a : Stt) (z : Str) (x : D) : showsB a (.tuple [.str z, x]) = if z = "endless" then wlkD x && tupG a x else decide (z = "ends") && numD (everD a) x := rfl
theorem lawRight25_run {G : Fs} {du lb ll ld : Nat} (hdu : PLawDue G du) (hlb : PLawBar G lb) (hll : PLet G ll) (hld : PDown G ld) {a : Stt} {d : D} (ha : IsS a) (hd : thgD d) :
    runF G (lawRight25Fn du lb ll ld) [.fz (dS a), .fz d] = some (.fz (.bool (showsB a d)), [.fz (dS a), .fz d]) := by
  have i0 : ∀ p q : D, idxD (.tuple [p, q]) (.int 0) = some p := fun _ _ => rfl
  have i1 : ∀ p q : D, idxD (.tuple [p, q]) (.int 1) = some q := fun _ _ => rfl
  have tt : ∀ xs, isTy .tuple (.tuple xs) = true := fun _ => rfl
  have ts : ∀ z, isTy .str (.str z) = true := fun _ => rfl
  have nS : ∀ x y : Str, cmpD .ne (.str x) (.str y) = some (!decide (x = y)) := fun _ _ => rfl
  rcases two_cases d with ⟨z, x, rfl⟩ | ⟨hn, hc⟩
  · by_cases cy : z = "ends"
    · subst cy
      have cs : ¬ (("ends" : Str) = "endless") := by decide
      have ec : showsB a (.tuple [.str "ends", x]) = numD (everD a) x := by
        rw [showsB_two, if_neg cs, decide_eq_true rfl, Bool.true_and]
      rw [ec]
      obtain ⟨r, e⟩ := rt_a hdu ha (u := .str "ends") (x := x) none none none none
      generalize numD (everD a) x = b at *
      generalize hb : rtA du = body at *
      generalize rtIn = body2 at *
      generalize dS a = db at *
      simp [runF, lawRight25Fn, hb, i0, i1, tt, ts, ne_int, e]
    · by_cases cz : z = "endless"
      · subst cz
        have ec : showsB a (.tuple [.str "endless", x]) = (wlkD x && tupG a x) := by
          rw [showsB_two]
          exact if_pos rfl
        rw [ec]
        cases x with
        | tuple ys =>
          have hx := (hd _ rfl).2 (.tuple ys) (by simp)
          have e1 := eq_nilX hx.2
          have hl := hx.1 ys rfl
          by_cases hy : ys = []
          · subst hy
            have e0 : (wlkD (.tuple []) && tupG a (.tuple [])) = false := rfl
            rw [e0]
            generalize hb : rtA du = body at *
            generalize rtIn = body2 at *
            generalize dS a = db at *
            have z0 : okSz 0 = true := by decide
            simp [runF, lawRight25Fn, hb, i0, i1, tt, ts, ne_int, nS, e1, cy, z0]
          · rw [decide_eq_false hy] at e1
            obtain ⟨r3, r4, r5, e⟩ := rt_b hlb hll hld ha (u := .str "endless") hl hy none none none none
            generalize (wlkD (.tuple ys) && tupG a (.tuple ys)) = b at *
            have es : lawRight25Fn du lb ll ld = ⟨2, 6, [S.iff ((E.bi (Bi.isinst Ty.tuple) [E.var 1]).not.or ((E.cmp Cop.ne (E.bi Bi.len [E.var 1]) (cI 2)).or (E.bi (Bi.isinst Ty.str) [(E.var 1).idx (cI 0)]).not)) [S.ret (E.con (.bool false))] [], S.iff (E.cmp Cop.eq ((E.var 1).idx (cI 0)) (E.con (.str "ends"))) (rtA du) [], S.iff ((E.cmp Cop.ne ((E.var 1).idx (cI 0)) (E.con (.str "endless"))).or ((E.bi (Bi.isinst Ty.tuple) [(E.var 1).idx (cI 1)]).not.or (E.cmp Cop.eq ((E.var 1).idx (cI 1)) (E.tup [])))) [S.ret (E.con (.bool false))] []] ++ rtB lb ll ld⟩ := rfl
            rw [es]
            generalize hb : rtA du = body at *
            generalize rtB lb ll ld = body2 at *
            generalize dS a = db at *
            have z0 : okSz 0 = true := by decide
            simp [runF, i0, i1, tt, ts, ne_int, nS, e1, cy, z0, e]
        | _ =>
          have e0 : ∀ x, isTy .tuple x = false → (wlkD x && tupG a x) = false := fun x hx => by
            cases x <;> first | rfl | cases hx
          rw [e0 _ rfl]
          generalize hb : rtA du = body at *
          generalize rtIn = body2 at *
          generalize dS a = db at *
          simp [runF, lawRight25Fn, hb, i0, i1, isTy, ne_int, nS, cy]
      · have ec : showsB a (.tuple [.str z, x]) = false := by
          rw [showsB_two, if_neg cz, decide_eq_false cy, Bool.false_and]
        rw [ec]
        generalize hb : rtA du = body at *
        generalize rtIn = body2 at *
        generalize dS a = db at *
        simp [runF, lawRight25Fn, hb, i0, i1, tt, ts, ne_int, nS, cy, cz]
  · rw [shows_no hn]
    generalize hb : rtA du = body at *
    generalize rtIn = body2 at *
    generalize dS a = db at *
    cases d with
    | tuple xs =>
      by_cases c : (xs.length : Int) = 2
      · rcases hc with hc | ⟨u, x, e, hu⟩
        · have : lngD (.tuple xs) 2 2 = true := by
            show (decide _ && decide _) = true
            rw [decide_eq_true (by omega), decide_eq_true (by omega)]
            rfl
          rw [this] at hc
          cases hc
        · cases e
          simp [runF, lawRight25Fn, hb, i0, i1, tt, hu, ne_int]
      · simp [runF, lawRight25Fn, hb, tt, ne_int, c]
    | _ => simp [runF, lawRight25Fn, hb, isTy]
end Tr

set_option Elab.async false
set_option linter.all false
set_option maxRecDepth 100000
set_option maxHeartbeats 1000000
/-! k25: things that are tame enough. -/
namespace Tr
open PySem
def fewB (d : D) : Bool := match d with
  | .tuple xs => decide (xs.length ≤ 1000)
  | _ => true
theorem fewB_of {d : D} (h : fewB d = true) : fewD d := fun xs e => by
  subst e
  exact of_decide_eq_true h
def atB (y : D) : Bool := y.canLay0 && tame y && decide (cnt y ≤ 40) && decide (y.depth ≤ 2) && fewB y
def ptB (x : D) : Bool := x.canLay0 && tame x && decide (cnt x ≤ 20000) && decide (x.depth ≤ 3) && fewB x
def okB (d : D) : Bool := match d with
  | .tuple xs => decide (xs.length ≤ 3) && xs.all ptB
  | .list xs => decide (xs.length ≤ 3) && xs.all ptB
  | .dict kvs => kvs.isEmpty
  | .str x => tame (.str x)
  | .int i => tame (.int i)
  | _ => true
theorem pt_parts {x : D} (h : ptB x = true) : x.canLay0 = true ∧ tame x = true ∧ cnt x ≤ 20000 ∧ x.depth ≤ 3 ∧ fewB x = true := by
  unfold ptB at h
  simp only [Bool.and_eq_true, decide_eq_true_eq] at h
  exact ⟨h.1.1.1.1, h.1.1.1.2, h.1.1.2, h.1.2, h.2⟩
theorem at_parts {x : D} (h : atB x = true) : x.canLay0 = true ∧ tame x = true ∧ cnt x ≤ 40 ∧ x.depth ≤ 2 ∧ fewB x = true := by
  unfold atB at h
  simp only [Bool.and_eq_true, decide_eq_true_eq] at h
  exact ⟨h.1.1.1.1, h.1.1.1.2, h.1.1.2, h.1.2, h.2⟩
theorem ok_thg {d : D} (h : okB d = true) : thgD d := fun xs e => by
  subst e
  have h' : (decide (xs.length ≤ 3) && xs.all ptB) = true := h
  rw [Bool.and_eq_true, List.all_eq_true] at h'
  refine ⟨by have := of_decide_eq_true h'.1; omega, fun x hx => ?_⟩
  obtain ⟨a1, a2, a3, a4, a5⟩ := pt_parts (h'.2 x hx)
  refine ⟨fewB_of a5, ?_⟩
  unfold SeqAt.shaped
  rw [a1, decide_eq_true (by omega)]
  rfl
theorem pts_tame : ∀ {xs : List D}, xs.all ptB = true → tameL xs = true ∧ cntL xs ≤ 20002 * xs.length ∧ PyData.depthAll xs ≤ 3
  | [], _ => ⟨rfl, Nat.le_refl _, Nat.zero_le _⟩
  | x :: xs, h => by
    rw [List.all_cons, Bool.and_eq_true] at h
    obtain ⟨a1, a2, a3, a4, a5⟩ := pt_parts h.1
    obtain ⟨b1, b2, b3⟩ := pts_tame h.2
    refine ⟨?_, ?_, ?_⟩
    · simp only [tameL, a2, b1]
      rfl
    · simp only [cntL, List.length_cons]
      omega
    · simp only [PyData.depthAll]
      omega
theorem ats_tame : ∀ {xs : List D}, xs.all atB = true → tameL xs = true ∧ cntL xs ≤ 42 * xs.length ∧ PyData.depthAll xs ≤ 2 ∧ PyData.canLayAll0 xs = true
  | [], _ => ⟨rfl, Nat.le_refl _, Nat.zero_le _, rfl⟩
  | x :: xs, h => by
    rw [List.all_cons, Bool.and_eq_true] at h
    obtain ⟨a1, a2, a3, a4, a5⟩ := at_parts h.1
    obtain ⟨b1, b2, b3, b4⟩ := ats_tame h.2
    refine ⟨?_, ?_, ?_, ?_⟩
    · simp only [tameL, a2, b1]
      rfl
    · simp only [cntL, List.length_cons]
      omega
    · simp only [PyData.depthAll]
      omega
    · simp only [PyData.canLayAll0, a1, b4]
      rfl
theorem pt_tuple {xs : List D} (h : xs.all atB = true) (hl : xs.length ≤ 450) : ptB (.tuple xs) = true := by
  obtain ⟨b1, b2, b3, b4⟩ := ats_tame h
  unfold ptB
  simp only [Bool.and_eq_true, decide_eq_true_eq]
  refine ⟨⟨⟨⟨b4, b1⟩, ?_⟩, ?_⟩, decide_eq_true (by omega)⟩
  · simp only [cnt]
    omega
  · simp only [PyData.depth]
    omega
theorem pt_list {xs : List D} (h : xs.all atB = true) (hl : xs.length ≤ 450) : ptB (.list xs) = true := by
  obtain ⟨b1, b2, b3, b4⟩ := ats_tame h
  unfold ptB
  simp only [Bool.and_eq_true, decide_eq_true_eq]
  refine ⟨⟨⟨⟨b4, b1⟩, ?_⟩, ?_⟩, rfl⟩
  · simp only [cnt]
    omega
  · simp only [PyData.depth]
    omega
theorem at_stps : ∀ {ws : List Int}, Stps ws → (ws.map PyData.int).all atB = true
  | [], _ => rfl
  | s :: ws, h => by
    rw [List.map_cons, List.all_cons, at_stps fun x hx => h x (List.mem_cons_of_mem _ hx), Bool.and_true]
    rcases h s List.mem_cons_self with rfl | rfl <;> decide +kernel
theorem pt_w {ws : List Int} (h : Stps ws) (hl : ws.length ≤ 450) : ptB (tI' ws) = true := pt_tuple (at_stps h) (by rw [List.length_map]; exact hl)
theorem ok_two {x y : D} (h1 : ptB x = true) (h2 : ptB y = true) : okB (.tuple [x, y]) = true := by
  show (decide (([x, y] : List D).length ≤ 3) && ([x, y] : List D).all ptB) = true
  rw [List.all_cons, List.all_cons, h1, h2]
  rfl
theorem ok_show {a : Stt} (ha : IsS a) (hH : Hi a.2 1000000) {d : D} (h : okB d = true) : okShow (.tuple [dS a, d]) = true := by
  obtain ⟨u1, u2, u3⟩ := tame_st ha hH
  have w1 : tame (dS a) = true := u1
  have w2 : cnt (dS a) ≤ 1000 := u2
  have w3 : (dS a).depth ≤ 2 := u3
  have gen : tame d = true → cnt d ≤ 100000 → d.depth ≤ 10 → okShow (.tuple [dS a, d]) = true := fun t1 t2 t3 => by
    refine okShow_of ?_ ?_ ?_
    · simp only [tame, tameL, w1, t1]
      rfl
    · simp only [cnt, cntL]
      omega
    · simp only [PyData.depth, PyData.depthAll]
      omega
  cases d with
  | none => exact gen rfl (by decide) (by decide)
  | bool b => exact gen rfl (by simp [cnt]) (by simp [PyData.depth])
  | int i => exact gen h (by simp [cnt]) (by simp [PyData.depth])
  | str x => exact gen h (by simp [cnt]) (by simp [PyData.depth])
  | list xs =>
    have h' : (decide (xs.length ≤ 3) && xs.all ptB) = true := h
    rw [Bool.and_eq_true] at h'
    obtain ⟨b1, b2, b3⟩ := pts_tame h'.2
    have := of_decide_eq_true h'.1
    exact gen b1 (by simp only [cnt]; omega) (by simp only [PyData.depth]; omega)
  | tuple xs =>
    have h' : (decide (xs.length ≤ 3) && xs.all ptB) = true := h
    rw [Bool.and_eq_true] at h'
    obtain ⟨b1, b2, b3⟩ := pts_tame h'.2
    have := of_decide_eq_true h'.1
    exact gen b1 (by simp only [cnt]; omega) (by simp only [PyData.depth]; omega)
  | dict kvs =>
    have h' : kvs.isEmpty = true := h
    cases kvs with
    | cons p r => cases h'
    | nil =>
      obtain ⟨c1, c2, c3⟩ := shown_le _ w1
      have e1 : (PyData.tuple [dS a, .dict []]).shown = tupleText (PyData.shownAll [dS a, .dict []]) := rfl
      have e2 := tupleText_le (PyData.shownAll [dS a, .dict []])
      have e3 : PyData.shownAll [dS a, .dict []] = [(dS a).shown, (PyData.dict []).shown] := rfl
      have e4 : (PyData.dict []).shown.length ≤ 10 := by decide +kernel
      have e5 : piled [(dS a).shown, (PyData.dict []).shown] = (dS a).shown.length + 2 + ((PyData.dict []).shown.length + 2 + 0) := by
        rw [piled_cons, piled_cons, piled_nil]
      rw [e3, e5] at e2
      have hs : ∀ b : Stt, nlD (dS b) = true := fun b => by
        have hl : ∀ l : List Int, nlDs (l.map .int) = true := fun l => by
          induction l with
          | nil => rfl
          | cons x l ih =>
            rw [List.map_cons]
            simp only [nlDs, nlD, ih]
            rfl
        show nlDs [.int b.1, .tuple (b.2.map .int)] = true
        simp only [nlDs, nlD, hl]
        rfl
      unfold okShow
      rw [e1, e3]
      have f1 : (PyData.tuple [dS a, .dict []]).showable = true := by
        show PyData.showableAll [dS a, .dict []] = true
        simp only [PyData.showableAll, c2]
        rfl
      have f2 : nlD (.tuple [dS a, .dict []]) = true := by
        simp only [nlD, nlDs, hs]
        rfl
      have f3 : (PyData.tuple [dS a, .dict []]).depth ≤ 64 := by
        simp only [PyData.depth, PyData.depthAll]
        have : (PyData.dict ([] : List (PyData × PyData))).depth ≤ 2 := by decide +kernel
        simp only [PyData.depth, PyData.depthAll] at this
        omega
      rw [f1, f2, decide_eq_true f3, decide_eq_true (by omega)]
      simp
end Tr

set_option Elab.async false
set_option linter.all false
set_option maxRecDepth 100000
set_option maxHeartbeats 1000000
/-! k25: odd things, and a lap of drawn ones. -/
namespace Tr
open PySem
def oddA : List D := [.none, .bool true, .bool false, .int (-1), .int 0, .int 1, .int 2, (.int 100000000000), .str "", .str "open", .tuple [], .list [], .dict [], .tuple [.int 0], .list [.int 0], .tuple [.int 0, .int 0], .tuple [.int 1, .int (-1)]]
def oddB : List D := [.tuple [.int 0, .tuple [.int 0, .int 0]], .tuple [.tuple [.int 0, .int 0]], .tuple [.str "walk", .tuple []]]
def lawOddFn (pk : Nat) : Fn := ⟨1, 2, [S.asg (Tg.n 1) (E.lst [E.con .none, E.con (.bool true), E.con (.bool false), (nI 1), cI 0, cI 1, cI 2, E.bin Bop.pow (cI 10) (cI 11), E.con (.str ""), E.con (.str "open"), E.tup [], E.lst [], E.dct [], E.tup [cI 0], E.lst [cI 0], E.tup [cI 0, cI 0], E.tup [cI 1, (nI 1)]]), S.ret (E.call pk [E.var 0, E.bin Bop.add (E.var 1) (E.lst [E.tup [cI 0, E.tup [cI 0, cI 0]], E.tup [E.tup [cI 0, cI 0]], E.tup [E.con (.str "walk"), E.tup []]])])]⟩
def POdd (G : Fs) (f : Nat) : Prop := ∀ x, IsPen x → ∃ (d : D) (x' : Vl), G f [x] = some (.fz d, [x']) ∧ d ∈ oddA ++ oddB ∧ IsPen x'
theorem odd_ok : ∀ d ∈ oddA ++ oddB, okB d = true := by
  have : (oddA ++ oddB).all okB = true := by decide +kernel
  exact List.all_eq_true.mp this
theorem odd_run {G : Fs} {pk : Nat} (hp : PPick G pk) {x : Vl} (hx : IsPen x) : ∃ (d : D) (x' : Vl), runF G (lawOddFn pk) [x] = some (.fz d, [x']) ∧ d ∈ oddA ++ oddB ∧ IsPen x' := by
  obtain ⟨d, x1, e1, hd, hx1⟩ := hp x (.ol (oddA ++ oddB)) _ hx (.inl rfl) (by decide) (by decide)
  refine ⟨d, x1, ?_, hd, hx1⟩
  obtain ⟨a0, b0, c0, rfl, -, -⟩ := id hx
  obtain ⟨a1, b1, c1, rfl, -, -⟩ := id hx1
  have z0 : okSz 0 = true := by decide
  have z1 : okSz 1 = true := by decide
  have z2 : okSz 2 = true := by decide
  have z3 : okSz 3 = true := by decide
  have z17 : okSz 17 = true := by decide
  have z20 : okSz 20 = true := by decide
  have ep : binD .pow (.int 10) (.int 11) = some (.fz (.int 100000000000)) := rfl
  have ea : binD .add (.list oddA) (.list oddB) = some (.ol (oddA ++ oddB)) := by
    show (if okSz (oddA.length + oddB.length) = true then some (Vl.ol (oddA ++ oddB)) else none) = _
    rw [if_pos (by decide)]
  have ow : ∀ kvs, (Vl.od kvs).own = true := fun _ => rfl
  have st : ∀ kvs, (Vl.od kvs).strip = .dict kvs := fun _ => rfl
  generalize oddA ++ oddB = L at *
  unfold oddA oddB at ea
  simp [runF, lawOddFn, z0, z1, z2, z3, z17, ep, ea, e1, ow, st]
end Tr

set_option Elab.async false
set_option linter.all false
set_option maxRecDepth 100000
set_option maxHeartbeats 1000000
/-! k25: things, laps of drawn ones. -/
namespace Tr
open PySem
theorem cutL_len {α : Type} (l : List α) (lo hi : Option Int) : (cutL l lo hi).length ≤ l.length := by
  unfold cutL
  rw [List.length_take, List.length_drop]
  omega
def thIn (dr pk wk : Nat) : List S := [S.asg (Tg.n 6) ((E.call wk [E.var 0, E.var 1, cI 7]).idx (cI 0)), S.par [7, 8] [E.call dr [E.var 0, E.bin Bop.add (E.bi Bi.len [E.var 6]) (cI 1)], E.call pk [E.var 0, E.lst [(nI 1), cI 1, cI 0, cI 2, E.con (.bool true), E.con .none, E.con (.str "1"), E.tup [cI 1], E.lst [cI 1], (nI 2)]]], S.asg (Tg.n 3) (E.bin Bop.add (E.var 3) (E.lst [E.tup [E.con (.str "endless"), E.var 6], E.tup [E.con (.str "endless"), E.bin Bop.add (E.var 6) (E.tup [E.call pk [E.var 0, E.lst [(nI 1), cI 1]]])], E.tup [E.con (.str "endless"), E.bi Bi.list [E.var 6]]])), S.asg (Tg.n 3) (E.bin Bop.add (E.var 3) (E.lst [E.tup [E.con (.str "endless"), E.bin Bop.add (E.bin Bop.add ((E.var 6).slc none (some (E.var 7)) false) (E.tup [E.var 8])) ((E.var 6).slc (some (E.var 7)) none false)], E.tup [E.con (.str "endless"), (E.var 6).slc (some (cI 1)) none false], E.tup [E.con (.str "never"), E.var 6]]))]
def tenD : List D := [.int (-1), .int 1, .int 0, .int 2, .bool true, .none, .str "1", .tuple [.int 1], .list [.int 1], .int (-2)]
def thF (x : Vl) (a : Stt) (e : D) (L : List D) (o4 o5 o6 o7 o8 o9 : Option Vl) : Fm := [some x, some (.fz (dS a)), some (.fz e), some (.ol L), o4, o5, o6, o7, o8, o9]
theorem ten_ok : ∀ y ∈ tenD, atB y = true := by
  have : tenD.all atB = true := by decide +kernel
  exact List.all_eq_true.mp this
theorem st_ok : ptB (.str "endless") = true ∧ ptB (.str "ends") = true ∧ ptB (.str "never") = true ∧ ptB (.str "Ends") = true := by decide +kernel
theorem th_in {G : Fs} {dr pk wk : Nat} (hd : PDraw G dr) (hp : PPick G pk) (hw : PWalk G wk) {x : Vl} (hx : IsPen x) {a : Stt} (ha : IsS a) {e : D} {L : List D} (hL : L.length < 1000) (o4 o5 o6 o7 o8 o9 : Option Vl) (i : D) :
    ∃ (x' : Vl) (M : List D) (o5' o6' o7' o8' : Option Vl), turnF G [0] (Tg.n 5) (thIn dr pk wk) i (thF x a e L o4 o5 o6 o7 o8 o9) = some (.nx, thF x' a e (L ++ M) o4 o5' o6' o7' o8' o9) ∧ IsPen x' ∧ M.length = 6 ∧ ∀ d ∈ M, okB d = true := by
  obtain ⟨ws, x1, e1, w1, w2, hx1⟩ := hw x a.1 a.2 7 hx ha (by decide) (by decide)
  obtain ⟨t, x2, e2, t0, t1, hx2⟩ := hd x1 ((ws.length : Int) + 1) hx1 (by omega) (by omega)
  obtain ⟨od, x3, e3, hod, hx3⟩ := hp x2 (.ol tenD) _ hx2 (.inl rfl) (by decide) (by decide)
  obtain ⟨sd, x4, e4, hsd, hx4⟩ := hp x3 (.ol [.int (-1), .int 1]) _ hx3 (.inl rfl) (by decide) (by decide)
  have hst : Stps ws := w1.stps
  have rS : ∀ a : Stt, sD a.1 a.2 = dS a := fun _ => rfl
  rw [rS, rS] at e1
  have okw : ptB (tI' ws) = true := pt_w hst (by omega)
  have oksd : atB sd = true := by
    simp only [List.mem_cons, List.not_mem_nil, or_false] at hsd
    rcases hsd with rfl | rfl <;> decide +kernel
  have okod := ten_ok od hod
  have okc : ∀ lo hi, ((cutL (ws.map PyData.int) lo hi).all atB) = true := fun lo hi => by
    rw [cutL_map]
    exact at_stps fun s hs => hst s (cutL_mem hs)
  have lc : ∀ lo hi, (cutL (ws.map PyData.int) lo hi).length ≤ 7 := fun lo hi => by
    have := cutL_len (ws.map PyData.int) lo hi
    rw [List.length_map] at this
    omega
  have q1 : ptB (.tuple (ws.map .int ++ [sd])) = true := by
    refine pt_tuple ?_ ?_
    · rw [List.all_append, at_stps hst, List.all_cons, oksd]
      rfl
    · rw [List.length_append, List.length_map]
      simp
      omega
  have q2 : ptB (.list (ws.map .int)) = true := pt_list (at_stps hst) (by rw [List.length_map]; omega)
  have q3 : ptB (.tuple (cutL (ws.map .int) none (some t) ++ (od :: cutL (ws.map .int) (some t) none))) = true := by
    refine pt_tuple ?_ ?_
    · rw [List.all_append, okc, List.all_cons, okod, okc]
      rfl
    · rw [List.length_append, List.length_cons]
      have := lc none (some t)
      have := lc (some t) none
      omega
  have q4 : ptB (.tuple (cutL (ws.map .int) (some 1) none)) = true := pt_tuple (okc _ _) (by have := lc (some 1) none; omega)
  refine ⟨x4, [.tuple [.str "endless", tI' ws], .tuple [.str "endless", .tuple (ws.map .int ++ [sd])], .tuple [.str "endless", .list (ws.map .int)], .tuple [.str "endless", .tuple (cutL (ws.map .int) none (some t) ++ (od :: cutL (ws.map .int) (some t) none))], .tuple [.str "endless", .tuple (cutL (ws.map .int) (some 1) none)], .tuple [.str "never", tI' ws]], some (.fz i), some (.fz (tI' ws)), some (.fz (.int t)), some (.fz od), ?_, hx4, rfl, ?_⟩
  · have z1 : okSz 1 = true := by decide
    have z2 : okSz 2 = true := by decide
    have z3 : okSz 3 = true := by decide
    have z10 : okSz 10 = true := by decide
    have s1 : okSz (ws.length + 1) = true := okSz_ok (by omega)
    have s2 : okSz ((cutL (ws.map PyData.int) none (some t)).length + 1) = true := okSz_ok (by have := lc none (some t); omega)
    have s3 : okSz ((cutL (ws.map PyData.int) none (some t)).length + 1 + (cutL (ws.map PyData.int) (some t) none).length) = true := okSz_ok (by have := lc none (some t); have := lc (some t) none; omega)
    have s4 : okSz (L.length + 3) = true := okSz_ok (by omega)
    have s5 : okSz (L.length + 3 + 3) = true := okSz_ok (by omega)
    have i0 : ∀ p q : D, idxD (.tuple [p, q]) (.int 0) = some p := fun _ _ => rfl
    have bL : ∀ a b : List D, binD .add (.list a) (.list b) = if okSz (a.length + b.length) then some (.ol (a ++ b)) else none := fun _ _ => rfl
    have bT : ∀ a b : List D, binD .add (.tuple a) (.tuple b) = if okSz (a.length + b.length) then some (.fz (.tuple (a ++ b))) else none := fun _ _ => rfl
    have lT : ∀ xs : List D, biD .list [.tuple xs] = some (.ol xs) := fun _ => rfl
    obtain ⟨a0, b0, c0, rfl, -, -⟩ := id hx
    obtain ⟨a1, b1, c1, rfl, -, -⟩ := id hx1
    obtain ⟨a2, b2, c2, rfl, -, -⟩ := id hx2
    obtain ⟨a3, b3, c3, rfl, -, -⟩ := id hx3
    obtain ⟨a4, b4, c4, rfl, -, -⟩ := id hx4
    unfold tenD at e3
    simp only [tI', thF] at *
    generalize dS (wEnd a.1 a.2 ws) = dw at *
    generalize dS a = db at *
    have hlen : (ws.map PyData.int).length = ws.length := List.length_map ..
    generalize ws.map PyData.int = vs at *
    simp [turnF, thIn, e1, e2, e3, e4, z1, z2, z3, z10, s1, s2, s3, s4, s5, i0, bL, bT, lT, hlen]
  · intro d hd
    simp only [List.mem_cons, List.not_mem_nil, or_false] at hd
    obtain ⟨k1, k2, k3, k4⟩ := st_ok
    rcases hd with rfl | rfl | rfl | rfl | rfl | rfl
    · exact ok_two k1 okw
    · exact ok_two k1 q1
    · exact ok_two k1 q2
    · exact ok_two k1 q3
    · exact ok_two k1 q4
    · exact ok_two k3 okw
end Tr

set_option Elab.async false
set_option linter.all false
set_option maxRecDepth 100000
set_option maxHeartbeats 1000000
/-! k25: all things. -/
namespace Tr
open PySem
def thA (du : Nat) : List S := [S.asg (Tg.n 2) (E.call du [E.var 1]), S.asg (Tg.n 3) (E.lst [E.var 2, (E.var 2).slc none none true, E.bi Bi.list [E.var 2], (E.var 2).slc none (some (cI 1)) false, E.bin Bop.add (E.var 2) (E.tup [cI 0]), E.tup [E.con (.str "endless"), E.tup []], E.tup [E.con (.str "ends"), cI 0]]), S.asg (Tg.n 3) (E.bin Bop.add (E.var 3) (E.lst [E.tup [E.con (.str "ends"), E.con (.bool false)], E.tup [E.con (.str "ends"), E.con (.bool true)]])), S.asg (Tg.n 3) (E.bin Bop.add (E.bin Bop.add (E.var 3) ((E.tup [E.con (.str "ends"), E.var 4]).comp (Tg.n 4) (It.rg2 (cI 1) (cI 5)) none [4] false)) (E.lst [E.tup [E.con (.str "Ends"), (E.var 2).idx (cI 1)], E.tup [E.con (.str "endless"), (E.var 2).idx (cI 1)], E.tup [E.con (.str "ends"), (E.var 2).idx (cI 1)]]))]
def thZ : List S := [S.asg (Tg.n 3) (E.bin Bop.add (E.var 3) ((E.tup [E.con (.str "endless"), E.bin Bop.mul (E.tup [E.var 9, E.bin Bop.sub (cI 0) (E.var 9)]) (cI 200)]).comp (Tg.n 9) (It.li (E.tup [(nI 1), cI 1])) none [9] false)), S.asg (Tg.n 3) (E.bin Bop.add (E.var 3) (E.lst [E.con .none, E.tup [], E.con (.str "endless"), cI 7, E.dct [], E.tup [E.con (.str "endless")], E.tup [E.con (.str "ends"), E.con .none], E.tup [E.con (.str "ends"), E.con (.str "0")], E.tup [E.con (.str "ends"), E.tup [cI 0]]])), S.ret (E.bin Bop.add (E.var 3) (E.lst [E.tup [E.con (.str "ends"), (nI 1)]]))]
def lawThingsFn (du dr pk wk : Nat) : Fn := ⟨2, 10, thA du ++ S.for (Tg.n 5) (It.rg1 (cI 6)) (thIn dr pk wk) :: thZ⟩
theorem ever_two (a : Stt) : ∃ z x, everD a = .tuple [.str z, x] ∧ ptB (.str z) = true ∧ ptB x = true := by
  have m1 := runTo_mem 5 a (-1)
  have m2 := runTo_mem 5 a 1
  have l1 := runTo_len 5 a (-1)
  have l2 := runTo_len 5 a 1
  obtain ⟨k1, k2, k3, k4⟩ := st_ok
  have g1 : Stps (runTo 5 a (-1)).1 := fun x hx => Or.inl (m1 x hx)
  have g2 : Stps (runTo 5 a 1).1 := fun x hx => Or.inr (m2 x hx)
  unfold everD
  split
  · split
    · exact ⟨_, _, rfl, k1, pt_w g2 (by omega)⟩
    · exact ⟨_, _, rfl, k1, pt_w g1 (by omega)⟩
  · split
    · exact ⟨_, _, rfl, k1, pt_w g2 (by omega)⟩
    · refine ⟨_, _, rfl, k2, ?_⟩
      have : max (runTo 5 a (-1)).1.length (runTo 5 a 1).1.length ≤ 5 := by omega
      generalize max (runTo 5 a (-1)).1.length (runTo 5 a 1).1.length = n at *
      have : n = 0 ∨ n = 1 ∨ n = 2 ∨ n = 3 ∨ n = 4 ∨ n = 5 := by omega
      rcases this with rfl | rfl | rfl | rfl | rfl | rfl <;> decide +kernel
def lisA (z : Str) (x : D) : List D := [.tuple [.str z, x], .tuple [x, .str z], .list [.str z, x], .tuple [.str z], .tuple [.str z, x, .int 0], .tuple [.str "endless", .tuple []], .tuple [.str "ends", .int 0], .tuple [.str "ends", .bool false], .tuple [.str "ends", .bool true], .tuple [.str "ends", .int 1], .tuple [.str "ends", .int 2], .tuple [.str "ends", .int 3], .tuple [.str "ends", .int 4], .tuple [.str "Ends", x], .tuple [.str "endless", x], .tuple [.str "ends", x]]
theorem lisA_ok {z : Str} {x : D} (h1 : ptB (.str z) = true) (h2 : ptB x = true) : ∀ d ∈ lisA z x, okB d = true := by
  have c1 : ∀ xs : List D, xs.length ≤ 3 → xs.all ptB = true → okB (.tuple xs) = true := fun xs a b => by
    show (decide (xs.length ≤ 3) && xs.all ptB) = true
    rw [decide_eq_true a, b]
    rfl
  have c2 : ∀ xs : List D, xs.length ≤ 3 → xs.all ptB = true → okB (.list xs) = true := fun xs a b => by
    show (decide (xs.length ≤ 3) && xs.all ptB) = true
    rw [decide_eq_true a, b]
    rfl
  obtain ⟨k1, k2, k3, k4⟩ := st_ok
  have i0 : ptB (.int 0) = true := by decide +kernel
  intro d hd
  unfold lisA at hd
  simp only [List.mem_cons, List.not_mem_nil, or_false] at hd
  rcases hd with rfl | rfl | rfl | rfl | rfl | rfl | rfl | rfl | rfl | rfl | rfl | rfl | rfl | rfl | rfl | rfl
  · exact ok_two h1 h2
  · exact ok_two h2 h1
  · exact c2 _ (by simp) (by simp [h1, h2])
  · exact c1 _ (by simp) (by simp [h1])
  · exact c1 _ (by simp) (by simp [h1, h2, i0])
  · decide +kernel
  · decide +kernel
  · decide +kernel
  · decide +kernel
  · decide +kernel
  · decide +kernel
  · decide +kernel
  · decide +kernel
  · exact ok_two k4 h2
  · exact ok_two k1 h2
  · exact ok_two k2 h2
theorem th_a {G : Fs} {du : Nat} (hdu : PLawDue G du) {a : Stt} (ha : IsS a) {z : Str} {x : D} (he : everD a = .tuple [.str z, x]) (y : Vl) :
    Tr.execs G [0] (thA du) [some y, some (.fz (dS a)), none, none, none, none, none, none, none, none] = some (.nx, thF y a (.tuple [.str z, x]) (lisA z x) none none none none none none) := by
  have hne : dueF 5 [(a, [])] 0 ≠ .none := by rw [due_ever ha]; exact everD_ne a
  have e3 := hdu a ha hne
  rw [due_ever ha, he] at e3
  have z0 : okSz 0 = true := by decide
  have z1 : okSz 1 = true := by decide
  have z2 : okSz 2 = true := by decide
  have z3 : okSz 3 = true := by decide
  have z7 : okSz 7 = true := by decide
  have z9 : okSz 9 = true := by decide
  have z13 : okSz 13 = true := by decide
  have z16 : okSz 16 = true := by decide
  have i1 : ∀ p q : D, idxD (.tuple [p, q]) (.int 1) = some q := fun _ _ => rfl
  have bL : ∀ a b : List D, binD .add (.list a) (.list b) = if okSz (a.length + b.length) then some (.ol (a ++ b)) else none := fun _ _ => rfl
  have bT : ∀ a b : List D, binD .add (.tuple a) (.tuple b) = if okSz (a.length + b.length) then some (.fz (.tuple (a ++ b))) else none := fun _ _ => rfl
  have lT : ∀ xs : List D, biD .list [.tuple xs] = some (.ol xs) := fun _ => rfl
  have sT : ∀ xs : List D, slcD true none none (.tuple xs) = some (.fz (.tuple xs.reverse)) := fun _ => rfl
  have c1 : ∀ p q : D, cutL [p, q] none (some 1) = [p] := fun _ _ => rfl
  have ec : ∀ (r0 r1 r2 r3 : Option Vl), ev G ((E.tup [E.con (.str "ends"), E.var 4]).comp (Tg.n 4) (It.rg2 (cI 1) (cI 5)) none [4] false) [r0, r1, r2, r3, none, none, none, none, none, none] = some (.st (.ol (([1, 2, 3, 4] : List Int).map fun i => .tuple [.str "ends", .int i])), [r0, r1, r2, r3, none, none, none, none, none, none]) := fun r0 r1 r2 r3 => by
    refine ev_comp_map ([1, 2, 3, 4] : List Int) .int (fun i => .tuple [.str "ends", .int i]) ?_ (fun n _ => ?_) (by decide)
    · have er : rangeD 1 5 = ([1, 2, 3, 4] : List Int).map PyData.int := rfl
      have s1 : smallI 1 = true := by decide +kernel
      have s5 : smallI 5 = true := by decide +kernel
      simp [s1, s5, er]
    · simp [turn0, wipeF, wipeP, z2]
  simp [thA, thF, lisA, e3, z0, z1, z2, z3, z7, z9, z13, z16, i1, bL, bT, lT, sT, c1, ec]
def lisZ : List D := [.tuple [.str "endless", .tuple (repD 200 [.int (-1), .int 1])], .tuple [.str "endless", .tuple (repD 200 [.int 1, .int (-1)])], .none, .tuple [], .str "endless", .int 7, .dict [], .tuple [.str "endless"], .tuple [.str "ends", .none], .tuple [.str "ends", .str "0"], .tuple [.str "ends", .tuple [.int 0]], .tuple [.str "ends", .int (-1)]]
theorem lisZ_ok : ∀ d ∈ lisZ, okB d = true := by
  have : lisZ.all okB = true := by decide +kernel
  exact List.all_eq_true.mp this
theorem th_z {G : Fs} {a : Stt} {e : D} {L : List D} (hL : L.length < 1000) (y : Vl) (o5 o6 o7 o8 : Option Vl) :
    ∃ g, Tr.execs G [0] thZ (thF y a e L none o5 o6 o7 o8 none) = some (.rt (.ol (L ++ lisZ)), some y :: some (.fz (dS a)) :: g) := by
  have z0 : okSz 0 = true := by decide
  have z1 : okSz 1 = true := by decide
  have z2 : okSz 2 = true := by decide
  have z9 : okSz 9 = true := by decide
  have bL : ∀ a b : List D, binD .add (.list a) (.list b) = if okSz (a.length + b.length) then some (.ol (a ++ b)) else none := fun _ _ => rfl
  have em : ∀ p q : D, binD .mul (.tuple [p, q]) (.int 200) = some (.fz (.tuple (repD 200 [p, q]))) := fun _ _ => rfl
  have s1 : okSz (L.length + 2) = true := okSz_ok (by omega)
  have s2 : okSz (L.length + 2 + 9) = true := okSz_ok (by omega)
  have s3 : okSz (L.length + 2 + 9 + 1) = true := okSz_ok (by omega)
  have ow : ∀ kvs, (Vl.od kvs).own = true := fun _ => rfl
  have st : ∀ kvs, (Vl.od kvs).strip = .dict kvs := fun _ => rfl
  have ec : ∀ (r0 r1 r2 r3 : Option Vl), ev G ((E.tup [E.con (.str "endless"), E.bin Bop.mul (E.tup [E.var 9, E.bin Bop.sub (cI 0) (E.var 9)]) (cI 200)]).comp (Tg.n 9) (It.li (E.tup [(nI 1), cI 1])) none [9] false) [r0, r1, r2, r3, none, o5, o6, o7, o8, none] = some (.st (.ol (([-1, 1] : List Int).map fun i => .tuple [.str "endless", .tuple (repD 200 [.int i, .int (0 - i)])])), [r0, r1, r2, r3, none, o5, o6, o7, o8, none]) := fun r0 r1 r2 r3 => by
    refine ev_comp_map ([-1, 1] : List Int) .int (fun i => .tuple [.str "endless", .tuple (repD 200 [.int i, .int (0 - i)])]) (by simp [z2]) (fun n _ => ?_) (by decide)
    simp [turn0, wipeF, wipeP, z2, em]
  refine ⟨[some (.fz e), some (.ol (L ++ lisZ.take 11)), none, o5, o6, o7, o8, none], ?_⟩
  have el : L ++ lisZ.take 11 = L ++ (([-1, 1] : List Int).map fun i => PyData.tuple [.str "endless", .tuple (repD 200 [.int i, .int (0 - i)])]) ++ [.none, .tuple [], .str "endless", .int 7, .dict [], .tuple [.str "endless"], .tuple [.str "ends", .none], .tuple [.str "ends", .str "0"], .tuple [.str "ends", .tuple [.int 0]]] := by
    rw [List.append_assoc]
    rfl
  have el2 : L ++ lisZ = L ++ lisZ.take 11 ++ [.tuple [.str "ends", .int (-1)]] := by
    rw [List.append_assoc]
    rfl
  rw [el2, el]
  generalize hR : (([-1, 1] : List Int).map fun i => PyData.tuple [.str "endless", .tuple (repD 200 [.int i, .int (0 - i)])]) = R at *
  have hRl : R.length = 2 := by rw [← hR]; rfl
  unfold thF
  generalize dS a = db at *
  simp [thZ, z0, z1, z2, z9, bL, s1, s2, s3, ow, st, ec, hRl]
theorem execs_app {G : Fs} {lk : List Nat} (ys : List S) : ∀ (xs : List S) (fr fr' : Fm), Tr.execs G lk xs fr = some (.nx, fr') → Tr.execs G lk (xs ++ ys) fr = Tr.execs G lk ys fr'
  | [], fr, fr', h => by
    rw [execs_nil] at h
    cases h
    rfl
  | x :: xs, fr, fr', h => by
    rw [execs_cons] at h
    show Tr.execs G lk (x :: (xs ++ ys)) fr = _
    rw [execs_cons]
    cases he : Tr.exec G lk x fr with
    | none => rw [he] at h; cases h
    | some r =>
      rw [he] at h
      obtain ⟨sg, fr1⟩ := r
      cases sg with
      | nx => exact execs_app ys xs fr1 fr' h
      | rt v => cases h
def PThings (G : Fs) (f : Nat) : Prop := ∀ (x : Vl) (a : Stt), IsPen x → IsS a → ∃ (L : List D) (x' : Vl), G f [x, .fz (dS a)] = some (.ol L, [x', .fz (dS a)]) ∧ IsPen x' ∧ (∀ d ∈ L, okB d = true) ∧ L.length ≤ 100
theorem things_run {G : Fs} {du dr pk wk : Nat} (hdu : PLawDue G du) (hd : PDraw G dr) (hp : PPick G pk) (hw : PWalk G wk) {x : Vl} {a : Stt} (hx : IsPen x) (ha : IsS a) : ∃ (L : List D) (x' : Vl), runF G (lawThingsFn du dr pk wk) [x, .fz (dS a)] = some (.ol L, [x', .fz (dS a)]) ∧ IsPen x' ∧ (∀ d ∈ L, okB d = true) ∧ L.length ≤ 100 := by
  obtain ⟨z, u, he, k1, k2⟩ := ever_two a
  have e1 := th_a (G := G) hdu ha he x
  let I : Nat → Fm → Prop := fun k fr => ∃ (y : Vl) (L : List D) (o5 o6 o7 o8 : Option Vl), fr = thF y a (.tuple [.str z, u]) L none o5 o6 o7 o8 none ∧ IsPen y ∧ (∀ d ∈ L, okB d = true) ∧ L.length = 16 + 6 * k
  have loop : ∃ g', forN (turnF G [0] (Tg.n 5) (thIn dr pk wk)) (rangeD 0 6) (thF x a (.tuple [.str z, u]) (lisA z u) none none none none none none) = some (.nx, g') ∧ I (0 + (rangeD 0 6).length) g' := by
    refine forN_ix (k := 0) I ⟨x, lisA z u, none, none, none, none, rfl, hx, lisA_ok k1 k2, rfl⟩ ?_
    rintro i d g hi ⟨y, L, o5, o6, o7, o8, rfl, hy, hL, hl⟩
    have hil : i < 6 := by
      have := (List.getElem?_eq_some_iff.mp hi).1
      rw [rangeD_length] at this
      exact this
    obtain ⟨x', M, a5, a6, a7, a8, e, hx', hm, hM⟩ := th_in hd hp hw hy ha (e := .tuple [.str z, u]) (L := L) (by omega) none o5 o6 o7 o8 none d
    refine ⟨_, e, x', L ++ M, a5, a6, a7, a8, rfl, hx', fun q hq => ?_, by rw [List.length_append]; omega⟩
    rcases List.mem_append.mp hq with hq | hq
    · exact hL q hq
    · exact hM q hq
  obtain ⟨g', el, y, L, o5, o6, o7, o8, rfl, hy, hL, hl⟩ := loop
  rw [rangeD_length] at hl
  have hl' : L.length = 52 := by
    have : (6 : Int).toNat = 6 := rfl
    rw [this] at hl
    omega
  obtain ⟨g, e2⟩ := th_z (G := G) (a := a) (e := .tuple [.str z, u]) (L := L) (by omega) y o5 o6 o7 o8
  refine ⟨L ++ lisZ, y, ?_, hy, fun q hq => ?_, by rw [List.length_append, hl']; decide⟩
  · have ef : Tr.exec G [0] (S.for (Tg.n 5) (It.rg1 (cI 6)) (thIn dr pk wk)) (thF x a (.tuple [.str z, u]) (lisA z u) none none none none none none) = some (.nx, thF y a (.tuple [.str z, u]) L none o5 o6 o7 o8 none) := by
      rw [exec_for]
      have ei : its G (It.rg1 (cI 6)) (thF x a (.tuple [.str z, u]) (lisA z u) none none none none none none) = some (rangeD 0 6, thF x a (.tuple [.str z, u]) (lisA z u) none none none none none none) := its_rg1_of (by simp) (by decide +kernel)
      rw [ei]
      exact el
    have ew : Tr.execs G [0] (lawThingsFn du dr pk wk).body [some x, some (.fz (dS a)), none, none, none, none, none, none, none, none] = some (.rt (.ol (L ++ lisZ)), some y :: some (.fz (dS a)) :: g) := by
      show Tr.execs G [0] (thA du ++ S.for (Tg.n 5) (It.rg1 (cI 6)) (thIn dr pk wk) :: thZ) _ = _
      rw [execs_app _ _ _ _ e1, execs_cons, ef]
      exact e2
    obtain ⟨a0, b0, c0, rfl, -, -⟩ := id hx
    obtain ⟨a1, b1, c1, rfl, -, -⟩ := id hy
    have eo : ownIx 0 [Vl.ol [.int a0, .int b0, .int c0], .fz (dS a)] = [0] := rfl
    unfold runF
    rw [eo]
    show (if _ then (Tr.execs G [0] (lawThingsFn du dr pk wk).body [some (Vl.ol [.int a0, .int b0, .int c0]), some (.fz (dS a)), none, none, none, none, none, none, none, none]).bind _ else none) = _
    rw [ew]
    refine (if_pos ?_).trans ?_
    · rfl
    · simp [finals]
  · rcases List.mem_append.mp hq with hq | hq
    · exact hL q hq
    · exact lisZ_ok q hq
end Tr

set_option Elab.async false
set_option linter.all false
set_option maxRecDepth 100000
set_option maxHeartbeats 1000000
/-! k25: the law's turn. -/
namespace Tr
open PySem
def law25C (rt sm sh : Nat) : List S := [S.par [6, 7] [E.bi Bi.repr [E.tup [E.var 4, E.var 5]], E.call rt [E.var 4, E.var 5]], S.iff (E.call sm [E.lst [E.call sh [E.var 4, E.var 5], E.call sh [E.var 4, E.var 5]], E.lst [E.var 7, E.var 7]]).not [S.ret (E.con (.bool false))] [], S.iff (E.cmp Cop.ne (E.bi Bi.repr [E.tup [E.var 4, E.var 5]]) (E.var 6)) [S.ret (E.con (.bool false))] []]
def law25In (wk st th od rt sm sh : Nat) : List S := [S.asg (Tg.n 4) ((E.call wk [E.var 2, E.call st [E.var 2, cI 5, (E.lst [cI 5, cI 2, cI 3]).idx (E.var 3)], (E.lst [cI 0, cI 6, cI 4]).idx (E.var 3)]).idx (cI 1)), S.for (Tg.n 5) (It.li (E.bin Bop.add (E.call th [E.var 2, E.var 4]) (E.lst [E.call od [E.var 2]]))) (law25C rt sm sh)]
def law25Fn (ce pe wk st th od rt sm sh : Nat) : Fn := ⟨1, 8, [S.for (Tg.n 1) (It.li (E.bin Bop.add (E.lst [E.call ce [E.var 0, cI 0]]) ((E.var 0).slc (some (cI 1)) (some (cI 4)) false))) [S.asg (Tg.n 2) (E.call pe [E.var 1]), S.for (Tg.n 3) (It.rg1 (cI 3)) (law25In wk st th od rt sm sh)], S.ret (E.con (.bool true))]⟩
theorem bools_show (b : Bool) : okShow (.list [.bool b, .bool b]) = true := by
  cases b <;> exact okShow_of rfl (by decide) (by decide)
theorem law25_c {G : Fs} {rt sm sh : Nat} (hrt : PRight25 G rt) (hsm : PSameL G sm) (hsh : PShowsEver G sh) {a : Stt} (ha : IsS a) (hH : Hi a.2 1000000) {d : D} (hd : okB d = true) (r0 r1 r2 r3 o5 o6 o7 : Option Vl) :
    ∃ a6 a7, turnF G [] (Tg.n 5) (law25C rt sm sh) d [r0, r1, r2, r3, some (.fz (dS a)), o5, o6, o7] = some (.nx, [r0, r1, r2, r3, some (.fz (dS a)), some (.fz d), a6, a7]) := by
  have e1 := hrt a d ha (ok_thg hd)
  have e2 := hsh a d ha (ok_thg hd).few
  have e3 := hsm _ (bools_show (showsB a d))
  have w1 := ok_show ha hH hd
  have z2 : okSz 2 = true := by decide
  have e9 : ∀ x : Str, cmpD .ne (.str x) (.str x) = some false := by
    intro x
    show some (!decide (x = x)) = _
    simp
  refine ⟨some (.fz (.str (PyData.tuple [dS a, d]).shown)), some (.fz (.bool (showsB a d))), ?_⟩
  generalize showsB a d = b at *
  generalize hs : (PyData.tuple [dS a, d]).shown = s at *
  generalize dS a = db at *
  simp [turnF, law25C, e1, e2, e3, w1, z2, e9, hs]
theorem law25_loop {G : Fs} {rt sm sh : Nat} (hrt : PRight25 G rt) (hsm : PSameL G sm) (hsh : PShowsEver G sh) {a : Stt} (ha : IsS a) (hH : Hi a.2 1000000) : ∀ (L : List D), (∀ d ∈ L, okB d = true) → ∀ (r0 r1 r2 r3 o5 o6 o7 : Option Vl),
    ∃ a5 a6 a7, forN (turnF G [] (Tg.n 5) (law25C rt sm sh)) L [r0, r1, r2, r3, some (.fz (dS a)), o5, o6, o7] = some (.nx, [r0, r1, r2, r3, some (.fz (dS a)), a5, a6, a7])
  | [], _, r0, r1, r2, r3, o5, o6, o7 => ⟨o5, o6, o7, rfl⟩
  | d :: L, h, r0, r1, r2, r3, o5, o6, o7 => by
    obtain ⟨a6, a7, e⟩ := law25_c (G := G) hrt hsm hsh ha hH (h d List.mem_cons_self) r0 r1 r2 r3 o5 o6 o7
    obtain ⟨b5, b6, b7, e2⟩ := law25_loop hrt hsm hsh ha hH L (fun q hq => h q (List.mem_cons_of_mem _ hq)) r0 r1 r2 r3 (some (.fz d)) a6 a7
    refine ⟨b5, b6, b7, ?_⟩
    unfold forN
    rw [e]
    exact e2
theorem law25_in {G : Fs} {wk st th od rt sm sh : Nat} (hst : PStandDraw G st) (hw : PWalk G wk) (hth : PThings G th) (hod : POdd G od) (hrt : PRight25 G rt) (hsm : PSameL G sm) (hsh : PShowsEver G sh) (ns : List Int) (j : Int) (y : Vl) (o1 o3 : Option Vl) (rest : Fm) (hy : IsPen y) (j0 : 0 ≤ j) (j1 : j < 3) (hrest : rest.length = 4) :
    ∃ (y' : Vl) (o3' : Option Vl) (rest' : Fm), turnF G [] (Tg.n 3) (law25In wk st th od rt sm sh) (.int j) (some (.scr ns) :: o1 :: some y :: o3 :: rest) = some (.nx, some (.scr ns) :: o1 :: some y' :: o3' :: rest') ∧ IsPen y' ∧ rest'.length = 4 := by
  obtain ⟨o4, r4, rfl, h4⟩ := lenc (n := 3) hrest
  obtain ⟨o5, r5, rfl, h5⟩ := lenc (n := 2) h4
  obtain ⟨o6, r6, rfl, h6⟩ := lenc (n := 1) h5
  obtain ⟨o7, r7, rfl, h7⟩ := lenc (n := 0) h6
  obtain rfl := List.length_eq_zero_iff.mp h7
  obtain ⟨hi, mo, eh, em, hi0, hi1, mo0, mo1⟩ : ∃ hi mo : Int, idxD (.list [.int 5, .int 2, .int 3]) (.int j) = some (.int hi) ∧ idxD (.list [.int 0, .int 6, .int 4]) (.int j) = some (.int mo) ∧ 0 ≤ hi ∧ hi ≤ 5 ∧ 0 ≤ mo ∧ mo ≤ 6 := by
    have : j = 0 ∨ j = 1 ∨ j = 2 := by omega
    rcases this with rfl | rfl | rfl
    · exact ⟨5, 0, rfl, rfl, by decide, by decide, by decide, by decide⟩
    · exact ⟨2, 6, rfl, rfl, by decide, by decide, by decide, by decide⟩
    · exact ⟨3, 4, rfl, rfl, by decide, by decide, by decide, by decide⟩
  obtain ⟨p, hs, y1, e1, h, hh, -, hy1⟩ := hst y 5 hi hy (by decide) (by decide) hi0 (by omega)
  obtain ⟨ws, y2, e2, hws, hwl, hy2⟩ := hw y1 p hs mo hy1 h mo0 (by omega)
  have ha : IsS (wEnd p hs ws) := walk_end h hws
  have hH : Hi (wEnd p hs ws).2 (hi + ws.length) := walk_hi h hws hh
  have rS : sD (wEnd p hs ws).1 (wEnd p hs ws).2 = dS (wEnd p hs ws) := rfl
  rw [rS] at e2
  generalize wEnd p hs ws = a at *
  have hH2 : Hi a.2 1000000 := fun x hx => by have := hH x hx; omega
  obtain ⟨L, y3, e3, hy3, hL, hLl⟩ := hth y2 a hy2 ha
  obtain ⟨d, y4, e4, hd, hy4⟩ := hod y3 hy3
  have hL2 : ∀ q ∈ L ++ [d], okB q = true := fun q hq => by
    rcases List.mem_append.mp hq with hq | hq
    · exact hL q hq
    · rw [List.mem_singleton.mp hq]
      exact odd_ok d hd
  obtain ⟨b5, b6, b7, e5⟩ := law25_loop (G := G) hrt hsm hsh ha hH2 (L ++ [d]) hL2 (some (.scr ns)) o1 (some y4) (some (.fz (.int j))) o5 o6 o7
  obtain ⟨a0, b0, c0, rfl, -, -⟩ := id hy
  obtain ⟨a1, b1, c1, rfl, -, -⟩ := id hy1
  obtain ⟨a2, b2, c2, rfl, -, -⟩ := id hy2
  obtain ⟨a3, b3, c3, rfl, -, -⟩ := id hy3
  obtain ⟨a4, b4, c4, rfl, -, -⟩ := id hy4
  have z1 : okSz 1 = true := by decide
  have z3 : okSz 3 = true := by decide
  have zL : okSz (L.length + 1) = true := okSz_ok (by omega)
  have bL : ∀ a b : List D, binD .add (.list a) (.list b) = if okSz (a.length + b.length) then some (.ol (a ++ b)) else none := fun _ _ => rfl
  have i1 : ∀ p q : D, idxD (.tuple [p, q]) (.int 1) = some q := fun _ _ => rfl
  refine ⟨.ol [.int a4, .int b4, .int c4], some (.fz (.int j)), [some (.fz (dS a)), b5, b6, b7], ?_, hy4, rfl⟩
  generalize hbo : law25C rt sm sh = body at *
  generalize dS a = da at *
  generalize sD p hs = db at *
  generalize tI' ws = dw at *
  simp [turnF, law25In, hbo, e1, e2, e3, e4, e5, eh, em, z1, z3, zL, bL, i1]
theorem law25_run {G : Fs} {ce pe wk st th od rt sm sh : Nat} (hce : PCell G ce) (hpe : PPen G pe) (hst : PStandDraw G st) (hw : PWalk G wk) (hth : PThings G th) (hod : POdd G od) (hrt : PRight25 G rt) (hsm : PSameL G sm) (hsh : PShowsEver G sh) (ns : List Int) : ∃ ps, runF G (law25Fn ce pe wk st th od rt sm sh) [.scr ns] = some (.fz (.bool true), ps) :=
  outer2_run hce hpe ns (N := 4) (M := 3) (m := 4) (by decide) (by decide) fun j y o1 o3 rest hy j0 j1 hr => law25_in hst hw hth hod hrt hsm hsh ns j y o1 o3 rest hy j0 j1 hr
end Tr

set_option Elab.async false
set_option linter.all false
set_option maxRecDepth 100000
set_option maxHeartbeats 1000000
/-! From the head's facts to the defs' promises. -/
namespace Tr
open PySem PySem.Spec PyProof.Rows L2
/-- what the head knows of a def -/
def DfFact (K : PySem.W.Frag) (nm : Str) (st : Stmt) : Prop := ∃ (fa : Addr) (oc : Value) (od : Option Addr) (osl : Array (Option Value)) (kV doc pm : Value) (an : Option Addr) (cdv ct : Value),
  PySem.W.nsIn K mainGlobals nm = some (some (.ref fa)) ∧ K.lookup fa = some ⟨oc, od, .func (PySem.W.fnOf nm nm (defArgs st) (defBody st) (defScope st) .none kV doc pm an cdv ct), osl⟩ ∧ PySem.W.codeIn K cdv nm = true ∧ PySem.W.keepIn K (.ref fa) = true
theorem df_fact {K : PySem.W.Frag} {nm : Str} {st : Stmt} {fa : Addr} {oc : Value} {od : Option Addr} {osl : Array (Option Value)} {kV doc pm : Value} {an : Option Addr} {cdv ct : Value}
  (a : PySem.W.nsIn K mainGlobals nm = some (some (.ref fa))) (l : K.lookup fa = some ⟨oc, od, .func (PySem.W.fnOf nm nm (defArgs st) (defBody st) (defScope st) .none kV doc pm an cdv ct), osl⟩) (c : PySem.W.codeIn K cdv nm = true) (k : PySem.W.keepIn K (.ref fa) = true) : DfFact K nm st := ⟨fa, oc, od, osl, kV, doc, pm, an, cdv, ct, a, l, c, k⟩
/-- what the text alone says of a def -/
structure DfSt (d : Df) : Prop where
  sc : FnScope d.N d.ps (defScope d.st)
  bd : ∀ (kV doc pm : Value) (an : Option Addr) (cdv ct : Value) (us : List Value), us.length = d.ps.length → bindArgs (PySem.W.fnOf d.nm d.nm (defArgs d.st) (defBody d.st) (defScope d.st) .none kV doc pm an cdv ct) ⟨us, []⟩ = pure (d.ps.zip us)
def ConFact (mg : Str → Option Value) (K : PySem.W.Frag) (x : Str) (d : D) : Prop := ∃ u v, mg x = some u ∧ RelV v u ∧ ∀ F H, RelD K F H v d
theorem con_int {K : PySem.W.Frag} {mg : Str → Option Value} {x : Str} {n : Int} {t : Tok} (a : mg x = some (.int n t)) : ConFact mg K x (.int n) := ⟨_, .int n, a, ⟨t, rfl⟩, fun _ _ => .int n⟩
theorem con_str {K : PySem.W.Frag} {mg : Str → Option Value} {x : Str} {n : Str} {t : Tok} (a : mg x = some (.str n t)) : ConFact mg K x (.str n) := ⟨_, .str n, a, ⟨t, rfl⟩, fun _ _ => .str n⟩
theorem con_tup2 {K : PySem.W.Frag} {mg : Str → Option Value} {x : Str} {m n : Int} {t t2 : Tok} {r : Addr} {dd : Option Addr} {k : Nat} {sl : Array (Option Value)} (a : mg x = some (.ref r)) (l : K.lookup r = some ⟨.type "tuple", dd, .seq #[.int m t, .int n t2] k, sl⟩) : ConFact mg K x (.tuple [.int m, .int n]) := by
  refine ⟨_, .ref r, a, rfl, fun F H => .tup (xs := [.int m, .int n]) (.inr (.inr ⟨_, _, _, l, rfl, rfl, by show 2 ≤ sizeLine; decide, .cons ⟨t, rfl⟩ (.cons ⟨t2, rfl⟩ .nil)⟩)) (.cons (.int m) (.cons (.int n) .nil))⟩
theorem df_ok {K : PySem.W.Frag} {h : Heap} {mg : Str → Option Value} {d : Df} (kx : K.In h) (g : h.Ns mainGlobals mg) (s : DfSt d) (f : DfFact K d.nm d.st) : ∃ fa fd, DfOk K mg d fa fd := by
  obtain ⟨fa, oc, od, osl, kV, doc, pm, an, cdv, ct, a, l, c, k⟩ := f
  have F := fun_mk l c k
  exact ⟨fa, _, PySem.W.mg_of kx g a, F, F.binds s.bd, s.sc⟩
theorem env_of {K : PySem.W.Frag} {h : Heap} {mg : Str → Option Value} {T : Tb} {ds : List Df} (kx : K.In h) (g : h.Ns mainGlobals mg) (hn : T.fs = ds.map Df.nm) (s : ∀ d ∈ ds, DfSt d) (f : ∀ d ∈ ds, DfFact K d.nm d.st)
    (kw : ∀ p ∈ T.kw, ∃ f d, posOf p.1.1 T.fs = some f ∧ ds[f]? = some d ∧ d.nm = p.1.1 ∧ KwSt d p.1.2 p.2) (b : ∀ x ∈ bNames, PySem.W.nsIn K mainGlobals x = some none) (c : ∀ p ∈ T.cs, ConFact mg K p.1 p.2) : Env1 K mg T ds where
  names := hn
  fns := fun i d hd => df_ok kx g (s d (List.mem_of_getElem? hd)) (f d (List.mem_of_getElem? hd))
  kws := fun x ks perm hx => kw _ hx
  bis := fun x hx => PySem.W.mg_none_of kx g (b x hx)
  cons := fun x d hx => c (x, d) (PySem.mem_of_lookup hx)
theorem walkT {l : PySem.W.OpenLaw} {n k : Nat} {q : Program} {loose : List Str} {XP : (Str → Option Value) → Heap → Prop} {YP : World → Heap → Prop} {d : DefRec} {K : Params → PySem.W.Frag} {T : Tb} {ds : List Df} {f : Nat} {df : Df} {x : Str}
    (hn : l.most = some n) (hn2 : n ≤ sizeLine) (hdf : d.params.defaults = []) (hr : Room k callerA) (hY : ∀ (w : World) (h : Heap), YP w h → (K w.params).In h)
    (hd : ds[f]? = some df) (hnm : df.nm = d.name) (hps : df.ps = [x])
    (hb : ∀ (kV doc pm : Value) (an : Option Addr) (cdv ct u : Value), bindArgs (PySem.W.fnOf df.nm df.nm (defArgs df.st) (defBody df.st) (defScope df.st) .none kV doc pm an cdv ct) ⟨[u], []⟩ = pure [(x, u)])
    (hrun : ∀ ns : List Int, ns.length ≤ n → (∀ z ∈ ns, Builtin.Int.intBits z ≤ 1048576) → ∃ ps, callN (prgOf T ds) k f [.scr ns] = some (.fz (.bool true), ps))
    (F : ∀ (w : World) (mg : Str → Option Value) (h : Heap), (K w.params).In h → h.Ns mainGlobals mg → Env1 (K w.params) mg T ds) :
    PySem.W.WalkO q loose XP YP l.row.toRowW d [] (fun f vs => PySem.call f vs) := by
  refine walkG (n := n) (k := k) (x := x) (K := K) (sp := fun w => spOf (K w.params) (callN (prgOf T ds) k f)) hn hn2 hdf hr hY (fun w mg fa h kx g hmg => ?_) fun w H a ns h1 h2 hs => ?_
  · have E := F w mg h kx g
    obtain ⟨fa', fd, ok⟩ := E.fns f df hd
    have e := ok.mg
    rw [hnm, hmg] at e
    cases e
    refine ⟨fd, fun s u => ?_, fun base _ _ => ?_⟩
    · obtain ⟨oc, od, kV, doc, pm, an, cdv, ct, osl, rfl, _, _⟩ := ok.fn.ex
      exact .of_eq (hb kV doc pm an cdv ct u)
    · have := fn_depth (P := l.prog) (w := w) (base := base) E k f df fa fd hd ok
      rw [hps] at this
      exact this
  · obtain ⟨ps, e⟩ := hrun ns h1 h2
    exact law_true (F := fun _ => False) hs e
end Tr

set_option Elab.async false
set_option linter.all false
set_option maxRecDepth 1000000
set_option maxHeartbeats 4000000
namespace Lawk25
open PySem L2 Tr
abbrev top (i : Nat) : Stmt := PySem.Challenge.pw_treadrise_k25_ever_shown.main.body.getD i (.Pass ⟨0, 0, 0, 0⟩)
def df0 : Df := ⟨"is_whole", top 9, ["thing"], ["thing"]⟩
def df1 : Df := ⟨"is_within", top 10, ["thing", "least", "most"], ["thing", "least", "most"]⟩
def df2 : Df := ⟨"is_long", top 11, ["thing", "least", "most"], ["thing", "least", "most"]⟩
def df3 : Df := ⟨"are_counts", top 12, ["thing", "one"], ["thing"]⟩
def df4 : Df := ⟨"is_stand", top 13, ["thing"], ["thing"]⟩
def df5 : Df := ⟨"need_stand", top 14, ["thing"], ["thing"]⟩
def df6 : Df := ⟨"is_step", top 15, ["thing"], ["thing"]⟩
def df7 : Df := ⟨"is_let", top 16, ["stand", "step", "place", "heights", "there"], ["stand", "step"]⟩
def df8 : Df := ⟨"raised", top 17, ["heights", "place"], ["heights", "place"]⟩
def df9 : Df := ⟨"step_by", top 18, ["stand", "step", "place", "heights"], ["stand", "step"]⟩
def df10 : Df := ⟨"is_walk", top 20, ["thing", "one"], ["thing"]⟩
def df11 : Df := ⟨"bar_by", top 21, ["stand", "walk", "at", "step"], ["stand", "walk"]⟩
def df12 : Df := ⟨"behind_by", top 22, ["stand", "walk", "step"], ["stand", "walk"]⟩
def df13 : Df := ⟨"goes_down", top 26, ["stand", "step", "place", "heights"], ["stand", "step"]⟩
def df14 : Df := ⟨"run_to", top 27, ["stand", "side", "walk"], ["stand", "side"]⟩
def df15 : Df := ⟨"ever_by", top 28, ["stand", "runs", "side", "good", "walk", "is_good"], ["stand"]⟩
def df16 : Df := ⟨"shows_ever", top 29, ["stand", "thing", "walk", "word", "many"], ["stand", "thing"]⟩
def df17 : Df := ⟨"_law_cell_at", top 31, ["_law_script", "_law_k"], ["_law_script", "_law_k"]⟩
def df18 : Df := ⟨"_law_pen", top 32, ["_law_cell"], ["_law_cell"]⟩
def df19 : Df := ⟨"_law_draw", top 33, ["_law_pen_here", "_law_many", "_law_found", "_law_mixed"], ["_law_pen_here", "_law_many"]⟩
def df20 : Df := ⟨"_law_pick", top 34, ["_law_pen_here", "_law_some"], ["_law_pen_here", "_law_some"]⟩
def df21 : Df := ⟨"_law_same", top 35, ["_law_found", "_law_due_here"], ["_law_found", "_law_due_here"]⟩
def df22 : Df := ⟨"_law_stand", top 36, ["_law_pen_here", "_law_most", "_law_high", "_law_many", "_law_here", "_law_heights", "_law_lap", "_law_near"], ["_law_pen_here", "_law_most", "_law_high"]⟩
def df23 : Df := ⟨"_law_let", top 37, ["_law_stand_here", "_law_step_here", "_law_place", "_law_heights"], ["_law_stand_here", "_law_step_here"]⟩
def df24 : Df := ⟨"_law_step", top 38, ["_law_stand_here", "_law_step_here", "_law_place", "_law_heights", "_law_at", "_law_one"], ["_law_stand_here", "_law_step_here"]⟩
def df25 : Df := ⟨"_law_steps", top 39, ["_law_stand_here", "_law_step_here"], ["_law_stand_here"]⟩
def df26 : Df := ⟨"_law_walk", top 40, ["_law_pen_here", "_law_stand_here", "_law_most", "_law_found", "_law_lap", "_law_some", "_law_step_here"], ["_law_pen_here", "_law_stand_here", "_law_most"]⟩
def df27 : Df := ⟨"_law_bar", top 41, ["_law_stand_here", "_law_walk_here", "_law_at", "_law_step_here"], ["_law_stand_here", "_law_walk_here"]⟩
def df28 : Df := ⟨"_law_odd", top 42, ["_law_pen_here", "_law_some"], ["_law_pen_here"]⟩
def df29 : Df := ⟨"_law_down", top 43, ["_law_stand_here", "_law_step_here", "_law_place", "_law_heights"], ["_law_stand_here", "_law_step_here"]⟩
def df30 : Df := ⟨"_law_due", top 44, ["_law_stand_here", "_law_layer", "_law_many", "_law_good", "_law_later", "_law_here", "_law_walk_here", "_law_step_here"], ["_law_stand_here"]⟩
def df31 : Df := ⟨"_law_right", top 45, ["_law_stand_here", "_law_thing", "_law_due_here", "_law_step_here", "_law_bar_here", "_law_there"], ["_law_stand_here", "_law_thing"]⟩
def df32 : Df := ⟨"_law_things", top 46, ["_law_pen_here", "_law_stand_here", "_law_due_here", "_law_found", "_law_many", "_law_lap", "_law_walk_here", "_law_at", "_law_odd_here", "_law_step_here"], ["_law_pen_here", "_law_stand_here"]⟩
def df33 : Df := ⟨"law", top 47, ["_law_script", "_law_cell", "_law_pen_here", "_law_lap", "_law_stand_here", "_law_thing", "_law_kept", "_law_due_here"], ["_law_script"]⟩
def dfs : List Df := [df0, df1, df2, df3, df4, df5, df6, df7, df8, df9, df10, df11, df12, df13, df14, df15, df16, df17, df18, df19, df20, df21, df22, df23, df24, df25, df26, df27, df28, df29, df30, df31, df32, df33]
def tab : Tb := ⟨[("is_whole" : Str), ("is_within" : Str), ("is_long" : Str), ("are_counts" : Str), ("is_stand" : Str), ("need_stand" : Str), ("is_step" : Str), ("is_let" : Str), ("raised" : Str), ("step_by" : Str), ("is_walk" : Str), ("bar_by" : Str), ("behind_by" : Str), ("goes_down" : Str), ("run_to" : Str), ("ever_by" : Str), ("shows_ever" : Str), ("_law_cell_at" : Str), ("_law_pen" : Str), ("_law_draw" : Str), ("_law_pick" : Str), ("_law_same" : Str), ("_law_stand" : Str), ("_law_let" : Str), ("_law_step" : Str), ("_law_steps" : Str), ("_law_walk" : Str), ("_law_bar" : Str), ("_law_odd" : Str), ("_law_down" : Str), ("_law_due" : Str), ("_law_right" : Str), ("_law_things" : Str), ("law" : Str)], [("FEWEST_PLACES", (.int (2))), ("MOST_PLACES", (.int (5))), ("LEFT", (.int (-1))), ("RIGHT", (.int (1))), ("STEPS", (.tuple [(.int (-1)), (.int (1))])), ("ENDLESS", (.str "endless")), ("ENDS", (.str "ends"))], []⟩
theorem ds0 : DfSt df0 := ⟨⟨rfl, rfl, rfl, by decide +kernel, rfl, by decide +kernel, by decide +kernel⟩, fun _ _ _ _ _ _ us hl => match us, hl with | [_], _ => rfl⟩
theorem ds1 : DfSt df1 := ⟨⟨rfl, rfl, rfl, by decide +kernel, rfl, by decide +kernel, by decide +kernel⟩, fun _ _ _ _ _ _ us hl => match us, hl with | [_, _, _], _ => rfl⟩
theorem ds2 : DfSt df2 := ⟨⟨rfl, rfl, rfl, by decide +kernel, rfl, by decide +kernel, by decide +kernel⟩, fun _ _ _ _ _ _ us hl => match us, hl with | [_, _, _], _ => rfl⟩
theorem ds3 : DfSt df3 := ⟨⟨rfl, rfl, rfl, by decide +kernel, rfl, by decide +kernel, by decide +kernel⟩, fun _ _ _ _ _ _ us hl => match us, hl with | [_], _ => rfl⟩
theorem ds4 : DfSt df4 := ⟨⟨rfl, rfl, rfl, by decide +kernel, rfl, by decide +kernel, by decide +kernel⟩, fun _ _ _ _ _ _ us hl => match us, hl with | [_], _ => rfl⟩
theorem ds5 : DfSt df5 := ⟨⟨rfl, rfl, rfl, by decide +kernel, rfl, by decide +kernel, by decide +kernel⟩, fun _ _ _ _ _ _ us hl => match us, hl with | [_], _ => rfl⟩
theorem ds6 : DfSt df6 := ⟨⟨rfl, rfl, rfl, by decide +kernel, rfl, by decide +kernel, by decide +kernel⟩, fun _ _ _ _ _ _ us hl => match us, hl with | [_], _ => rfl⟩
theorem ds7 : DfSt df7 := ⟨⟨rfl, rfl, rfl, by decide +kernel, rfl, by decide +kernel, by decide +kernel⟩, fun _ _ _ _ _ _ us hl => match us, hl with | [_, _], _ => rfl⟩
theorem ds8 : DfSt df8 := ⟨⟨rfl, rfl, rfl, by decide +kernel, rfl, by decide +kernel, by decide +kernel⟩, fun _ _ _ _ _ _ us hl => match us, hl with | [_, _], _ => rfl⟩
theorem ds9 : DfSt df9 := ⟨⟨rfl, rfl, rfl, by decide +kernel, rfl, by decide +kernel, by decide +kernel⟩, fun _ _ _ _ _ _ us hl => match us, hl with | [_, _], _ => rfl⟩
theorem ds10 : DfSt df10 := ⟨⟨rfl, rfl, rfl, by decide +kernel, rfl, by decide +kernel, by decide +kernel⟩, fun _ _ _ _ _ _ us hl => match us, hl with | [_], _ => rfl⟩
theorem ds11 : DfSt df11 := ⟨⟨rfl, rfl, rfl, by decide +kernel, rfl, by decide +kernel, by decide +kernel⟩, fun _ _ _ _ _ _ us hl => match us, hl with | [_, _], _ => rfl⟩
theorem ds12 : DfSt df12 := ⟨⟨rfl, rfl, rfl, by decide +kernel, rfl, by decide +kernel, by decide +kernel⟩, fun _ _ _ _ _ _ us hl => match us, hl with | [_, _], _ => rfl⟩
theorem ds13 : DfSt df13 := ⟨⟨rfl, rfl, rfl, by decide +kernel, rfl, by decide +kernel, by decide +kernel⟩, fun _ _ _ _ _ _ us hl => match us, hl with | [_, _], _ => rfl⟩
theorem ds14 : DfSt df14 := ⟨⟨rfl, rfl, rfl, by decide +kernel, rfl, by decide +kernel, by decide +kernel⟩, fun _ _ _ _ _ _ us hl => match us, hl with | [_, _], _ => rfl⟩
theorem ds15 : DfSt df15 := ⟨⟨rfl, rfl, rfl, by decide +kernel, rfl, by decide +kernel, by decide +kernel⟩, fun _ _ _ _ _ _ us hl => match us, hl with | [_], _ => rfl⟩
theorem ds16 : DfSt df16 := ⟨⟨rfl, rfl, rfl, by decide +kernel, rfl, by decide +kernel, by decide +kernel⟩, fun _ _ _ _ _ _ us hl => match us, hl with | [_, _], _ => rfl⟩
theorem ds17 : DfSt df17 := ⟨⟨rfl, rfl, rfl, by decide +kernel, rfl, by decide +kernel, by decide +kernel⟩, fun _ _ _ _ _ _ us hl => match us, hl with | [_, _], _ => rfl⟩
theorem ds18 : DfSt df18 := ⟨⟨rfl, rfl, rfl, by decide +kernel, rfl, by decide +kernel, by decide +kernel⟩, fun _ _ _ _ _ _ us hl => match us, hl with | [_], _ => rfl⟩
theorem ds19 : DfSt df19 := ⟨⟨rfl, rfl, rfl, by decide +kernel, rfl, by decide +kernel, by decide +kernel⟩, fun _ _ _ _ _ _ us hl => match us, hl with | [_, _], _ => rfl⟩
theorem ds20 : DfSt df20 := ⟨⟨rfl, rfl, rfl, by decide +kernel, rfl, by decide +kernel, by decide +kernel⟩, fun _ _ _ _ _ _ us hl => match us, hl with | [_, _], _ => rfl⟩
theorem ds21 : DfSt df21 := ⟨⟨rfl, rfl, rfl, by decide +kernel, rfl, by decide +kernel, by decide +kernel⟩, fun _ _ _ _ _ _ us hl => match us, hl with | [_, _], _ => rfl⟩
theorem ds22 : DfSt df22 := ⟨⟨rfl, rfl, rfl, by decide +kernel, rfl, by decide +kernel, by decide +kernel⟩, fun _ _ _ _ _ _ us hl => match us, hl with | [_, _, _], _ => rfl⟩
theorem ds23 : DfSt df23 := ⟨⟨rfl, rfl, rfl, by decide +kernel, rfl, by decide +kernel, by decide +kernel⟩, fun _ _ _ _ _ _ us hl => match us, hl with | [_, _], _ => rfl⟩
theorem ds24 : DfSt df24 := ⟨⟨rfl, rfl, rfl, by decide +kernel, rfl, by decide +kernel, by decide +kernel⟩, fun _ _ _ _ _ _ us hl => match us, hl with | [_, _], _ => rfl⟩
theorem ds25 : DfSt df25 := ⟨⟨rfl, rfl, rfl, by decide +kernel, rfl, by decide +kernel, by decide +kernel⟩, fun _ _ _ _ _ _ us hl => match us, hl with | [_], _ => rfl⟩
theorem ds26 : DfSt df26 := ⟨⟨rfl, rfl, rfl, by decide +kernel, rfl, by decide +kernel, by decide +kernel⟩, fun _ _ _ _ _ _ us hl => match us, hl with | [_, _, _], _ => rfl⟩
theorem ds27 : DfSt df27 := ⟨⟨rfl, rfl, rfl, by decide +kernel, rfl, by decide +kernel, by decide +kernel⟩, fun _ _ _ _ _ _ us hl => match us, hl with | [_, _], _ => rfl⟩
theorem ds28 : DfSt df28 := ⟨⟨rfl, rfl, rfl, by decide +kernel, rfl, by decide +kernel, by decide +kernel⟩, fun _ _ _ _ _ _ us hl => match us, hl with | [_], _ => rfl⟩
theorem ds29 : DfSt df29 := ⟨⟨rfl, rfl, rfl, by decide +kernel, rfl, by decide +kernel, by decide +kernel⟩, fun _ _ _ _ _ _ us hl => match us, hl with | [_, _], _ => rfl⟩
theorem ds30 : DfSt df30 := ⟨⟨rfl, rfl, rfl, by decide +kernel, rfl, by decide +kernel, by decide +kernel⟩, fun _ _ _ _ _ _ us hl => match us, hl with | [_], _ => rfl⟩
theorem ds31 : DfSt df31 := ⟨⟨rfl, rfl, rfl, by decide +kernel, rfl, by decide +kernel, by decide +kernel⟩, fun _ _ _ _ _ _ us hl => match us, hl with | [_, _], _ => rfl⟩
theorem ds32 : DfSt df32 := ⟨⟨rfl, rfl, rfl, by decide +kernel, rfl, by decide +kernel, by decide +kernel⟩, fun _ _ _ _ _ _ us hl => match us, hl with | [_, _], _ => rfl⟩
theorem ds33 : DfSt df33 := ⟨⟨rfl, rfl, rfl, by decide +kernel, rfl, by decide +kernel, by decide +kernel⟩, fun _ _ _ _ _ _ us hl => match us, hl with | [_], _ => rfl⟩
theorem ds_all : ∀ d ∈ dfs, DfSt d := by
  simp only [dfs, List.forall_mem_cons]
  exact ⟨ds0, ⟨ds1, ⟨ds2, ⟨ds3, ⟨ds4, ⟨ds5, ⟨ds6, ⟨ds7, ⟨ds8, ⟨ds9, ⟨ds10, ⟨ds11, ⟨ds12, ⟨ds13, ⟨ds14, ⟨ds15, ⟨ds16, ⟨ds17, ⟨ds18, ⟨ds19, ⟨ds20, ⟨ds21, ⟨ds22, ⟨ds23, ⟨ds24, ⟨ds25, ⟨ds26, ⟨ds27, ⟨ds28, ⟨ds29, ⟨ds30, ⟨ds31, ⟨ds32, ⟨ds33, fun _ h => nomatch h⟩⟩⟩⟩⟩⟩⟩⟩⟩⟩⟩⟩⟩⟩⟩⟩⟩⟩⟩⟩⟩⟩⟩⟩⟩⟩⟩⟩⟩⟩⟩⟩⟩⟩
theorem kw_all : ∀ p ∈ tab.kw, ∃ f d, posOf p.1.1 tab.fs = some f ∧ dfs[f]? = some d ∧ d.nm = p.1.1 ∧ KwSt d p.1.2 p.2 := by
  exact fun _ h => nomatch h
abbrev G (k : Nat) : Fs := callN (prgOf tab dfs) k
theorem p17 : prgOf tab dfs 17 = some cellAtFn := by kernel_rfl
theorem p18 : prgOf tab dfs 18 = some penFn := by kernel_rfl
theorem p19 : prgOf tab dfs 19 = some drawFn := by kernel_rfl
theorem p23 : prgOf tab dfs 23 = some lawLetFn := by kernel_rfl
theorem p25 : prgOf tab dfs 25 = some (lawStepsFn 23) := by kernel_rfl
theorem p20 : prgOf tab dfs 20 = some (pickFn 19) := by kernel_rfl
theorem p24 : prgOf tab dfs 24 = some lawStepFn := by kernel_rfl
theorem p26 : prgOf tab dfs 26 = some (walkFn 19 25 20 24) := by kernel_rfl
theorem p22 : prgOf tab dfs 22 = some (standFn 19 20) := by kernel_rfl
theorem p29 : prgOf tab dfs 29 = some goesDownFn := by kernel_rfl
theorem p30 : prgOf tab dfs 30 = some (lawDueFn 25 29 24) := by kernel_rfl
theorem p32 : prgOf tab dfs 32 = some (lawThingsFn 30 19 20 26) := by kernel_rfl
theorem p28 : prgOf tab dfs 28 = some (lawOddFn 20) := by kernel_rfl
theorem p27 : prgOf tab dfs 27 = some (lawBarFn 23 24) := by kernel_rfl
theorem p31 : prgOf tab dfs 31 = some (lawRight25Fn 30 27 23 29) := by kernel_rfl
theorem p21 : prgOf tab dfs 21 = some sameFn := by kernel_rfl
theorem p2 : prgOf tab dfs 2 = some isLongFn := by kernel_rfl
theorem p0 : prgOf tab dfs 0 = some isWholeFn := by kernel_rfl
theorem p3 : prgOf tab dfs 3 = some (areCountsFn 2 0) := by kernel_rfl
theorem p1 : prgOf tab dfs 1 = some (isWithinFn 0) := by kernel_rfl
theorem p4 : prgOf tab dfs 4 = some (isStandFn 2 3 1) := by kernel_rfl
theorem p5 : prgOf tab dfs 5 = some (needStandFn 4) := by kernel_rfl
theorem p6 : prgOf tab dfs 6 = some (isStepFn 0) := by kernel_rfl
theorem p10 : prgOf tab dfs 10 = some (isWalkFn 6) := by kernel_rfl
theorem p7 : prgOf tab dfs 7 = some isLetFn := by kernel_rfl
theorem p8 : prgOf tab dfs 8 = some raisedFn := by kernel_rfl
theorem p9 : prgOf tab dfs 9 = some (stepByFn 8) := by kernel_rfl
theorem p11 : prgOf tab dfs 11 = some (barByFn 7 9) := by kernel_rfl
theorem p13 : prgOf tab dfs 13 = some goesDownFn := by kernel_rfl
theorem p12 : prgOf tab dfs 12 = some (behindByFn 9) := by kernel_rfl
theorem p14 : prgOf tab dfs 14 = some (runToFn 7 13 9) := by kernel_rfl
theorem p15 : prgOf tab dfs 15 = some (everByFn 14) := by kernel_rfl
theorem p16 : prgOf tab dfs 16 = some (showsEverFn 5 2 10 11 13 12 15 1) := by kernel_rfl
theorem p33 : prgOf tab dfs 33 = some (law25Fn 17 18 26 22 32 28 31 21 16) := by kernel_rfl
theorem h17 (k : Nat) : PCell (G (k + 1)) 17 := fun ns i q => by have e : ∀ xs, G (k + 1) 17 xs = runF (G k) cellAtFn xs := fun xs => callN_of p17; rw [e]; exact cell_run _ q
theorem h18 (k : Nat) : PPen (G (k + 1)) 18 := fun v => by have e : ∀ xs, G (k + 1) 18 xs = runF (G k) penFn xs := fun xs => callN_of p18; rw [e]; exact pen_run _ v
theorem h19 (k : Nat) : PDraw (G (k + 1)) 19 := fun x m q1 q2 q3 => by have e : ∀ xs, G (k + 1) 19 xs = runF (G k) drawFn xs := fun xs => callN_of p19; rw [e]; exact draw_run _ q1 q2 q3
theorem h23 (k : Nat) : PLet (G (k + 1)) 23 := fun p hs s q => by have e : ∀ xs, G (k + 1) 23 xs = runF (G k) lawLetFn xs := fun xs => callN_of p23; rw [e]; exact lawLet_run _ q
theorem h25 (k : Nat) : PLawSteps (G (k + 2)) 25 := fun p hs q => by have e : ∀ xs, G (k + 2) 25 xs = runF (G (k + 1)) (lawStepsFn 23) xs := fun xs => callN_of p25; rw [e]; exact lawSteps_run (h23 k) q
theorem h20 (k : Nat) : PPick (G (k + 2)) 20 := fun x y xs q1 q2 q3 q4 => by have e : ∀ xs, G (k + 2) 20 xs = runF (G (k + 1)) (pickFn 19) xs := fun xs => callN_of p20; rw [e]; exact pick_run (h19 k) q1 q2 q3 q4
theorem h24 (k : Nat) : PStepBy (G (k + 1)) 24 := fun p hs s q => by have e : ∀ xs, G (k + 1) 24 xs = runF (G k) lawStepFn xs := fun xs => callN_of p24; rw [e]; exact lawStep_run _ q
theorem h26 (k : Nat) : PWalk (G (k + 3)) 26 := fun x p hs m q1 q2 q3 q4 => by have e : ∀ xs, G (k + 3) 26 xs = runF (G (k + 2)) (walkFn 19 25 20 24) xs := fun xs => callN_of p26; rw [e]; exact walk_run (h19 (k + 1)) (h25 k) (h20 k) (h24 (k + 1)) q1 q2 q3 q4
theorem h22 (k : Nat) : PStandDraw (G (k + 3)) 22 := fun x m hi q1 q2 q3 q4 q5 => by have e : ∀ xs, G (k + 3) 22 xs = runF (G (k + 2)) (standFn 19 20) xs := fun xs => callN_of p22; rw [e]; exact standDraw_run (h19 (k + 1)) (h20 k) q1 q2 q3 q4 q5
theorem h29 (k : Nat) : PDown (G (k + 1)) 29 := fun p hs s q1 q2 => by have e : ∀ xs, G (k + 1) 29 xs = runF (G k) goesDownFn xs := fun xs => callN_of p29; rw [e]; exact down_run _ q1 q2
theorem h30 (k : Nat) : PLawDue (G (k + 3)) 30 := fun a q1 q2 => by have e : ∀ xs, G (k + 3) 30 xs = runF (G (k + 2)) (lawDueFn 25 29 24) xs := fun xs => callN_of p30; rw [e]; exact lawDue_run (h25 k) (h29 (k + 1)) (h24 (k + 1)) q1 q2
theorem h32 (k : Nat) : PThings (G (k + 4)) 32 := fun x a q1 q2 => by have e : ∀ xs, G (k + 4) 32 xs = runF (G (k + 3)) (lawThingsFn 30 19 20 26) xs := fun xs => callN_of p32; rw [e]; exact things_run (h30 k) (h19 (k + 2)) (h20 (k + 1)) (h26 k) q1 q2
theorem h28 (k : Nat) : POdd (G (k + 3)) 28 := fun x q1 => by have e : ∀ xs, G (k + 3) 28 xs = runF (G (k + 2)) (lawOddFn 20) xs := fun xs => callN_of p28; rw [e]; exact odd_run (h20 k) q1
theorem h27 (k : Nat) : PLawBar (G (k + 2)) 27 := fun p hs ws q1 q2 q3 => by have e : ∀ xs, G (k + 2) 27 xs = runF (G (k + 1)) (lawBarFn 23 24) xs := fun xs => callN_of p27; rw [e]; exact lawBar_run (h23 k) (h24 k) q1
theorem h31 (k : Nat) : PRight25 (G (k + 4)) 31 := fun a d q1 q2 => by have e : ∀ xs, G (k + 4) 31 xs = runF (G (k + 3)) (lawRight25Fn 30 27 23 29) xs := fun xs => callN_of p31; rw [e]; exact lawRight25_run (h30 k) (h27 (k + 1)) (h23 (k + 2)) (h29 (k + 2)) q1 q2
theorem h21 (k : Nat) : PSameL (G (k + 1)) 21 := fun xs q => by have e : ∀ xs, G (k + 1) 21 xs = runF (G k) sameFn xs := fun xs => callN_of p21; rw [e]; exact same_ll _ q
theorem h2 (k : Nat) : PLongA (G (k + 1)) 2 := fun d a b => by have e : ∀ xs, G (k + 1) 2 xs = runF (G k) isLongFn xs := fun xs => callN_of p2; rw [e]; exact longA_run _ d a b
theorem h0 (k : Nat) : PWhole (G (k + 1)) 0 := fun d => by have e : ∀ xs, G (k + 1) 0 xs = runF (G k) isWholeFn xs := fun xs => callN_of p0; rw [e]; exact whole_run _ d
theorem h3 (k : Nat) : PCounts (G (k + 2)) 3 := fun hs q => by have e : ∀ xs, G (k + 2) 3 xs = runF (G (k + 1)) (areCountsFn 2 0) xs := fun xs => callN_of p3; rw [e]; exact counts_run (h2 k).to (h0 k) q
theorem h1 (k : Nat) : PWithinA (G (k + 2)) 1 := fun d a b => by have e : ∀ xs, G (k + 2) 1 xs = runF (G (k + 1)) (isWithinFn 0) xs := fun xs => callN_of p1; rw [e]; exact withinA_run (h0 k) d a b
theorem h4 (k : Nat) : PStand (G (k + 3)) 4 := fun p hs q => by have e : ∀ xs, G (k + 3) 4 xs = runF (G (k + 2)) (isStandFn 2 3 1) xs := fun xs => callN_of p4; rw [e]; exact stand_run (h2 (k + 1)).to (h3 k) (h1 k).to q
theorem h5 (k : Nat) : PNeed (G (k + 4)) 5 := fun p hs q => by have e : ∀ xs, G (k + 4) 5 xs = runF (G (k + 3)) (needStandFn 4) xs := fun xs => callN_of p5; rw [e]; exact need_run (h4 k) q
theorem h6 (k : Nat) : PIsStepA (G (k + 2)) 6 := fun d => by have e : ∀ xs, G (k + 2) 6 xs = runF (G (k + 1)) (isStepFn 0) xs := fun xs => callN_of p6; rw [e]; exact isStepA_run (h0 k) d
theorem h10 (k : Nat) : PIsWalkA (G (k + 3)) 10 := fun d q => by have e : ∀ xs, G (k + 3) 10 xs = runF (G (k + 2)) (isWalkFn 6) xs := fun xs => callN_of p10; rw [e]; exact isWalkA_run (h6 k) q
theorem h7 (k : Nat) : PLet (G (k + 1)) 7 := fun p hs s q => by have e : ∀ xs, G (k + 1) 7 xs = runF (G k) isLetFn xs := fun xs => callN_of p7; rw [e]; exact let_run _ q
theorem h8 (k : Nat) : PRaised (G (k + 1)) 8 := fun p hs q => by have e : ∀ xs, G (k + 1) 8 xs = runF (G k) raisedFn xs := fun xs => callN_of p8; rw [e]; exact raised_run _ q
theorem h9 (k : Nat) : PStepBy (G (k + 2)) 9 := fun p hs s q => by have e : ∀ xs, G (k + 2) 9 xs = runF (G (k + 1)) (stepByFn 8) xs := fun xs => callN_of p9; rw [e]; exact stepBy_run (h8 k) q
theorem h11 (k : Nat) : PBar (G (k + 3)) 11 := fun p hs ws q1 q2 q3 => by have e : ∀ xs, G (k + 3) 11 xs = runF (G (k + 2)) (barByFn 7 9) xs := fun xs => callN_of p11; rw [e]; exact barBy_run (h7 (k + 1)) (h9 k) q1
theorem h13 (k : Nat) : PDown (G (k + 1)) 13 := fun p hs s q1 q2 => by have e : ∀ xs, G (k + 1) 13 xs = runF (G k) goesDownFn xs := fun xs => callN_of p13; rw [e]; exact down_run _ q1 q2
theorem h12 (k : Nat) : PBehind (G (k + 3)) 12 := fun p hs ws q1 q2 => by have e : ∀ xs, G (k + 3) 12 xs = runF (G (k + 2)) (behindByFn 9) xs := fun xs => callN_of p12; rw [e]; exact behind_run (h9 k) q1 q2
theorem h14 (k : Nat) : PRunTo (G (k + 3)) 14 := fun a s q1 q2 => by have e : ∀ xs, G (k + 3) 14 xs = runF (G (k + 2)) (runToFn 7 13 9) xs := fun xs => callN_of p14; rw [e]; exact runTo_run (h7 (k + 1)) (h13 (k + 1)) (h9 k) q1 q2
theorem h15 (k : Nat) : PEver (G (k + 4)) 15 := fun a q1 => by have e : ∀ xs, G (k + 4) 15 xs = runF (G (k + 3)) (everByFn 14) xs := fun xs => callN_of p15; rw [e]; exact everBy_run (h14 k) q1
theorem h16 (k : Nat) : PShowsEver (G (k + 5)) 16 := fun a d q1 q2 => by have e : ∀ xs, G (k + 5) 16 xs = runF (G (k + 4)) (showsEverFn 5 2 10 11 13 12 15 1) xs := fun xs => callN_of p16; rw [e]; exact showsEver_run (h5 k) (h2 (k + 3)) (h10 (k + 1)) (h11 (k + 1)) (h13 (k + 3)) (h12 (k + 1)) (h15 k) (h1 (k + 2)) q1 q2
theorem law_runs (ns : List Int) : ∃ ps, callN (prgOf tab dfs) 6 33 [.scr ns] = some (.fz (.bool true), ps) := by
  have e : callN (prgOf tab dfs) 6 33 [.scr ns] = runF (G 5) (law25Fn 17 18 26 22 32 28 31 21 16) [.scr ns] := callN_of p33
  rw [e]
  exact law25_run (h17 4) (h18 4) (h22 2) (h26 2) (h32 1) (h28 2) (h31 1) (h21 4) (h16 0) ns
theorem env {K : PySem.W.Frag} {h : Heap} {mg : Str → Option Value} (KX : K.In h) (G : h.Ns mainGlobals mg)
    (f0 : DfFact K "is_whole" (top 9)) (f1 : DfFact K "is_within" (top 10)) (f2 : DfFact K "is_long" (top 11))
    (f3 : DfFact K "are_counts" (top 12)) (f4 : DfFact K "is_stand" (top 13)) (f5 : DfFact K "need_stand" (top 14))
    (f6 : DfFact K "is_step" (top 15)) (f7 : DfFact K "is_let" (top 16)) (f8 : DfFact K "raised" (top 17))
    (f9 : DfFact K "step_by" (top 18)) (f10 : DfFact K "is_walk" (top 20)) (f11 : DfFact K "bar_by" (top 21))
    (f12 : DfFact K "behind_by" (top 22)) (f13 : DfFact K "goes_down" (top 26)) (f14 : DfFact K "run_to" (top 27))
    (f15 : DfFact K "ever_by" (top 28)) (f16 : DfFact K "shows_ever" (top 29)) (f17 : DfFact K "_law_cell_at" (top 31))
    (f18 : DfFact K "_law_pen" (top 32)) (f19 : DfFact K "_law_draw" (top 33)) (f20 : DfFact K "_law_pick" (top 34))
    (f21 : DfFact K "_law_same" (top 35)) (f22 : DfFact K "_law_stand" (top 36)) (f23 : DfFact K "_law_let" (top 37))
    (f24 : DfFact K "_law_step" (top 38)) (f25 : DfFact K "_law_steps" (top 39)) (f26 : DfFact K "_law_walk" (top 40))
    (f27 : DfFact K "_law_bar" (top 41)) (f28 : DfFact K "_law_odd" (top 42)) (f29 : DfFact K "_law_down" (top 43))
    (f30 : DfFact K "_law_due" (top 44)) (f31 : DfFact K "_law_right" (top 45)) (f32 : DfFact K "_law_things" (top 46))
    (f33 : DfFact K "law" (top 47)) (b_len : PySem.W.nsIn K mainGlobals "len" = some none) (b_abs : PySem.W.nsIn K mainGlobals "abs" = some none)
    (b_max : PySem.W.nsIn K mainGlobals "max" = some none) (b_min : PySem.W.nsIn K mainGlobals "min" = some none) (b_sum : PySem.W.nsIn K mainGlobals "sum" = some none)
    (b_int : PySem.W.nsIn K mainGlobals "int" = some none) (b_str : PySem.W.nsIn K mainGlobals "str" = some none) (b_repr : PySem.W.nsIn K mainGlobals "repr" = some none)
    (b_list : PySem.W.nsIn K mainGlobals "list" = some none) (b_tuple : PySem.W.nsIn K mainGlobals "tuple" = some none) (b_sorted : PySem.W.nsIn K mainGlobals "sorted" = some none)
    (b_all : PySem.W.nsIn K mainGlobals "all" = some none) (b_isinstance : PySem.W.nsIn K mainGlobals "isinstance" = some none) (b_bool : PySem.W.nsIn K mainGlobals "bool" = some none)
    (b_range : PySem.W.nsIn K mainGlobals "range" = some none) (b_enumerate : PySem.W.nsIn K mainGlobals "enumerate" = some none) (b_zip : PySem.W.nsIn K mainGlobals "zip" = some none)
    (b_divmod : PySem.W.nsIn K mainGlobals "divmod" = some none) (b_dict : PySem.W.nsIn K mainGlobals "dict" = some none) (c_FEWEST_PLACES : ConFact mg K "FEWEST_PLACES" (.int (2)))
    (c_MOST_PLACES : ConFact mg K "MOST_PLACES" (.int (5))) (c_LEFT : ConFact mg K "LEFT" (.int (-1))) (c_RIGHT : ConFact mg K "RIGHT" (.int (1)))
    (c_STEPS : ConFact mg K "STEPS" (.tuple [(.int (-1)), (.int (1))])) (c_ENDLESS : ConFact mg K "ENDLESS" (.str "endless")) (c_ENDS : ConFact mg K "ENDS" (.str "ends"))
    : Env1 K mg tab dfs := by
  refine env_of KX G rfl ds_all ?_ kw_all ?_ ?_
  · simp only [dfs, List.forall_mem_cons]
    exact ⟨f0, ⟨f1, ⟨f2, ⟨f3, ⟨f4, ⟨f5, ⟨f6, ⟨f7, ⟨f8, ⟨f9, ⟨f10, ⟨f11, ⟨f12, ⟨f13, ⟨f14, ⟨f15, ⟨f16, ⟨f17, ⟨f18, ⟨f19, ⟨f20, ⟨f21, ⟨f22, ⟨f23, ⟨f24, ⟨f25, ⟨f26, ⟨f27, ⟨f28, ⟨f29, ⟨f30, ⟨f31, ⟨f32, ⟨f33, fun _ h => nomatch h⟩⟩⟩⟩⟩⟩⟩⟩⟩⟩⟩⟩⟩⟩⟩⟩⟩⟩⟩⟩⟩⟩⟩⟩⟩⟩⟩⟩⟩⟩⟩⟩⟩⟩
  · simp only [bNames, List.forall_mem_cons]
    exact ⟨b_len, ⟨b_abs, ⟨b_max, ⟨b_min, ⟨b_sum, ⟨b_int, ⟨b_str, ⟨b_repr, ⟨b_list, ⟨b_tuple, ⟨b_sorted, ⟨b_all, ⟨b_isinstance, ⟨b_bool, ⟨b_range, ⟨b_enumerate, ⟨b_zip, ⟨b_divmod, ⟨b_dict, fun _ h => nomatch h⟩⟩⟩⟩⟩⟩⟩⟩⟩⟩⟩⟩⟩⟩⟩⟩⟩⟩⟩
  · simp only [tab, List.forall_mem_cons]
    exact ⟨c_FEWEST_PLACES, ⟨c_MOST_PLACES, ⟨c_LEFT, ⟨c_RIGHT, ⟨c_STEPS, ⟨c_ENDLESS, ⟨c_ENDS, fun _ h => nomatch h⟩⟩⟩⟩⟩⟩⟩
end Lawk25

set_option maxRecDepth 1000000
set_option maxHeartbeats 0 in
open PySem PySem.W PyProof.Rows in
theorem PySem.Challenge.cw_treadrise_k25_ever_shown_holds : PySem.Challenge.rw_treadrise_k25_ever_shown.Holds := by
  w_on; o_law; k_head; (case hw => w_witness2)
  k_fill
  refine Tr.walkT (l := PySem.Challenge.rw_treadrise_k25_ever_shown) (n := 63) (k := 6) (x := "_law_script") (T := Lawk25.tab) (ds := Lawk25.dfs) (f := 33) (df := Lawk25.df33) rfl (by decide) rfl ⟨rfl, by decide, by decide⟩ (fun w h Y => PySem.W.kIn_of Y) rfl rfl rfl (fun _ _ _ _ _ _ _ => rfl) (fun ns _ _ => Lawk25.law_runs ns) ?F
  case F =>
    intro w mg h KX G
    refine' Lawk25.env KX G ?f0 ?f1 ?f2 ?f3 ?f4 ?f5 ?f6 ?f7 ?f8 ?f9 ?f10 ?f11 ?f12 ?f13 ?f14 ?f15 ?f16 ?f17 ?f18 ?f19 ?f20 ?f21 ?f22 ?f23 ?f24 ?f25 ?f26 ?f27 ?f28 ?f29 ?f30 ?f31 ?f32 ?f33 ?b_len ?b_abs ?b_max ?b_min ?b_sum ?b_int ?b_str ?b_repr ?b_list ?b_tuple ?b_sorted ?b_all ?b_isinstance ?b_bool ?b_range ?b_enumerate ?b_zip ?b_divmod ?b_dict ?c_FEWEST_PLACES ?c_MOST_PLACES ?c_LEFT ?c_RIGHT ?c_STEPS ?c_ENDLESS ?c_ENDS
    (case f0 => refine' Tr.df_fact ?a ?l ?c ?k; (case a => k_is); (case l => k_is); (case c => k_is); (case k => k_is))
    (case f1 => refine' Tr.df_fact ?a ?l ?c ?k; (case a => k_is); (case l => k_is); (case c => k_is); (case k => k_is))
    (case f2 => refine' Tr.df_fact ?a ?l ?c ?k; (case a => k_is); (case l => k_is); (case c => k_is); (case k => k_is))
    (case f3 => refine' Tr.df_fact ?a ?l ?c ?k; (case a => k_is); (case l => k_is); (case c => k_is); (case k => k_is))
    (case f4 => refine' Tr.df_fact ?a ?l ?c ?k; (case a => k_is); (case l => k_is); (case c => k_is); (case k => k_is))
    (case f5 => refine' Tr.df_fact ?a ?l ?c ?k; (case a => k_is); (case l => k_is); (case c => k_is); (case k => k_is))
    (case f6 => refine' Tr.df_fact ?a ?l ?c ?k; (case a => k_is); (case l => k_is); (case c => k_is); (case k => k_is))
    (case f7 => refine' Tr.df_fact ?a ?l ?c ?k; (case a => k_is); (case l => k_is); (case c => k_is); (case k => k_is))
    (case f8 => refine' Tr.df_fact ?a ?l ?c ?k; (case a => k_is); (case l => k_is); (case c => k_is); (case k => k_is))
    (case f9 => refine' Tr.df_fact ?a ?l ?c ?k; (case a => k_is); (case l => k_is); (case c => k_is); (case k => k_is))
    (case f10 => refine' Tr.df_fact ?a ?l ?c ?k; (case a => k_is); (case l => k_is); (case c => k_is); (case k => k_is))
    (case f11 => refine' Tr.df_fact ?a ?l ?c ?k; (case a => k_is); (case l => k_is); (case c => k_is); (case k => k_is))
    (case f12 => refine' Tr.df_fact ?a ?l ?c ?k; (case a => k_is); (case l => k_is); (case c => k_is); (case k => k_is))
    (case f13 => refine' Tr.df_fact ?a ?l ?c ?k; (case a => k_is); (case l => k_is); (case c => k_is); (case k => k_is))
    (case f14 => refine' Tr.df_fact ?a ?l ?c ?k; (case a => k_is); (case l => k_is); (case c => k_is); (case k => k_is))
    (case f15 => refine' Tr.df_fact ?a ?l ?c ?k; (case a => k_is); (case l => k_is); (case c => k_is); (case k => k_is))
    (case f16 => refine' Tr.df_fact ?a ?l ?c ?k; (case a => k_is); (case l => k_is); (case c => k_is); (case k => k_is))
    (case f17 => refine' Tr.df_fact ?a ?l ?c ?k; (case a => k_is); (case l => k_is); (case c => k_is); (case k => k_is))
    (case f18 => refine' Tr.df_fact ?a ?l ?c ?k; (case a => k_is); (case l => k_is); (case c => k_is); (case k => k_is))
    (case f19 => refine' Tr.df_fact ?a ?l ?c ?k; (case a => k_is); (case l => k_is); (case c => k_is); (case k => k_is))
    (case f20 => refine' Tr.df_fact ?a ?l ?c ?k; (case a => k_is); (case l => k_is); (case c => k_is); (case k => k_is))
    (case f21 => refine' Tr.df_fact ?a ?l ?c ?k; (case a => k_is); (case l => k_is); (case c => k_is); (case k => k_is))
    (case f22 => refine' Tr.df_fact ?a ?l ?c ?k; (case a => k_is); (case l => k_is); (case c => k_is); (case k => k_is))
    (case f23 => refine' Tr.df_fact ?a ?l ?c ?k; (case a => k_is); (case l => k_is); (case c => k_is); (case k => k_is))
    (case f24 => refine' Tr.df_fact ?a ?l ?c ?k; (case a => k_is); (case l => k_is); (case c => k_is); (case k => k_is))
    (case f25 => refine' Tr.df_fact ?a ?l ?c ?k; (case a => k_is); (case l => k_is); (case c => k_is); (case k => k_is))
    (case f26 => refine' Tr.df_fact ?a ?l ?c ?k; (case a => k_is); (case l => k_is); (case c => k_is); (case k => k_is))
    (case f27 => refine' Tr.df_fact ?a ?l ?c ?k; (case a => k_is); (case l => k_is); (case c => k_is); (case k => k_is))
    (case f28 => refine' Tr.df_fact ?a ?l ?c ?k; (case a => k_is); (case l => k_is); (case c => k_is); (case k => k_is))
    (case f29 => refine' Tr.df_fact ?a ?l ?c ?k; (case a => k_is); (case l => k_is); (case c => k_is); (case k => k_is))
    (case f30 => refine' Tr.df_fact ?a ?l ?c ?k; (case a => k_is); (case l => k_is); (case c => k_is); (case k => k_is))
    (case f31 => refine' Tr.df_fact ?a ?l ?c ?k; (case a => k_is); (case l => k_is); (case c => k_is); (case k => k_is))
    (case f32 => refine' Tr.df_fact ?a ?l ?c ?k; (case a => k_is); (case l => k_is); (case c => k_is); (case k => k_is))
    (case f33 => refine' Tr.df_fact ?a ?l ?c ?k; (case a => k_is); (case l => k_is); (case c => k_is); (case k => k_is))
    (case b_len => k_is)
    (case b_abs => k_is)
    (case b_max => k_is)
    (case b_min => k_is)
    (case b_sum => k_is)
    (case b_int => k_is)
    (case b_str => k_is)
    (case b_repr => k_is)
    (case b_list => k_is)
    (case b_tuple => k_is)
    (case b_sorted => k_is)
    (case b_all => k_is)
    (case b_isinstance => k_is)
    (case b_bool => k_is)
    (case b_range => k_is)
    (case b_enumerate => k_is)
    (case b_zip => k_is)
    (case b_divmod => k_is)
    (case b_dict => k_is)
    (case c_FEWEST_PLACES => refine' Tr.con_int (PySem.W.mg_of KX G ?a); (case a => k_is))
    (case c_MOST_PLACES => refine' Tr.con_int (PySem.W.mg_of KX G ?a); (case a => k_is))
    (case c_LEFT => refine' Tr.con_int (PySem.W.mg_of KX G ?a); (case a => k_is))
    (case c_RIGHT => refine' Tr.con_int (PySem.W.mg_of KX G ?a); (case a => k_is))
    (case c_STEPS => refine' Tr.con_tup2 (PySem.W.mg_of KX G ?a) ?l; (case a => k_is); (case l => k_is))
    (case c_ENDLESS => refine' Tr.con_str (PySem.W.mg_of KX G ?a); (case a => k_is))
    (case c_ENDS => refine' Tr.con_str (PySem.W.mg_of KX G ?a); (case a => k_is))

