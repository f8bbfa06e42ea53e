import PyProof.Rows.All
import Wide.All
import OpenK.AllK
import Wide.FinOn
import HandS.ForMost
import HandS.TupAny
import HandS.TupMul
import HandS.Style
import HandS.ForExc
import KE.SortData
import KE.SortKeyHeap
import KE.DataMinMax
import HandS.Wide
import HandS.IsInst
import HandS.EndBits
import HandS.Flow
import HandS.Conv
import KE.GoesEnum
import HandS.Walk
import HandS.Zip
import KE.GoesZip
import KE.GoesMore
import PySem.Challenge.RW_treadrise_k80_whole_the_ground_tells_eac
set_option Elab.async false
set_option linter.all false
set_option maxRecDepth 100000
set_option maxHeartbeats 4000000
/-! tuple * int for any small int; t[::-1]. -/
namespace Tr
open PySem PySem.Spec PyProof.Rows L2
theorem mul_same (l : Addr) (items : Array Value) (n : Nat) (dd : Option Addr) (sl : Array (Option Value)) (x : Int) (u : Tok) (c0 : (decide (x < -(2 ^ 63)) || decide (x ≥ 2 ^ 63)) = false) (c1 : (items.isEmpty || x == 1) = true) :
    Meets (Builtin.«tuple.__mul__» ⟨[.ref l, .int x u], []⟩) (fun _ R s => s.heap.get? l = some { cls := .type "tuple", dict := dd, data := .seq items n, slots := sl } ∧
      R (.ok (.ret (Value.ref l))) { s with heap := s.heap, toks := s.toks }) :=
  .of_wp fun prog w A R s h => by
    obtain ⟨hp, g, d, tk, os⟩ := s
    obtain ⟨hl, h⟩ := h
    have f1 := AutoSeq1.idx_int
    wp_walk using wpAny_loadPart' hl
    repeat (first
      | (refine wpAny_ite_false (decide_eq_false (by rw [c0]; exact Bool.false_ne_true)) ?_; wp_walk using wpAny_loadPart' hl)
      | (refine wpAny_ite_true (decide_eq_true c1) ?_; wp_walk using wpAny_loadPart' hl))
    exact ⟨_, rfl, h⟩
theorem mul_none (l : Addr) (items : Array Value) (n : Nat) (dd : Option Addr) (sl : Array (Option Value)) (x : Int) (u : Tok) (c0 : (decide (x < -(2 ^ 63)) || decide (x ≥ 2 ^ 63)) = false) (c1 : (items.isEmpty || x == 1) = false) (c2 : (decide (x ≤ 0) || items.isEmpty) = true) :
    Meets (Builtin.«tuple.__mul__» ⟨[.ref l, .int x u], []⟩) (fun _ R s => s.heap.get? l = some { cls := .type "tuple", dict := dd, data := .seq items n, slots := sl } ∧
      R (.ok (.ret (Value.ref s.heap.objs.size))) { s with heap := s.heap.push { cls := Value.type "tuple", data := Data.seq #[] }, toks := s.toks }) :=
  .of_wp fun prog w A R s h => by
    obtain ⟨hp, g, d, tk, os⟩ := s
    obtain ⟨hl, h⟩ := h
    have f1 := AutoSeq1.idx_int
    wp_walk using wpAny_loadPart' hl
    repeat (first
      | (refine wpAny_ite_false (decide_eq_false (by rw [c0]; exact Bool.false_ne_true)) ?_; wp_walk using wpAny_loadPart' hl)
      | (refine wpAny_ite_false (decide_eq_false (by rw [c1]; exact Bool.false_ne_true)) ?_; wp_walk using wpAny_loadPart' hl)
      | (refine wpAny_ite_true (decide_eq_true c2) ?_; wp_walk using wpAny_loadPart' hl))
    exact ⟨_, rfl, h⟩
def rRepA (K : PySem.W.Frag) : R2 := fun x y H Q => ∃ l k xs, x = .ref l ∧ y = .int k ∧ SqT K H l xs ∧ -1000 ≤ k ∧ k ≤ 1000 ∧ xs.length ≤ 1000 ∧ ((List.replicate k.toNat xs).flatten = xs → Q (.ref l) H) ∧ ∀ p, H p = none → Q (.ref p) (upd H p (.tup (List.replicate k.toNat xs).flatten))
section
variable {X : Cx}
theorem rep_nil {α : Type} : ∀ n : Nat, (List.replicate n ([] : List α)).flatten = [] := fun n => by induction n with
  | zero => rfl
  | succ n ih => rw [List.replicate_succ, List.flatten_cons, ih]; rfl
theorem op_repA : OpR X (binaryOp .Mult) (rRepA X.K) := by
  intro pins s σ H x y v u Q I rx ry h
  obtain ⟨l, k, xs, rfl, rfl, hT, h1, h2, hz, qs, qn⟩ := h
  by_cases hk : xs ≠ [] ∧ 2 ≤ k
  · exact op_repT pins s σ H _ _ v u Q I rx ry ⟨l, k, xs, rfl, rfl, hT, hk.1, hk.2, h2, hz, qn⟩
  · cases rx
    obtain ⟨t, rfl⟩ := ry
    obtain ⟨its, r, ⟨⟨cls, dd, data, sl⟩, ho, hc, n, hd⟩, hs⟩ := I.tuple hT
    simp only at hc hd
    subst hc hd
    have hle : its.length = xs.length := r.length.symm
    have c0 : (decide (k < -(2 ^ 63)) || decide (k ≥ 2 ^ 63)) = false := by
      rw [decide_eq_false (by omega), decide_eq_false (by omega)] <;> rfl
    by_cases hsame : its = [] ∨ k = 1
    · have c1 : (its.toArray.isEmpty || k == 1) = true := by
        rcases hsame with e | e
        · rw [e]; rfl
        · rw [e]; simp
      have ef : (List.replicate k.toNat xs).flatten = xs := by
        rcases hsame with e | e
        · rw [e] at hle
          have : xs = [] := List.eq_nil_of_length_eq_zero hle.symm
          rw [this, rep_nil]
        · rw [e]; simp
      refine wpAny_binaryOp_repeat_ref (T := "tuple") (U := "int") (by decide) ⟨_, ho, rfl⟩ (fun s' => typeIs_int s' k t) noFill_tuple_mul F.fills_int_mul F.slot_int_rmul repeat_tuple F.slot_int_index.lookup
        (call_meets F.slot_int_rmul (typeIs_int s k t) F.entry_int_rmul (F.args_int_rmul_2 _ _) (int_rmul_tuple k t l its.toArray n dd sl)
          ⟨ho, rfl, ⟨_, ho, rfl⟩, call_meets F.slot_tuple_mul ⟨_, ho, rfl⟩ F.entry_tuple_mul (F.args_tuple_mul_2 _ _) (mul_same l its.toArray n dd sl k t c0 c1) ⟨ho, ?_⟩⟩)
      exact ⟨.ref l, _, I, rfl, qs ef⟩
    · rw [not_or] at hsame
      have hi : its.toArray.isEmpty = false := by
        cases its with
        | nil => exact absurd rfl hsame.1
        | cons a b => rfl
      have hxs : xs ≠ [] := fun e => hsame.1 (by rw [e] at hle; exact List.eq_nil_of_length_eq_zero hle)
      have hk0 : k ≤ 0 := by
        have h3 := hsame.2
        have h4 : ¬ 2 ≤ k := fun z => hk ⟨hxs, z⟩
        omega
      have c1 : (its.toArray.isEmpty || k == 1) = false := by
        rw [hi, Bool.false_or]
        exact beq_eq_false_iff_ne.mpr (by omega)
      have c2 : (decide (k ≤ 0) || its.toArray.isEmpty) = true := by rw [decide_eq_true hk0]; rfl
      have e0 : k.toNat = 0 := by omega
      rw [e0] at qn
      refine wpAny_binaryOp_repeat_ref (T := "tuple") (U := "int") (by decide) ⟨_, ho, rfl⟩ (fun s' => typeIs_int s' k t) noFill_tuple_mul F.fills_int_mul F.slot_int_rmul repeat_tuple F.slot_int_index.lookup
        (call_meets F.slot_int_rmul (typeIs_int s k t) F.entry_int_rmul (F.args_int_rmul_2 _ _) (int_rmul_tuple k t l its.toArray n dd sl)
          ⟨ho, rfl, ⟨_, ho, rfl⟩, call_meets F.slot_tuple_mul ⟨_, ho, rfl⟩ F.entry_tuple_mul (F.args_tuple_mul_2 _ _) (mul_none l its.toArray n dd sl k t c0 c1 c2) ⟨ho, ?_⟩⟩)
      refine ⟨.ref s.heap.objs.size, _, I.laid (t' := s.toks) (o := .tup []) (fun b ob q => Heap.get?_push_of_some _ q) (Nat.le_refl _) ?_, rfl, qn _ (I.hok.fresh (Nat.le_refl _))⟩
      exact ⟨Nat.zero_le _, [], .nil, IsTup.new _ _⟩
end
/-! ### t[::-1] -/
theorem adjust_rev (n : Nat) : Builtin.Slice.sliceAdjust none none (-1) (n : Int) = ((n : Int) - 1, -1) := rfl
theorem places_rev (n : Nat) : Builtin.Slice.slicePlaces ((n : Int) - 1) (-1) (-1) = n := by
  unfold Builtin.Slice.slicePlaces
  have h1 : ¬ ((-1 : Int) > 0) := by omega
  rw [if_neg h1]
  have e1 : -(-1 : Int) = 1 := by omega
  rw [e1, Int.ediv_one]
  split <;> omega
section
variable {prog : Program} {w : World} {A : Around} {E : Value → Shared → Prop} {s : Shared}
theorem sliceApplied_rev {sl : Addr} {vs : Value} {n : Nat} {Q : Int × Int × Nat → Shared → Prop} (hs : s.heap.IsSliceOf sl .none .none vs) (ps : IsPart vs (some (-1)))
    (h : Q ((n : Int) - 1, -1, n) s) : wpAny (model prog w) A (Builtin.Slice.sliceApplied (.ref sl) (pure (n : Int))) Q E s := by
  obtain ⟨os, hos, hcs, hds⟩ := id hs
  unfold Builtin.Slice.sliceApplied Builtin.Slice.sliceFields
  refine wpAny_bind (wpAny_bind (wpAny_field hos hds (x := .none) rfl (wpAny_bind (wpAny_field hos hds (x := .none) rfl (wpAny_bind (wpAny_field hos hds (x := vs) rfl (wpAny_pure ?_)))))))
  refine wpAny_bind (HT.slicePart_ ps ?_)
  show wpAny _ _ (if ((-1 : Int) == 0) = true then _ else _) _ _ s
  rw [if_neg (by decide)]
  refine wpAny_bind (slicePart_none (wpAny_bind (slicePart_none (wpAny_bind (wpAny_pure ?_)))))
  show wpAny _ _ (match Builtin.Slice.sliceAdjust none none (-1) (n : Int) with | (lo, hi) => pure (lo, (-1 : Int), Builtin.Slice.slicePlaces lo hi (-1))) _ _ s
  rw [adjust_rev n]
  show wpAny _ _ (pure ((n : Int) - 1, (-1 : Int), Builtin.Slice.slicePlaces ((n : Int) - 1) (-1) (-1))) _ _ s
  rw [places_rev]
  exact wpAny_pure h
theorem pick_rev (xs : Array Value) : ((List.range xs.size).filterMap fun (m : Nat) => xs[((xs.size : Int) - 1 + (m : Int) * (-1)).toNat]?).toArray = xs.toList.reverse.toArray := by
  congr 1
  have e : ((List.range xs.size).filterMap fun (m : Nat) => xs[((xs.size : Int) - 1 + (m : Int) * (-1)).toNat]?) = ((List.range xs.size).map fun (k : Nat) => xs.size - 1 - k).filterMap (xs[·]?) := by
    rw [List.filterMap_map]
    have cong : ∀ (l : List Nat), (∀ m ∈ l, m < xs.size) → l.filterMap (fun (m : Nat) => xs[((xs.size : Int) - 1 + (m : Int) * (-1)).toNat]?) = l.filterMap ((xs[·]?) ∘ fun k => xs.size - 1 - k) := by
      intro l
      induction l with
      | nil => intro _; rfl
      | cons m l ih =>
        intro hl
        have hm := hl m List.mem_cons_self
        have e1 : ((xs.size : Int) - 1 + (m : Int) * (-1)).toNat = xs.size - 1 - m := by omega
        rw [List.filterMap_cons, List.filterMap_cons, ih fun x hx => hl x (List.mem_cons_of_mem _ hx)]
        simp only [Function.comp, e1]
    exact cong _ fun m hm => List.mem_range.mp hm
  rw [e, PySem.W.krv_range, List.filterMap_reverse, PySem.W.krv_all]
theorem getItem_tuple_rev {t sl : Addr} {items : Array Value} {vs : Value} {Q : Value → Shared → Prop} (ht : IsTup s.heap t items) (hs : s.heap.IsSliceOf sl .none .none vs) (ps : IsPart vs (some (-1)))
    (h : Q (.ref s.heap.objs.size) { s with heap := s.heap.push { cls := .type "tuple", data := .seq items.toList.reverse.toArray } })
    (hsz : items.size ≤ sizeLine) : wpAny (model prog w) A (getItem (.ref t) (.ref sl)) Q E s := by
  have htake : sizeOk (.seq items.toList.reverse.toArray) := by
    show items.toList.reverse.toArray.size ≤ sizeLine
    rw [List.size_toArray, List.length_reverse, Array.length_toList]
    exact hsz
  obtain ⟨os, hos, hcs, hds⟩ := id hs
  have hTs : s.TypeIs (.ref sl) "slice" := ⟨os, hos, hcs⟩
  unfold getItem
  try with_reducible refine wpAny_holding ?_
  first | refine wpAny_bind (wpAny_pure ?_) | skip
  refine wpAny_bind (wpAny_sequenceKey ht.typeIs (by decide) ?_)
  refine wpAny_bind (wpAny_callSpecial?_slot (name := Str.ofString "__getitem__") ht.typeIs PyProof.Rows.slot_tuple_getitem
    (wpAny_call_entry PyProof.Rows.slot_tuple_getitem ht.typeIs entry_tuple_getitem ?_ (args_tuple_getitem _ _)))
  show wpAny _ _ (Builtin.Tuple.tupleItemsOf (.ref t) >>= _) _ _ s
  refine wpAny_bind (tupleItemsOf_ ht ?_)
  refine wpAny_bind (wpAny_typeOf hTs ?_)
  rw [if_pos (by decide)]
  refine wpAny_bind (sliceApplied_rev hs ps ?_)
  have hno : ¬ ((((items.size : Nat) : Int) - 1 == 0 && (-1 : Int) == 1 && items.size == items.size) = true) := by
    intro q
    rw [Bool.and_eq_true, Bool.and_eq_true] at q
    exact absurd q.1.2 (by decide)
  show wpAny _ _ (if (((items.size : Nat) : Int) - 1 == 0 && (-1 : Int) == 1 && items.size == items.size) = true then _ else _) _ _ s
  rw [if_neg hno, pick_rev]
  first
    | exact wpAny_bind (m := Builtin.Tuple.tupleExact _) (wpAny_newObj_type (wpAny_pure ⟨_, rfl, wpAny_pure h⟩) htake)
    | exact wpAny_bind (m := Builtin.Tuple.tupleExact _) (wpAny_newObj_type (wpAny_bind (wpAny_pure (wpAny_pure ⟨_, rfl, wpAny_pure h⟩))) htake)
    | exact wpAny_bind (wpAny_bind (m := Builtin.Tuple.tupleExact _) (wpAny_newObj_type (wpAny_pure (wpAny_pure ⟨_, rfl, wpAny_pure h⟩)) htake))
    | exact wpAny_bind (wpAny_bind (m := Builtin.Tuple.tupleExact _) (wpAny_newObj_type (wpAny_pure ⟨_, rfl, wpAny_pure h⟩) htake))
end
/-- what x[::-1] is, by values: a list's is a new list, a tuple's a new tuple -/
def rRev (K : PySem.W.Frag) : V → Hp → VK → Prop := fun x H Q => ∃ a xs, x = .ref a ∧ ((SqL K H a xs ∧ ∀ p, H p = none → Q (.ref p) (upd H p (.lst xs.reverse))) ∨ (SqT K H a xs ∧ ∀ p, H p = none → Q (.ref p) (upd H p (.tup xs.reverse))))
theorem pe_revA {X : Cx} {e : Expr} {te : TE} {k : Nat} {p1 p2 p3 pos : Pos} {r : V → Hp → VK → Prop} (hr : ∀ (pins : List (Addr × Obj)) (s : Shared) (σ : L2.St) (H : Hp) (x : V) (Q : VK), Inv X pins σ H s → r x H Q → rRev X.K x H Q) (he : PE X e te) : PE X (.Subscript e (.Slice none none (some (.UnaryOp .USub (.Constant (.int 1) k p1) p2)) p3) pos) (fun σ H Q => te σ H fun x H1 => r x H1 Q) := by
  refine ⟨fun pins s σ H Q I h => ?_⟩
  refine Subscript_ (thn (he.run pins s σ H _ I h) fun v s1 ⟨x, H1, I1, r1, q1⟩ => ?_)
  obtain ⟨a, xs, ex, q⟩ := hr pins s1 σ H1 x Q I1 q1
  subst ex
  cases r1
  have hst : PO X (some (.UnaryOp .USub (.Constant (.int 1) k p1) p2)) (tPart (tUn (rU fun i => .int (-i)) (tC (.int 1)))) := po_some (pe_un un_neg pe_int)
  refine wpAny_Slice (thn (po_none.run pins s1 σ H1 (fun o H2 => o = none ∧ H2 = H1) I1 ⟨rfl, rfl⟩) fun vl s2 ⟨l, H2, I2, pl, el, e2⟩ => ?_)
  subst el e2
  refine thn (po_none.run pins s2 σ H2 (fun o H3 => o = none ∧ H3 = H2) I2 ⟨rfl, rfl⟩) fun vu s3 ⟨u, H3, I3, pu, eu, e3⟩ => ?_
  subst eu e3
  refine thn (hst.run pins s3 σ H3 (fun o H4 => o = some (-1) ∧ H4 = H3) I3 ⟨1, rfl, -1, rfl, rfl, rfl⟩) fun vs s4 ⟨o, H4, I4, ps, eo, e4⟩ => ?_
  subst eo e4
  have I5 : Inv X pins σ H4 { s4 with heap := s4.heap.push { cls := .type "slice", data := .fields #[vl, vu, vs] } } := I4.kept (t' := s4.toks) fun b ob q => Heap.get?_push_of_some _ q
  show wpAny (model X.prog X.w) X.A (subscriptTail e (.Slice none none (some (.UnaryOp .USub (.Constant (.int 1) k p1) p2)) p3) (.ref a) (.ref s4.heap.objs.size)) (EP X pins σ Q) X.xe { s4 with heap := s4.heap.push { cls := .type "slice", data := .fields #[vl, vu, vs] } }
  rcases q with ⟨hx, q⟩ | ⟨hx, q⟩
  · obtain ⟨its, r, ht, hz⟩ := I5.list hx
    have hlen := r.length
    refine tail_any (ops := [.ref a, .ref s4.heap.objs.size]) ht.isList.typeIs (PySem.slot_list_getitem.lookup) ?_ (by with_unfolding_all rfl)
    refine wpAny_getItem_list_slice ht.isList (Heap.IsSliceOf.new _ vl vu vs) pl pu ps (by decide) ?_ (by rw [List.size_toArray]; omega)
    rw [PySem.W.krv_pick]
    refine ⟨.ref _, _, I5.laid (t' := s4.toks) (o := .lst xs.reverse) (fun b ob q => Heap.get?_push_of_some _ q) (Nat.le_refl _) ?_, rfl, q _ (I5.hok.fresh (Nat.le_refl _))⟩
    exact ⟨by rw [List.length_reverse]; exact hz, _, 0, r.reverse, Heap.get?_push_size _ rfl⟩
  · obtain ⟨its, r, ht, hz⟩ := I5.tuple hx
    have hlen := r.length
    cases pl
    cases pu
    refine tail_any (ops := [.ref a, .ref s4.heap.objs.size]) ht.typeIs PyProof.Rows.slot_tuple_getitem.lookup ?_ (by with_unfolding_all rfl)
    refine getItem_tuple_rev ht (Heap.IsSliceOf.new _ .none .none vs) ps ?_ (by rw [List.size_toArray]; omega)
    refine ⟨.ref _, _, I5.laid (t' := s4.toks) (o := .tup xs.reverse) (fun b ob q => Heap.get?_push_of_some _ q) (Nat.le_refl _) ?_, rfl, q _ (I5.hok.fresh (Nat.le_refl _))⟩
    exact ⟨by rw [List.length_reverse]; exact hz, _, r.reverse, IsTup.new _ _⟩
end Tr

set_option Elab.async false
set_option linter.all false
/-! A small language (IR), its interpreter over PyData. Lists and dicts that a frame owns live in its slots. -/
namespace Tr
open PySem

abbrev D := PySem.PyData


/-- a value: frozen data; a list, a dict that is owned by whoever holds it; an owned list of owned lists; the script (read alone); pins: ghosts of proofs, a standing list, tuple by its exact items -/
inductive Vl where
  | fz (d : D)
  | ol (ds : List D)
  | od (kvs : List (D × D))
  | oo (xss : List (List D))
  | scr (ns : List Int)
  | pinL (xs : List L2.V)
  | pinT (xs : List L2.V)

def Vl.strip : Vl → D
  | .fz d => d
  | .ol ds => .list ds
  | .od kvs => .dict kvs
  | .oo xss => .list (xss.map .list)
  | _ => .none
/-- what may be looked at: not a list of owned lists -/
def Vl.flat : Vl → Option D
  | .fz d => some d
  | .ol ds => some (.list ds)
  | .od kvs => some (.dict kvs)
  | .scr ns => some (.list (ns.map .int))
  | _ => none
/-- .. for what makes a new list out of it -/
def Vl.flatM : Vl → Option D
  | .scr _ => none
  | x => x.flat
def Vl.isFz : Vl → Bool
  | .fz _ => true
  | .scr _ => true
  | _ => false

/-- data, or a list, a dict of one's own -/
def Vl.own : Vl → Bool
  | .fz _ => true
  | .ol _ => true
  | .od _ => true
  | .oo _ => true
  | _ => false
abbrev Fm := List (Option Vl)
abbrev R (α : Type) := Option (α × Fm)
/-- an operand that waits: a slot (looked at when all operands are there), a value -/
inductive Pd where
  | sl (i : Nat)
  | st (x : Vl)

inductive Bop where
  | add | sub | mul | fdiv | mod | pow
  deriving DecidableEq
inductive Cop where
  | eq | ne | lt | le | gt | ge | isin | notin
  deriving DecidableEq
/-- what isinstance asks for -/
inductive Ty where
  | int | bool | tuple | str
  deriving DecidableEq
inductive Bi where
  | len | abs | max | min | sum | int | str | repr | list | tuple | sorted | all | dict
  | isinst (t : Ty)
  | lrange
  | divmod
  deriving DecidableEq
/-- methods that look alone -/
inductive Mt where
  | get1 | get2 | index | count
  deriving DecidableEq
inductive Tg where
  | n (i : Nat)
  | t (ts : List Tg)

mutual
inductive E where
  | con (d : D)
  | var (i : Nat)
  | glb (d : D)
  | tup (es : List E)
  | lst (es : List E)
  | dct (ks : List E) (vs : List E)
  | bin (op : Bop) (a b : E)
  | neg (a : E)
  | not (a : E)
  | cmp (op : Cop) (a b : E)
  | chn (op1 op2 : Cop) (a b c : E)
  | isc (a : E) (c : D) (no : Bool)
  | and (a b : E)
  | or (a b : E)
  | ite (c a b : E)
  | idx (a i : E)
  | idx2 (s : Nat) (i : E) (j : Nat)
  | slc (a : E) (lo hi : Option E) (back : Bool)
  | call (f : Nat) (args : List E)
  | bi (b : Bi) (os : List E)
  | mth (m : Mt) (a : E) (os : List E)
  | pop (s : Nat)
  | comp (elt : E) (tg : Tg) (it : It) (cond : Option E) (ws : List Nat) (own : Bool)
  | comp2 (elt : E) (tg : Tg) (it : It) (cond : Option E) (tg1 : Tg) (it1 : It) (cond1 : Option E) (ws ws1 : List Nat)
  | callk (f : Nat) (args : List E) (perm : List Nat)
inductive It where
  | li (e : E)
  | rg1 (a : E)
  | rg2 (a b : E)
  | en (e : E)
  | zp (a b : E)
  | im (e : E)
end
inductive S where
  | asg (tg : Tg) (e : E)
  | par (is : List Nat) (es : List E)
  | sidx (s : Nat) (i v : E)
  | sidx2 (s : Nat) (i : E) (j : Nat) (v : E)
  | exp (e : E)
  | app (s : Nat) (e : E)
  | ext (s : Nat) (e : E)
  | ret (e : E)
  | retv (s : Nat)
  | retN
  | iff (c : E) (a b : List S)
  | for (tg : Tg) (it : It) (body : List S)
  | whl (c : E) (body : List S)
  | nop
  | stop
structure Fn where
  np : Nat
  ns : Nat
  body : List S

/-! ### operations on data -/
def okSz (n : Nat) : Bool := decide (n ≤ 16777216)
def truD : D → Bool
  | .none => false
  | .bool b => b
  | .int i => i != 0
  | .str x => x.length != 0
  | .list xs => !xs.isEmpty
  | .tuple xs => !xs.isEmpty
  | .dict kvs => !kvs.isEmpty
def okTru : D → Bool
  | .str x => okSz x.length
  | _ => true
def repD (k : Int) (xs : List D) : List D := (List.replicate k.toNat xs).flatten
def binD : Bop → D → D → Option Vl
  | .add, .int a, .int b => some (.fz (.int (a + b)))
  | .add, .str a, .str b => if okSz (a.length + b.length) then some (.fz (.str (a ++ b))) else none
  | .add, .tuple a, .tuple b => if okSz (a.length + b.length) then some (.fz (.tuple (a ++ b))) else none
  | .add, .list a, .list b => if okSz (a.length + b.length) then some (.ol (a ++ b)) else none
  | .sub, .int a, .int b => some (.fz (.int (a - b)))
  | .mul, .int a, .int b => if decide (a.natAbs < 18446744073709551616) || decide (b.natAbs < 18446744073709551616) || decide (a.natAbs.log2 + b.natAbs.log2 < 1000000) then some (.fz (.int (a * b))) else none
  | .mul, .tuple a, .int k => if decide (-1000 ≤ k) && decide (k ≤ 1000) && decide (a.length ≤ 1000) then some (.fz (.tuple (repD k a))) else none
  | .mul, .list a, .int k => if decide (k ≤ 1000) && decide (-1000 ≤ k) && decide (a.length ≤ 1000) then some (.ol (repD k a)) else none
  | .fdiv, .int a, .int b => if decide (0 < b) && decide (b < 1073741824) then some (.fz (.int (a / b))) else none
  | .mod, .int a, .int b => if decide (0 < b) then some (.fz (.int (a % b))) else none
  | .pow, .int a, .int b => if decide (0 ≤ b) && decide (b ≤ 1000000) && decide (a.natAbs < 18446744073709551616) then some (.fz (.int (a ^ b.toNat))) else none
  | _, _, _ => none
def okEq (a b : D) : Bool := SeqAt.shaped a && SeqAt.shaped b
def inD (x : D) (xs : List D) : Bool := xs.any fun y => PyData.eqv y x
def cmpD : Cop → D → D → Option Bool
  | .eq, .str a, .str b => some (decide (a = b))
  | .ne, .str a, .str b => some (!decide (a = b))
  | .eq, a, b => if okEq a b then some (PyData.eqv a b) else none
  | .ne, a, b => if okEq a b then some (!PyData.eqv a b) else none
  | .lt, .int a, .int b => some (decide (a < b))
  | .le, .int a, .int b => some (decide (a ≤ b))
  | .gt, .int a, .int b => some (decide (b < a))
  | .ge, .int a, .int b => some (decide (b ≤ a))
  | .isin, a, .tuple xs => if SeqAt.shaped a && xs.all SeqAt.shaped then some (inD a xs) else none
  | .isin, a, .list xs => if SeqAt.shaped a && xs.all SeqAt.shaped then some (inD a xs) else none
  | .notin, a, .tuple xs => if SeqAt.shaped a && xs.all SeqAt.shaped then some (!inD a xs) else none
  | .notin, a, .list xs => if SeqAt.shaped a && xs.all SeqAt.shaped then some (!inD a xs) else none
  | _, _, _ => none
/-- the place in a sequence of n -/
def placeD (n : Nat) (i : Int) : Option Nat := L2.ixN n i
def idxD : D → D → Option D
  | .list xs, .int i => (placeD xs.length i).bind fun j => xs[j]?
  | .tuple xs, .int i => (placeD xs.length i).bind fun j => xs[j]?
  | .str z, .int i => if okSz z.length then (placeD z.length i).bind fun j => z.cps.toList[j]?.map fun c => .str ⟨#[c]⟩ else none
  | _, _ => none
def cutL {α : Type} (xs : List α) (lo hi : Option Int) : List α := (xs.drop (HT.sIx xs.length 0 lo)).take (HT.sIx xs.length xs.length hi - HT.sIx xs.length 0 lo)
def slcD (back : Bool) (lo hi : Option Int) : D → Option Vl
  | .tuple xs => if back then (if lo.isNone && hi.isNone then some (.fz (.tuple xs.reverse)) else none) else some (.fz (.tuple (cutL xs lo hi)))
  | .list xs => if back then (if lo.isNone && hi.isNone then some (.ol xs.reverse) else none) else some (.ol (cutL xs lo hi))
  | .str z => if back then none else if okSz z.length then some (.fz (.str ⟨(cutL z.cps.toList lo hi).toArray⟩)) else none
  | _ => none
def intsD : List D → Option (List Int)
  | [] => some []
  | .int i :: r => (intsD r).map (i :: ·)
  | _ => none
def boolsD : List D → Option (List Bool)
  | [] => some []
  | .bool i :: r => (boolsD r).map (i :: ·)
  | _ => none
def seqD : D → Option (List D)
  | .list xs => some xs
  | .tuple xs => some xs
  | _ => none
def isTy : Ty → D → Bool
  | .int, .int _ => true
  | .int, .bool _ => true
  | .bool, .bool _ => true
  | .tuple, .tuple _ => true
  | .str, .str _ => true
  | _, _ => false
def okShow (d : D) : Bool := d.showable && decide (d.shown.length ≤ 16777216) && !d.hasDict && decide (d.depth ≤ 64)
def allAlikeB (xs : List D) : Bool := xs.all fun x => xs.all fun y => PySem.W.alike x y
def isTup1 : D → Bool
  | .tuple (_ :: _) => true
  | _ => false
def noTup : D → Bool
  | .none => false
  | .tuple _ => false
  | _ => true
def okSort (xs : List D) : Bool := allAlikeB xs && (xs.all isTup1 || xs.all noTup) && okSz xs.length && xs.all fun d => decide (d.depth ≤ 64)
def okMin (xs : List D) : Bool := allAlikeB xs && xs.all (fun x => match x with
  | .none => false
  | _ => true) && decide (PyData.depthAll xs ≤ 64)
def sortD (xs : List D) : List D := xs.mergeSort (PySem.W.dataLe false id)
def biD : Bi → List D → Option Vl
  | .len, [d] => (match d with
    | .str x => if okSz x.length then some (.fz (.int x.length)) else none
    | .list xs => some (.fz (.int xs.length))
    | .tuple xs => some (.fz (.int xs.length))
    | _ => none)
  | .abs, [.int i] => some (.fz (.int (if i < 0 then -i else i)))
  | .max, [.int i, .int j] => some (.fz (.int (if j > i then j else i)))
  | .min, [.int i, .int j] => some (.fz (.int (if j < i then j else i)))
  | .max, [d] => (seqD d).bind fun xs => if okMin xs then (match xs with
    | x :: r => some (.fz (PySem.W.maxD x r))
    | [] => none) else none
  | .min, [d] => (seqD d).bind fun xs => if okMin xs then (match xs with
    | x :: r => some (.fz (PySem.W.minD x r))
    | [] => none) else none
  | .sum, [.list xs] => (intsD xs).map fun ns => .fz (.int ns.sum)
  | .sum, [.tuple xs] => (intsD xs).map fun ns => .fz (.int ns.sum)
  | .int, [.int i] => some (.fz (.int i))
  | .int, [.bool b] => some (.fz (.int (if b then 1 else 0)))
  | .str, [.int i] => if decide (i.natAbs.log2 < 1920) then some (.fz (.str (toString i))) else none
  | .repr, [d] => if okShow d then some (.fz (.str d.shown)) else none
  | .list, [d] => (seqD d).map fun xs => .ol xs
  | .tuple, [d] => (seqD d).map fun xs => .fz (.tuple xs)
  | .sorted, [.list xs] => if okSort xs then some (.ol (sortD xs)) else none
  | .all, [.list xs] => (boolsD xs).map fun bs => .fz (.bool (bs.all id))
  | .divmod, [.int a, .int b] => if decide (0 < b) && decide (b < 1073741824) then some (.fz (.tuple [.int (a / b), .int (a % b)])) else none
  | .isinst t, [d] => some (.fz (.bool (isTy t d)))
  | .lrange, [.int n] => if decide (n ≤ 1000) && decide (-1000 ≤ n) then some (.ol ((List.range n.toNat).map fun (i : Nat) => .int (i : Int))) else none
  | _, _ => none

/-! ### frames -/
def setAt (i : Nat) (x : Vl) (fr : Fm) : Fm := fr.set i (some x)
/-- the operand's content just now -/
def look (fr : Fm) : Pd → Option D
  | .sl i => match fr[i]? with
    | some (some x) => x.flat
    | _ => none
  | .st x => x.flat
def lookM (fr : Fm) : Pd → Option D
  | .sl i => match fr[i]? with
    | some (some x) => x.flatM
    | _ => none
  | .st x => x.flatM
def looks (fr : Fm) : List Pd → Option (List D)
  | [] => some []
  | p :: ps => (look fr p).bind fun d => (looks fr ps).map (d :: ·)
/-- an operand becomes a value that is handed on: what a slot owns is frozen by it -/
def force : Pd → Fm → R Vl
  | .sl i, fr => match fr[i]? with
    | some (some (.fz d)) => some (.fz d, fr)
    | some (some (.ol ds)) => some (.fz (.list ds), fr.set i (some (.fz (.list ds))))
    | some (some (.od kvs)) => some (.fz (.dict kvs), fr.set i (some (.fz (.dict kvs))))
    | some (some (.oo xss)) => some (.fz (.list (xss.map .list)), fr.set i (some (.fz (.list (xss.map .list)))))
    | _ => none
  | .st x, fr => if x.own then some (x, fr) else none
/-- arguments: what a slot owns is lent -/
def lend : List Pd → Fm → Option (List Vl × Fm)
  | [], fr => some ([], fr)
  | .st x :: ps, fr => (lend ps fr).map fun r => (x :: r.1, r.2)
  | .sl i :: ps, fr => match fr[i]? with
    | some (some (.fz d)) => (lend ps fr).map fun r => (.fz d :: r.1, r.2)
    | some (some (.scr ns)) => (lend ps fr).map fun r => (.scr ns :: r.1, r.2)
    | some (some x) => (lend ps (fr.set i none)).map fun r => (x :: r.1, r.2)
    | _ => none
def give : List Pd → List Vl → Fm → Fm
  | .sl i :: ps, x :: xs, fr => give ps xs (match fr[i]? with
    | some none => fr.set i (some x)
    | _ => fr)
  | .st _ :: ps, _ :: xs, fr => give ps xs fr
  | _, _, fr => fr
def froz : List Vl → List D := List.map Vl.strip
def noOo : Vl → Bool
  | .fz _ => true
  | .ol _ => true
  | .od _ => true
  | _ => false
mutual
def putTg (lk : List Nat) : Tg → Vl → Fm → Option Fm
  | .n i, x, fr => if lk.contains i || decide (fr.length ≤ i) then none else some (fr.set i (some x))
  | .t ts, .fz (.tuple ds), fr => putTgs lk ts ds fr
  | .t _, _, _ => none
def putTgs (lk : List Nat) : List Tg → List D → Fm → Option Fm
  | [], [], fr => some fr
  | t :: ts, d :: ds, fr => (putTg lk t (.fz d) fr).bind fun fr1 => putTgs lk ts ds fr1
  | _, _, _ => none
end
def putTgsV (lk : List Nat) : List Nat → List Vl → Fm → Option Fm
  | [], [], fr => some fr
  | i :: is, x :: xs, fr => (putTg lk (.n i) x fr).bind fun fr1 => putTgsV lk is xs fr1
  | _, _, _ => none
def wipeP {α : Type} (ws : List Nat) : Nat → List (Option α) → List (Option α)
  | _, [] => []
  | k, x :: xs => (if ws.contains k then none else x) :: wipeP ws (k + 1) xs
def keepP {α : Type} (ws : List Nat) : Nat → List (Option α) → List (Option α)
  | _, [] => []
  | k, x :: xs => (if ws.contains k then x else none) :: keepP ws (k + 1) xs
def mixP {α : Type} (ws : List Nat) : Nat → List (Option α) → List (Option α) → List (Option α)
  | k, x :: xs, y :: ys => (if ws.contains k then x else y) :: mixP ws (k + 1) xs ys
  | _, _, _ => []
def wipeF (fr : Fm) (ws : List Nat) : Fm := wipeP ws 0 fr
def unwipe (old : Fm) (fr : Fm) (ws : List Nat) : Fm := mixP ws 0 old fr
def pairs : List D → List D → List D
  | x :: xs, y :: ys => .tuple [x, y] :: pairs xs ys
  | _, _ => []
def rangeD (a b : Int) : List D := (List.range (b - a).toNat).map fun (i : Nat) => .int (a + (i : Int))
def enumD (xs : List D) : List D := pairs ((List.range xs.length).map fun (i : Nat) => .int (i : Int)) xs
def smallI (i : Int) : Bool := decide (-(2 ^ 62) ≤ i) && decide (i < 2 ^ 62)

/-- the turns of a comprehension -/
def compN (turn : D → Fm → R (Option Vl)) : List D → Fm → R (List Vl)
  | [], fr => some ([], fr)
  | d :: ds, fr => (turn d fr).bind fun r => (compN turn ds r.2).map fun q => (match r.1 with
    | some x => x :: q.1
    | none => q.1, q.2)
def compFl (turn : D → Fm → R (List Vl)) : List D → Fm → R (List Vl)
  | [], fr => some ([], fr)
  | d :: ds, fr => (turn d fr).bind fun r => (compFl turn ds r.2).map fun q => (r.1 ++ q.1, q.2)
def pickP {α : Type} (xs : List α) : List Nat → Option (List α)
  | [] => some []
  | i :: is => (xs[i]?).bind fun x => (pickP xs is).map (x :: ·)
inductive Sg where
  | nx
  | rt (x : Vl)
def forN (turn : D → Fm → R Sg) : List D → Fm → R Sg
  | [], fr => some (.nx, fr)
  | d :: ds, fr => (turn d fr).bind fun r => match r.1 with
    | .nx => forN turn ds r.2
    | .rt x => some (.rt x, r.2)
def whileN (test : Fm → R Bool) (body : Fm → R Sg) : Nat → Fm → R Sg
  | 0, _ => none
  | n + 1, fr => (test fr).bind fun c => if c.1 then (body c.2).bind fun r => match r.1 with
      | .nx => whileN test body n r.2
      | .rt x => some (.rt x, r.2)
    else some (.nx, c.2)
/-- the most turns of a while: more than any here takes -/
def fuel : Nat := 2 ^ 40
def olsOf : List Vl → Option (List (List D))
  | [] => some []
  | .ol ds :: r => (olsOf r).map (ds :: ·)
  | _ => none
/-- what functions answer: the value, and what the parameters hold then -/
abbrev Fs := Nat → List Vl → Option (Vl × List Vl)
section
variable (G : Fs)
mutual
def ev : E → Fm → R Pd
  | .con d, fr => some (.st (.fz d), fr)
  | .glb d, fr => some (.st (.fz d), fr)
  | .var i, fr => match fr[i]? with
    | some (some _) => some (.sl i, fr)
    | _ => none
  | .tup es, fr => (gens es fr).bind fun r => if okSz r.1.length then some (.st (.fz (.tuple (froz r.1))), r.2) else none
  | .lst es, fr => (gens es fr).bind fun r => if okSz r.1.length then some (.st (.ol (froz r.1)), r.2) else none
  | .dct _ _, _ => none
  | .bin op a b, fr => (ev a fr).bind fun p => (ev b p.2).bind fun q => (lookM q.2 p.1).bind fun x => (lookM q.2 q.1).bind fun y => (binD op x y).map fun z => (.st z, q.2)
  | .neg a, fr => (ev a fr).bind fun p => match look p.2 p.1 with
    | some (.int i) => some (.st (.fz (.int (-i))), p.2)
    | _ => none
  | .not a, fr => (ev a fr).bind fun p => (look p.2 p.1).bind fun d => if okTru d then some (.st (.fz (.bool (!truD d))), p.2) else none
  | .cmp op a b, fr => (ev a fr).bind fun p => (ev b p.2).bind fun q => (look q.2 p.1).bind fun x => (look q.2 q.1).bind fun y => (cmpD op x y).map fun z => (.st (.fz (.bool z)), q.2)
  | .chn op1 op2 a b c, fr => (ev a fr).bind fun p => (ev b p.2).bind fun q => (look q.2 p.1).bind fun x => (look q.2 q.1).bind fun y => (cmpD op1 x y).bind fun z =>
      if z then (ev c q.2).bind fun r => (look r.2 q.1).bind fun y' => (look r.2 r.1).bind fun w => (cmpD op2 y' w).map fun z' => (.st (.fz (.bool z')), r.2)
      else some (.st (.fz (.bool false)), q.2)
  | .isc a c no, fr => (ev a fr).bind fun p => (look p.2 p.1).bind fun x => match c, x with
    | .none, .none => some (.st (.fz (.bool (!no))), p.2)
    | .none, _ => some (.st (.fz (.bool no)), p.2)
    | .bool b, .bool b' => some (.st (.fz (.bool ((b == b') != no))), p.2)
    | _, _ => none
  | .and a b, fr => (ev a fr).bind fun p => (force p.1 p.2).bind fun x => match x.1 with
    | .fz (.bool true) => ev b x.2
    | .fz (.bool false) => some (.st (.fz (.bool false)), x.2)
    | .fz d => if okTru d then (if truD d then ev b x.2 else some (.st (.fz d), x.2)) else none
    | _ => none
  | .or a b, fr => (ev a fr).bind fun p => (force p.1 p.2).bind fun x => match x.1 with
    | .fz (.bool true) => some (.st (.fz (.bool true)), x.2)
    | .fz (.bool false) => ev b x.2
    | .fz d => if okTru d then (if truD d then some (.st (.fz d), x.2) else ev b x.2) else none
    | _ => none
  | .ite c a b, fr => (tru c fr).bind fun t => if t.1 then ev a t.2 else ev b t.2
  | .idx a i, fr => (ev a fr).bind fun p => (ev i p.2).bind fun q => (look q.2 p.1).bind fun x => (look q.2 q.1).bind fun y => (idxD x y).map fun z => (.st (.fz z), q.2)
  | .idx2 s i j, fr => match fr[s]? with
    | some (some (.oo _)) => (ev i fr).bind fun p => match look p.2 p.1, p.2[s]?, p.2[j]? with
      | some (.int a), some (some (.oo xss)), some (some (.fz (.int b))) => (placeD xss.length a).bind fun k => (xss[k]?).bind fun xs => match idxD (.list xs) (.int b) with
        | some (.int z) => some (.st (.fz (.int z)), p.2)
        | _ => none
      | _, _, _ => none
    | _ => none
  | .slc a lo hi back, fr => (ev a fr).bind fun p => (part lo p.2).bind fun l => (part hi l.2).bind fun u => (look u.2 p.1).bind fun x => (slcD back l.1 u.1 x).map fun z => (.st z, u.2)
  | .call f args, fr => (evs args fr).bind fun r => (lend r.1 r.2).bind fun q => (G f q.1).map fun a => (.st a.1, give r.1 a.2 q.2)
  | .bi b os, fr => (evs os fr).bind fun r => (looks r.2 r.1).bind fun ds => (biD b ds).map fun z => (.st z, r.2)
  | .mth _ _ _, _ => none
  | .pop _, _ => none
  | .comp elt tg it cond ws own, fr => (its it fr).bind fun q =>
      (compN (fun d fr1 => (putTg [] tg (.fz d) (wipeF fr1 ws)).bind fun fr2 => (truO cond fr2).bind fun t => if t.1 then (ev elt t.2).bind fun p => (force p.1 p.2).map fun x => (some x.1, x.2) else some (none, t.2)) q.1 q.2).bind fun r =>
      if okSz r.1.length then (if own then (olsOf r.1).map fun xss => (.st (.oo xss), unwipe q.2 r.2 ws) else some (.st (.ol (froz r.1)), unwipe q.2 r.2 ws)) else none
  | .comp2 elt tg it cond tg1 it1 cond1 ws ws1, fr => (its it fr).bind fun q =>
      (compFl (fun d fr1 => (putTg [] tg (.fz d) (wipeF fr1 ws)).bind fun fr2 => (truO cond fr2).bind fun t => if t.1 then (its it1 t.2).bind fun q1 =>
        compN (fun d fr1 => (putTg [] tg1 (.fz d) (wipeF fr1 ws1)).bind fun fr2 => (truO cond1 fr2).bind fun t => if t.1 then (ev elt t.2).bind fun p => (force p.1 p.2).map fun x => (some x.1, x.2) else some (none, t.2)) q1.1 q1.2 else some ([], t.2)) q.1 q.2).bind fun r =>
      if okSz r.1.length then some (.st (.ol (froz r.1)), unwipe q.2 r.2 ws) else none
  | .callk f args perm, fr => (evs args fr).bind fun r => (pickP r.1 perm).bind fun ps => (lend ps r.2).bind fun q => (G f q.1).map fun a => (.st a.1, give ps a.2 q.2)
def evs : List E → Fm → R (List Pd)
  | [], fr => some ([], fr)
  | e :: es, fr => (ev e fr).bind fun p => (evs es p.2).map fun r => (p.1 :: r.1, r.2)
def gens : List E → Fm → R (List Vl)
  | [], fr => some ([], fr)
  | e :: es, fr => (ev e fr).bind fun p => (force p.1 p.2).bind fun x => (gens es x.2).map fun r => (x.1 :: r.1, r.2)
def part : Option E → Fm → R (Option Int)
  | none, fr => some (none, fr)
  | some e, fr => (ev e fr).bind fun p => match look p.2 p.1 with
    | some (.int i) => some (some i, p.2)
    | _ => none
def tru : E → Fm → R Bool
  | .and a b, fr => (tru a fr).bind fun t => if t.1 then tru b t.2 else some (false, t.2)
  | .or a b, fr => (tru a fr).bind fun t => if t.1 then some (true, t.2) else tru b t.2
  | .not a, fr => (tru a fr).map fun t => (!t.1, t.2)
  | .ite _ _ _, _ => none
  | e, fr => (ev e fr).bind fun p => (look p.2 p.1).bind fun d => if okTru d then some (truD d, p.2) else none
def truO : Option E → Fm → R Bool
  | none, fr => some (true, fr)
  | some e, fr => tru e fr
def its : It → Fm → R (List D)
  | .li e, fr => (ev e fr).bind fun p => (force p.1 p.2).bind fun x => match x.1 with
    | .fz (.list ds) => some (ds, x.2)
    | .fz (.tuple ds) => some (ds, x.2)
    | .ol ds => some (ds, x.2)
    | _ => none
  | .rg1 a, fr => (ev a fr).bind fun p => match look p.2 p.1 with
    | some (.int n) => if smallI n then some (rangeD 0 n, p.2) else none
    | _ => none
  | .rg2 a b, fr => (ev a fr).bind fun p => (ev b p.2).bind fun q => match look q.2 p.1, look q.2 q.1 with
    | some (.int m), some (.int n) => if smallI m && smallI n then some (rangeD m n, q.2) else none
    | _, _ => none
  | .en e, fr => (ev e fr).bind fun p => (force p.1 p.2).bind fun x => match x.1 with
    | .fz (.list ds) => some (enumD ds, x.2)
    | .fz (.tuple ds) => some (enumD ds, x.2)
    | .ol ds => some (enumD ds, x.2)
    | _ => none
  | .zp a b, fr => (ev a fr).bind fun p => (force p.1 p.2).bind fun x => (ev b x.2).bind fun q => (force q.1 q.2).bind fun y => match x.1.strip, y.1.strip with
    | .list xs, .list ys => some (pairs xs ys, y.2)
    | .tuple xs, .tuple ys => some (pairs xs ys, y.2)
    | .tuple xs, .list ys => some (pairs xs ys, y.2)
    | .list xs, .tuple ys => some (pairs xs ys, y.2)
    | _, _ => none
  | .im _, _ => none
end
mutual
def exec (lk : List Nat) : S → Fm → R Sg
  | .asg tg e, fr => (ev G e fr).bind fun p => (force p.1 p.2).bind fun x => (putTg lk tg x.1 x.2).map fun fr1 => (.nx, fr1)
  | .par is es, fr => (gens G es fr).bind fun r => if is.length == r.1.length && is.Nodup then (putTgsV lk is r.1 r.2).map fun fr1 => (.nx, fr1) else none
  | .sidx s i v, fr => (ev G v fr).bind fun p => (force p.1 p.2).bind fun x => match x.2[s]? with
    | some (some (.ol _)) => (ev G i x.2).bind fun q => match look q.2 q.1, q.2[s]? with
      | some (.int k), some (some (.ol ds)) => (placeD ds.length k).map fun j => (.nx, q.2.set s (some (.ol (ds.set j x.1.strip))))
      | _, _ => none
    | _ => none
  | .sidx2 s i j v, fr => (ev G v fr).bind fun p => (force p.1 p.2).bind fun x => match x.1, x.2[s]? with
    | .fz (.int n), some (some (.oo _)) => (ev G i x.2).bind fun q => match look q.2 q.1, q.2[s]?, q.2[j]? with
      | some (.int a), some (some (.oo xss)), some (some (.fz (.int b))) => (placeD xss.length a).bind fun k => (xss[k]?).bind fun xs => (placeD xs.length b).map fun m => (.nx, q.2.set s (some (.oo (xss.set k (xs.set m (.int n))))))
      | _, _, _ => none
    | _, _ => none
  | .exp e, fr => (ev G e fr).map fun p => (.nx, p.2)
  | .app s e, fr => match fr[s]? with
    | some (some (.ol _)) => (ev G e fr).bind fun p => (force p.1 p.2).bind fun x => match x.2[s]? with
      | some (some (.ol ds)) => if decide (ds.length < 16777216) then some (.nx, x.2.set s (some (.ol (ds ++ [x.1.strip])))) else none
      | _ => none
    | _ => none
  | .ext _ _, _ => none
  | .ret e, fr => (ev G e fr).bind fun p => (force p.1 p.2).map fun x => (.rt x.1, x.2)
  | .retv s, fr => match fr[s]? with
    | some (some x) => if lk.contains s then none else some (.rt x, fr.set s none)
    | _ => none
  | .retN, fr => some (.rt (.fz .none), fr)
  | .iff c a b, fr => (tru G c fr).bind fun t => if t.1 then execs lk a t.2 else execs lk b t.2
  | .for tg it body, fr => (its G it fr).bind fun q => forN (fun d fr1 => (putTg lk tg (.fz d) fr1).bind fun fr2 => execs lk body fr2) q.1 q.2
  | .whl c body, fr => whileN (fun fr => tru G c fr) (fun fr => execs lk body fr) fuel fr
  | .nop, fr => some (.nx, fr)
  | .stop, _ => none
def execs (lk : List Nat) : List S → Fm → R Sg
  | [], fr => some (.nx, fr)
  | s :: ss, fr => (exec lk s fr).bind fun r => match r.1 with
    | .nx => execs lk ss r.2
    | .rt x => some (.rt x, r.2)
end
def ownIx : Nat → List Vl → List Nat
  | _, [] => []
  | i, x :: xs => if x.isFz then ownIx (i + 1) xs else i :: ownIx (i + 1) xs
def finals : List Vl → Fm → Option (List Vl)
  | [], _ => some []
  | x :: xs, o :: fr => if x.isFz then (finals xs fr).map (x :: ·) else match o with
    | some y => (finals xs fr).map (y :: ·)
    | none => none
  | _ :: _, [] => none
/-- a function's answer by its body -/
def runF (f : Fn) (xs : List Vl) : Option (Vl × List Vl) :=
  if xs.length == f.np && decide (f.np ≤ f.ns) then
    (execs G (ownIx 0 xs) f.body (xs.map some ++ List.replicate (f.ns - f.np) none)).bind fun r => (finals xs r.2).map fun ps => (match r.1 with
      | .nx => .fz .none
      | .rt x => x, ps)
  else none
end
/-- calls, to a depth -/
def callN (P : Nat → Option Fn) : Nat → Fs
  | 0 => fun _ _ => none
  | k + 1 => fun f xs => (P f).bind fun fn => runF (callN P k) fn xs
end Tr

set_option Elab.async false
set_option linter.all false
set_option maxRecDepth 100000
/-! What an IR value is in the layer's abstract heap; the live values with their own lists apart. -/
namespace Tr
open PySem PySem.Spec PyProof.Rows L2

section
variable (K : PySem.W.Frag) (F : Addr → Prop) (H : Hp)
/-- a list, a tuple that stands as long as what is owned (F) alone is written -/
def StL (a : Addr) (xs : List V) : Prop := H a = some (.lst xs) ∧ ¬ F a
def StT (a : Addr) (xs : List V) : Prop := (Rd H a (.tup xs) ∧ ¬ F a) ∨ SqT K (fun _ => none) a xs
/-- the script -/
def StS (a : Addr) (ns : List Int) : Prop := (∃ o : Obj, H a = some (.frz o (.lst (ns.map V.int))) ∧ ¬ F a) ∨ SqL K (fun _ => none) a (ns.map V.int)
mutual
inductive RelD : V → D → Prop
  | non : RelD .non .none
  | bl (b : Bool) : RelD (.bl b) (.bool b)
  | int (i : Int) : RelD (.int i) (.int i)
  | str (x : Str) : RelD (.str x) (.str x)
  | lst {a : Addr} {xs : List V} {ds : List D} : StL F H a xs → RelDs xs ds → RelD (.ref a) (.list ds)
  | tup {a : Addr} {xs : List V} {ds : List D} : StT K F H a xs → RelDs xs ds → RelD (.ref a) (.tuple ds)
inductive RelDs : List V → List D → Prop
  | nil : RelDs [] []
  | cons {v : V} {vs : List V} {d : D} {ds : List D} : RelD v d → RelDs vs ds → RelDs (v :: vs) (d :: ds)
end
/-- the owned inner lists -/
inductive RelOs : List V → List (List D) → List Addr → Prop
  | nil : RelOs [] [] []
  | cons {a : Addr} {xs : List V} {ds : List D} {vs : List V} {dss : List (List D)} {fs : List Addr} : H a = some (.lst xs) → RelDs K F H xs ds → RelOs vs dss fs → RelOs (.ref a :: vs) (ds :: dss) (a :: fs)
/-- a value and the addresses that it owns -/
inductive RelX : V → Vl → List Addr → Prop
  | fz {v : V} {d : D} : RelD K F H v d → RelX v (.fz d) []
  | ol {a : Addr} {xs : List V} {ds : List D} : H a = some (.lst xs) → RelDs K F H xs ds → RelX (.ref a) (.ol ds) [a]
  | oo {a : Addr} {xs : List V} {dss : List (List D)} {fs : List Addr} : H a = some (.lst xs) → RelOs K F H xs dss fs → RelX (.ref a) (.oo dss) (a :: fs)
  | pinL {a : Addr} {xs : List V} : StL F H a xs → RelX (.ref a) (.pinL xs) []
  | pinT {a : Addr} {xs : List V} : StT K F H a xs → RelX (.ref a) (.pinT xs) []
  | scr {a : Addr} {ns : List Int} : StS K F H a ns → RelX (.ref a) (.scr ns) []
inductive LRel : List (V × Vl) → List Addr → Prop
  | nil : LRel [] []
  | cons {v : V} {x : Vl} {L : List (V × Vl)} {f fs : List Addr} : RelX K F H v x f → LRel L fs → LRel ((v, x) :: L) (f ++ fs)
/-- an operand: frozen, or a list that is owned by someone, looked at just now -/
inductive RelO : V → D → Prop
  | fz {v : V} {d : D} : RelD K F H v d → RelO v d
  | ol {a : Addr} {xs : List V} {ds : List D} : H a = some (.lst xs) → RelDs K F H xs ds → RelO (.ref a) (.list ds)
  | scr {a : Addr} {ns : List Int} : StS K F H a ns → RelO (.ref a) (.list (ns.map .int))
/-- .. no script -/
inductive RelM : V → D → Prop
  | fz {v : V} {d : D} : RelD K F H v d → RelM v d
  | ol {a : Addr} {xs : List V} {ds : List D} : H a = some (.lst xs) → RelDs K F H xs ds → RelM (.ref a) (.list ds)
end
/-- all live values: what each owns is its own alone -/
def Live (K : PySem.W.Frag) (H : Hp) (L : List (V × Vl)) : Prop := ∃ fs : List Addr, fs.Nodup ∧ LRel K (· ∈ fs) H L fs
/-- operands beside the live values -/
def OpdM (K : PySem.W.Frag) (H : Hp) (vs : List V) (ds : List D) (L : List (V × Vl)) : Prop :=
  ∃ fs : List Addr, fs.Nodup ∧ LRel K (· ∈ fs) H L fs ∧ Paired (RelM K (· ∈ fs) H) vs ds
def Opd (K : PySem.W.Frag) (H : Hp) (vs : List V) (ds : List D) (L : List (V × Vl)) : Prop :=
  ∃ fs : List Addr, fs.Nodup ∧ LRel K (· ∈ fs) H L fs ∧ Paired (RelO K (· ∈ fs) H) vs ds

section
variable {K : PySem.W.Frag} {F F' : Addr → Prop} {H H' : Hp}
/-- what is tracked and not owned stays so -/
def Kp (F F' : Addr → Prop) (H H' : Hp) : Prop := ∀ a o, H a = some o → ¬ F a → H' a = some o ∧ ¬ F' a
theorem Rd.kp (k : Kp F F' H H') {a : Addr} {u : HO} (h : Rd H a u) (n : ¬ F a) : Rd H' a u ∧ ¬ F' a := by
  rcases h with e | ⟨o, e⟩
  · exact ⟨.inl (k _ _ e n).1, (k _ _ e n).2⟩
  · exact ⟨.inr ⟨o, (k _ _ e n).1⟩, (k _ _ e n).2⟩
theorem StL.kp (k : Kp F F' H H') {a : Addr} {xs : List V} (h : StL F H a xs) : StL F' H' a xs := k _ _ h.1 h.2
theorem StT.kp (k : Kp F F' H H') {a : Addr} {xs : List V} (h : StT K F H a xs) : StT K F' H' a xs := by
  rcases h with ⟨h, n⟩ | h
  · exact .inl (Rd.kp k h n)
  · exact .inr h
theorem StS.kp (k : Kp F F' H H') {a : Addr} {ns : List Int} (h : StS K F H a ns) : StS K F' H' a ns := by
  rcases h with ⟨o, h, n⟩ | h
  · exact .inl ⟨o, (k _ _ h n).1, (k _ _ h n).2⟩
  · exact .inr h
theorem no_rd {a : Addr} {u : HO} : ¬ Rd (fun _ => none) a u := by
  rintro (e | ⟨o, e⟩) <;> cases e
theorem StL.sq {a : Addr} {xs : List V} (h : StL F H a xs) : SqL K H a xs := SqL.of h.1
theorem StS.sq {a : Addr} {ns : List Int} (h : StS K F H a ns) : SqL K H a (ns.map V.int) := by
  rcases h with ⟨o, h, _⟩ | h
  · exact .inl (.inr ⟨o, h⟩)
  · rcases h with h | h
    · exact (no_rd h).elim
    · exact .inr h
theorem StT.sq {a : Addr} {xs : List V} (h : StT K F H a xs) : SqT K H a xs := by
  rcases h with ⟨h, _⟩ | h
  · exact .inl h
  · rcases h with h | h
    · exact (no_rd h).elim
    · exact .inr h
mutual
theorem RelD.kp (k : Kp F F' H H') : ∀ (d : D) (v : V), RelD K F H v d → RelD K F' H' v d
  | .none, _, h => by cases h; exact .non
  | .bool _, _, h => by cases h; exact .bl _
  | .int _, _, h => by cases h; exact .int _
  | .str _, _, h => by cases h; exact .str _
  | .list ds, _, h => by
    cases h with
    | lst h1 h2 => exact .lst (h1.kp k) (RelDs.kp k ds _ h2)
  | .tuple ds, _, h => by
    cases h with
    | tup h1 h2 => exact .tup (h1.kp k) (RelDs.kp k ds _ h2)
  | .dict _, _, h => by cases h
theorem RelDs.kp (k : Kp F F' H H') : ∀ (ds : List D) (vs : List V), RelDs K F H vs ds → RelDs K F' H' vs ds
  | [], _, h => by cases h; exact .nil
  | d :: ds, _, h => by
    cases h with
    | cons h1 h2 => exact .cons (RelD.kp k d _ h1) (RelDs.kp k ds _ h2)
end
theorem RelOs.kp (k : Kp F F' H H') {vs : List V} {dss : List (List D)} {fs : List Addr} (h : RelOs K F H vs dss fs) (ho : ∀ a ∈ fs, H' a = H a) : RelOs K F' H' vs dss fs := by
  induction h with
  | nil => exact .nil
  | cons h1 h2 _ ih => exact .cons ((ho _ List.mem_cons_self).trans h1) (RelDs.kp k _ _ h2) (ih fun a q => ho a (List.mem_cons_of_mem _ q))
theorem RelX.kp (k : Kp F F' H H') {v : V} {x : Vl} {f : List Addr} (h : RelX K F H v x f) (ho : ∀ a ∈ f, H' a = H a) : RelX K F' H' v x f := by
  cases h with
  | fz h => exact .fz (RelD.kp k _ _ h)
  | ol h1 h2 => exact .ol ((ho _ List.mem_cons_self).trans h1) (RelDs.kp k _ _ h2)
  | oo h1 h2 => exact .oo ((ho _ List.mem_cons_self).trans h1) (h2.kp k fun a q => ho a (List.mem_cons_of_mem _ q))
  | pinL h => exact .pinL (h.kp k)
  | pinT h => exact .pinT (h.kp k)
  | scr h => exact .scr (h.kp k)
theorem LRel.kp (k : Kp F F' H H') {L : List (V × Vl)} {fs : List Addr} (h : LRel K F H L fs) (ho : ∀ a ∈ fs, H' a = H a) : LRel K F' H' L fs := by
  induction h with
  | nil => exact .nil
  | cons h1 _ ih => exact .cons (h1.kp k fun a q => ho a (List.mem_append_left _ q)) (ih fun a q => ho a (List.mem_append_right _ q))
theorem RelO.kp (k : Kp F F' H H') {v : V} {d : D} (h : RelO K F H v d) (ho : ∀ a xs, v = .ref a → H a = some (.lst xs) → H' a = some (.lst xs)) : RelO K F' H' v d := by
  cases h with
  | fz h => exact .fz (RelD.kp k _ _ h)
  | ol h1 h2 => exact .ol (ho _ _ rfl h1) (RelDs.kp k _ _ h2)
  | scr h => exact .scr (h.kp k)
theorem RelM.o {v : V} {d : D} (h : RelM K F H v d) : RelO K F H v d := by
  cases h with
  | fz h => exact .fz h
  | ol h1 h2 => exact .ol h1 h2
theorem RelM.kp (k : Kp F F' H H') {v : V} {d : D} (h : RelM K F H v d) (ho : ∀ a xs, v = .ref a → H a = some (.lst xs) → H' a = some (.lst xs)) : RelM K F' H' v d := by
  cases h with
  | fz h => exact .fz (RelD.kp k _ _ h)
  | ol h1 h2 => exact .ol (ho _ _ rfl h1) (RelDs.kp k _ _ h2)
/-- less is owned -/
theorem Kp.less (h : ∀ a, F' a → F a) : Kp F F' H H := fun a o e n => ⟨e, fun q => n (h a q)⟩
/-- something new, and it may be owned -/
theorem Kp.new {p : Addr} {o : HO} (hp : H p = none) (h : ∀ a, F' a → F a ∨ a = p) : Kp F F' H (upd H p o) := fun a u e n => by
  have ne : a ≠ p := ne_of_none e hp
  exact ⟨by rw [upd_ne ne]; exact e, fun q => (h a q).elim n ne⟩
/-- something that is owned is written -/
theorem Kp.write {p : Addr} {o : HO} (hp : F p) (h : ∀ a, F' a → F a) : Kp F F' H (upd H p o) := fun a u e n => by
  have ne : a ≠ p := fun z => n (z ▸ hp)
  exact ⟨by rw [upd_ne ne]; exact e, fun q => n (h a q)⟩
theorem Kp.same (s : Same H H') : Kp F F H H' := fun a o e n => ⟨s a o e, n⟩
theorem RelOs.owned {vs : List V} {dss : List (List D)} {fs : List Addr} (h : RelOs K F H vs dss fs) : ∀ a ∈ fs, ∃ xs, H a = some (.lst xs) := by
  induction h with
  | nil => intro a q; cases q
  | cons h1 _ _ ih =>
    intro a q
    rcases List.mem_cons.mp q with rfl | q
    · exact ⟨_, h1⟩
    · exact ih a q
theorem RelX.owned {v : V} {x : Vl} {f : List Addr} (h : RelX K F H v x f) : ∀ a ∈ f, ∃ xs, H a = some (.lst xs) := by
  intro a q
  cases h with
  | fz _ => cases q
  | pinL _ => cases q
  | pinT _ => cases q
  | scr _ => cases q
  | ol h1 _ =>
    rcases List.mem_cons.mp q with rfl | q
    · exact ⟨_, h1⟩
    · cases q
  | oo h1 h2 =>
    rcases List.mem_cons.mp q with rfl | q
    · exact ⟨_, h1⟩
    · exact h2.owned a q
theorem LRel.owned {L : List (V × Vl)} {fs : List Addr} (h : LRel K F H L fs) : ∀ a ∈ fs, ∃ xs, H a = some (.lst xs) := by
  induction h with
  | nil => intro a q; cases q
  | cons h1 _ ih =>
    intro a q
    rcases List.mem_append.mp q with q | q
    · exact h1.owned a q
    · exact ih a q
theorem LRel.perm {L L' : List (V × Vl)} (p : L.Perm L') : ∀ {fs : List Addr}, LRel K F H L fs → ∃ fs', fs.Perm fs' ∧ LRel K F H L' fs' := by
  induction p with
  | nil => intro fs h; exact ⟨fs, List.Perm.refl _, h⟩
  | cons x _ ih =>
    intro fs h
    cases h with
    | cons h1 h2 =>
      obtain ⟨gs, q, h3⟩ := ih h2
      exact ⟨_, List.Perm.append_left _ q, .cons h1 h3⟩
  | swap x y l =>
    intro fs h
    cases h with
    | cons h1 h2 =>
      cases h2 with
      | cons h3 h4 =>
        refine ⟨_, ?_, .cons h3 (.cons h1 h4)⟩
        rw [← List.append_assoc, ← List.append_assoc]
        exact List.Perm.append_right _ List.perm_append_comm
  | trans _ _ ih1 ih2 =>
    intro fs h
    obtain ⟨g1, q1, h1⟩ := ih1 h
    obtain ⟨g2, q2, h2⟩ := ih2 h1
    exact ⟨g2, q1.trans q2, h2⟩
theorem LRel.split {L1 L2 : List (V × Vl)} : ∀ {fs : List Addr}, LRel K F H (L1 ++ L2) fs → ∃ f1 f2, fs = f1 ++ f2 ∧ LRel K F H L1 f1 ∧ LRel K F H L2 f2 := by
  induction L1 with
  | nil => intro fs h; exact ⟨[], fs, rfl, .nil, h⟩
  | cons p L1 ih =>
    intro fs h
    cases h with
    | cons h1 h2 =>
      obtain ⟨f1, f2, e, h3, h4⟩ := ih h2
      exact ⟨_, f2, by rw [e, List.append_assoc], .cons h1 h3, h4⟩
theorem LRel.join {L1 L2 : List (V × Vl)} {f1 f2 : List Addr} (h1 : LRel K F H L1 f1) (h2 : LRel K F H L2 f2) : LRel K F H (L1 ++ L2) (f1 ++ f2) := by
  induction h1 with
  | nil => exact h2
  | cons h _ ih =>
    rw [List.cons_append, List.append_assoc]
    exact .cons h ih

/-! ### live values -/
variable {L L' L1 L2 : List (V × Vl)}
theorem Live.perm (h : Live K H L) (p : L.Perm L') : Live K H L' := by
  obtain ⟨fs, nd, r⟩ := h
  obtain ⟨gs, q, r'⟩ := r.perm p
  exact ⟨gs, q.nodup_iff.mp nd, r'.kp (Kp.less fun a z => q.mem_iff.mpr z) fun _ _ => rfl⟩
theorem Live.right (h : Live K H (L1 ++ L2)) : Live K H L2 := by
  obtain ⟨fs, nd, r⟩ := h
  obtain ⟨f1, f2, rfl, _, r2⟩ := r.split
  exact ⟨f2, (List.nodup_append.mp nd).2.1, r2.kp (Kp.less fun a z => List.mem_append_right _ z) fun _ _ => rfl⟩
theorem Live.left (h : Live K H (L1 ++ L2)) : Live K H L1 := (h.perm List.perm_append_comm).right
theorem Live.tail {p : V × Vl} (h : Live K H (p :: L)) : Live K H L := Live.right (L1 := [p]) h
theorem Live.sub (h : Live K H L) (p : (L' ++ L1).Perm L) : Live K H L' := (h.perm p.symm).left

theorem LRel.mem {v : V} {x : Vl} : ∀ {L : List (V × Vl)} {fs : List Addr}, LRel K F H L fs → (v, x) ∈ L → ∃ f, RelX K F H v x f
  | _, _, .nil, q => by cases q
  | _, _, .cons h1 h2, q => by
    rcases List.mem_cons.mp q with e | q
    · cases e; exact ⟨_, h1⟩
    · exact h2.mem q
theorem RelX.flat {v : V} {x : Vl} {f : List Addr} {d : D} (h : RelX K F H v x f) (e : x.flat = some d) : RelO K F H v d := by
  cases h with
  | fz h => cases e; exact .fz h
  | ol h1 h2 => cases e; exact .ol h1 h2
  | oo _ _ => cases e
  | pinL _ => cases e
  | pinT _ => cases e
  | scr h => cases e; exact .scr h
theorem RelX.flatM {v : V} {x : Vl} {f : List Addr} {d : D} (h : RelX K F H v x f) (e : x.flatM = some d) : RelM K F H v d := by
  cases h with
  | fz h => cases e; exact .fz h
  | ol h1 h2 => cases e; exact .ol h1 h2
  | oo _ _ => cases e
  | pinL _ => cases e
  | pinT _ => cases e
  | scr _ => cases e
theorem RelM.list {v : V} {ds : List D} (h : RelM K F H v (.list ds)) : ∃ a xs, v = .ref a ∧ H a = some (.lst xs) ∧ RelDs K F H xs ds := by
  cases h with
  | fz h =>
    cases h with
    | lst h1 h2 => exact ⟨_, _, rfl, h1.1, h2⟩
  | ol h1 h2 => exact ⟨_, _, rfl, h1, h2⟩
theorem RelO.list {v : V} {ds : List D} (h : RelO K F H v (.list ds)) : ∃ a xs, v = .ref a ∧ SqL K H a xs ∧ RelDs K F H xs ds := by
  cases h with
  | fz h =>
    cases h with
    | lst h1 h2 => exact ⟨_, _, rfl, h1.sq, h2⟩
  | ol h1 h2 => exact ⟨_, _, rfl, SqL.of h1, h2⟩
  | @scr a ns h =>
    refine ⟨_, _, rfl, h.sq, ?_⟩
    induction ns with
    | nil => exact .nil
    | cons n ns ih => exact .cons (.int n) (by
        clear ih h
        induction ns with
        | nil => exact .nil
        | cons m ns ih => exact .cons (.int m) ih)
theorem RelO.tuple {v : V} {ds : List D} (h : RelO K F H v (.tuple ds)) : ∃ a xs, v = .ref a ∧ SqT K H a xs ∧ RelDs K F H xs ds := by
  cases h with
  | fz h =>
    cases h with
    | tup h1 h2 => exact ⟨_, _, rfl, h1.sq, h2⟩
theorem RelO.int {v : V} {i : Int} (h : RelO K F H v (.int i)) : v = .int i := by
  cases h with
  | fz h => cases h; rfl
theorem RelO.bool {v : V} {i : Bool} (h : RelO K F H v (.bool i)) : v = .bl i := by
  cases h with
  | fz h => cases h; rfl
theorem RelO.str {v : V} {i : Str} (h : RelO K F H v (.str i)) : v = .str i := by
  cases h with
  | fz h => cases h; rfl
theorem RelO.none {v : V} (h : RelO K F H v .none) : v = .non := by
  cases h with
  | fz h => cases h; rfl
theorem RelO.nodict {v : V} {kvs : List (D × D)} : ¬ RelO K F H v (.dict kvs) := by
  intro h
  cases h with
  | fz h => cases h
theorem RelDs.length {vs : List V} : ∀ {ds : List D}, RelDs K F H vs ds → vs.length = ds.length := by
  induction vs with
  | nil => intro ds h; cases h; rfl
  | cons v vs ih =>
    intro ds h
    cases h with
    | cons h1 h2 => rw [List.length_cons, List.length_cons, ih h2]
theorem RelDs.get : ∀ {vs : List V} {ds : List D} {i : Nat} {v : V}, RelDs K F H vs ds → vs[i]? = some v → ∃ d, ds[i]? = some d ∧ RelD K F H v d
  | _, _, _, _, .nil, e => by simp at e
  | _, _, 0, _, .cons h1 _, e => by simp at e; subst e; exact ⟨_, rfl, h1⟩
  | _, _, i + 1, v, .cons _ h2, e => by
    obtain ⟨d, q1, q2⟩ := RelDs.get (i := i) (v := v) h2 (by simpa using e)
    exact ⟨d, by simpa using q1, q2⟩
theorem RelDs.getD {i : Nat} {d : D} {vs : List V} {ds : List D} (h : RelDs K F H vs ds) (e : ds[i]? = some d) : ∃ v, vs[i]? = some v ∧ RelD K F H v d := by
  have hl := h.length
  have hi : i < ds.length := (List.getElem?_eq_some_iff.mp e).1
  have hv : vs[i]? = some (vs[i]'(by omega)) := List.getElem?_eq_getElem (by omega)
  obtain ⟨d', q1, q2⟩ := h.get hv
  rw [e] at q1; cases q1
  exact ⟨_, hv, q2⟩
theorem RelDs.append : ∀ {vs ws : List V} {ds es : List D}, RelDs K F H vs ds → RelDs K F H ws es → RelDs K F H (vs ++ ws) (ds ++ es)
  | _, _, _, _, .nil, h => h
  | _, _, _, _, .cons h1 h2, h => .cons h1 (h2.append h)
theorem RelDs.take : ∀ (n : Nat) {vs : List V} {ds : List D}, RelDs K F H vs ds → RelDs K F H (vs.take n) (ds.take n)
  | 0, _, _, _ => .nil
  | n + 1, _, _, .nil => .nil
  | n + 1, _, _, .cons h1 h2 => .cons h1 (h2.take n)
theorem RelDs.drop : ∀ (n : Nat) {vs : List V} {ds : List D}, RelDs K F H vs ds → RelDs K F H (vs.drop n) (ds.drop n)
  | 0, _, _, h => h
  | n + 1, _, _, .nil => .nil
  | n + 1, _, _, .cons _ h2 => h2.drop n
theorem RelDs.set {v : V} {d : D} (r : RelD K F H v d) : ∀ (i : Nat) {vs : List V} {ds : List D}, RelDs K F H vs ds → RelDs K F H (vs.set i v) (ds.set i d)
  | _, _, _, .nil => .nil
  | 0, _, _, .cons _ h2 => .cons r h2
  | i + 1, _, _, .cons h1 h2 => .cons h1 (h2.set r i)
theorem RelDs.reverse {vs : List V} {ds : List D} (h : RelDs K F H vs ds) : RelDs K F H vs.reverse ds.reverse := by
  induction vs generalizing ds with
  | nil => cases h; exact .nil
  | cons v vs ih =>
    cases h with
    | cons h1 h2 =>
      rw [List.reverse_cons, List.reverse_cons]
      exact (ih h2).append (.cons h1 .nil)
theorem RelDs.rep {vs : List V} {ds : List D} (h : RelDs K F H vs ds) : ∀ n : Nat, RelDs K F H (List.replicate n vs).flatten (List.replicate n ds).flatten
  | 0 => .nil
  | n + 1 => by
    rw [List.replicate_succ, List.replicate_succ, List.flatten_cons, List.flatten_cons]
    exact h.append (h.rep n)

/-! ### what an operation gives back -/
theorem Opd.mk {vs : List V} {ds : List D} (h : Live K H L) (hm : ∀ fs, LRel K (· ∈ fs) H L fs → Paired (RelO K (· ∈ fs) H) vs ds) : Opd K H vs ds L := by
  obtain ⟨fs, nd, r⟩ := h
  exact ⟨fs, nd, r, hm fs r⟩
theorem paired_imp {α β : Type} {P Q : α → β → Prop} (h : ∀ a b, P a b → Q a b) : ∀ {xs : List α} {ys : List β}, Paired P xs ys → Paired Q xs ys
  | _, _, .nil => .nil
  | _, _, .cons r t => .cons (h _ _ r) (paired_imp h t)
theorem Opd.right {vs : List V} {ds : List D} (h : Opd K H vs ds (L1 ++ L2)) : Opd K H vs ds L2 := by
  obtain ⟨fs, nd, r, o⟩ := h
  obtain ⟨f1, f2, rfl, _, r2⟩ := r.split
  have k : Kp (· ∈ f1 ++ f2) (· ∈ f2) H H := Kp.less fun a z => List.mem_append_right _ z
  exact ⟨f2, (List.nodup_append.mp nd).2.1, r2.kp k fun _ _ => rfl, paired_imp (fun _ _ q => q.kp k fun _ _ _ e => e) o⟩
theorem OpdM.o {vs : List V} {ds : List D} (h : OpdM K H vs ds L) : Opd K H vs ds L := by
  obtain ⟨fs, nd, r, o⟩ := h
  exact ⟨fs, nd, r, paired_imp (fun _ _ q => q.o) o⟩
theorem OpdM.mk {vs : List V} {ds : List D} (h : Live K H L) (hm : ∀ fs, LRel K (· ∈ fs) H L fs → Paired (RelM K (· ∈ fs) H) vs ds) : OpdM K H vs ds L := by
  obtain ⟨fs, nd, r⟩ := h
  exact ⟨fs, nd, r, hm fs r⟩
theorem OpdM.right {vs : List V} {ds : List D} (h : OpdM K H vs ds (L1 ++ L2)) : OpdM K H vs ds L2 := by
  obtain ⟨fs, nd, r, o⟩ := h
  obtain ⟨f1, f2, rfl, _, r2⟩ := r.split
  have k : Kp (· ∈ f1 ++ f2) (· ∈ f2) H H := Kp.less fun a z => List.mem_append_right _ z
  exact ⟨f2, (List.nodup_append.mp nd).2.1, r2.kp k fun _ _ => rfl, paired_imp (fun _ _ q => q.kp k fun _ _ _ e => e) o⟩
theorem Opd.live {vs : List V} {ds : List D} (h : Opd K H vs ds L) : Live K H L := let ⟨fs, nd, r, _⟩ := h; ⟨fs, nd, r⟩
/-- a frozen value beside the live ones -/
theorem Opd.fz {vs : List V} {ds : List D} {v : V} {d : D} (h : Opd K H vs ds L) (hr : ∀ F, Paired (RelO K F H) vs ds → RelD K F H v d) : Live K H ((v, .fz d) :: L) := by
  obtain ⟨fs, nd, r, o⟩ := h
  exact ⟨fs, nd, .cons (f := []) (.fz (hr _ o)) r⟩
theorem Opd.same {vs : List V} {ds : List D} (h : Opd K H vs ds L) (s : Same H H') : Opd K H' vs ds L := by
  obtain ⟨fs, nd, r, o⟩ := h
  exact ⟨fs, nd, r.kp (Kp.same s) fun a q => by obtain ⟨xs, e⟩ := r.owned a q; rw [e, s _ _ e], paired_imp (fun _ _ q => q.kp (Kp.same s) fun a xs _ e => s _ _ e) o⟩
theorem Live.same (h : Live K H L) (s : Same H H') : Live K H' L := by
  obtain ⟨fs, nd, r⟩ := h
  exact ⟨fs, nd, r.kp (Kp.same s) fun a q => by obtain ⟨xs, e⟩ := r.owned a q; rw [e, s _ _ e]⟩
theorem same_new {p : Addr} {o : HO} (hp : H p = Option.none) : Same H (upd H p o) := fun b u e => by
  rw [upd_ne (ne_of_none e hp)]; exact e
/-- a new tuple of frozen items -/
theorem Opd.tup {vs ws : List V} {ds es : List D} {p : Addr} (h : Opd K H vs ds L) (hp : H p = Option.none) (hr : ∀ F, Paired (RelO K F H) vs ds → RelDs K F H ws es) : Live K (upd H p (.tup ws)) ((.ref p, .fz (.tuple es)) :: L) := by
  obtain ⟨fs, nd, r, o⟩ := h
  have np : p ∉ fs := fun q => by obtain ⟨xs, e⟩ := r.owned p q; rw [hp] at e; cases e
  have k : Kp (· ∈ fs) (· ∈ fs) H (upd H p (.tup ws)) := Kp.new hp fun a q => .inl q
  have ko : ∀ a ∈ fs, upd H p (.tup ws) a = H a := fun a q => upd_ne fun z => np (z ▸ q)
  exact ⟨fs, nd, .cons (f := []) (.fz (.tup (.inl ⟨.inl upd_same, np⟩) (RelDs.kp k _ _ (hr _ o)))) (r.kp k ko)⟩
/-- a new list, owned by who gets it -/
theorem Opd.lst {vs ws : List V} {ds es : List D} {p : Addr} (h : Opd K H vs ds L) (hp : H p = Option.none) (hr : ∀ F, Paired (RelO K F H) vs ds → RelDs K F H ws es) : Live K (upd H p (.lst ws)) ((.ref p, .ol es) :: L) := by
  obtain ⟨fs, nd, r, o⟩ := h
  have np : p ∉ fs := fun q => by obtain ⟨xs, e⟩ := r.owned p q; rw [hp] at e; cases e
  have k : Kp (· ∈ fs) (· ∈ p :: fs) H (upd H p (.lst ws)) := Kp.new hp fun a q => (List.mem_cons.mp q).elim .inr .inl
  have ko : ∀ a ∈ fs, upd H p (.lst ws) a = H a := fun a q => upd_ne fun z => np (z ▸ q)
  exact ⟨p :: fs, List.nodup_cons.mpr ⟨np, nd⟩, .cons (f := [p]) (.ol upd_same (RelDs.kp k _ _ (hr _ o))) (r.kp k ko)⟩
/-- an owned list is written -/
theorem Live.write {a : Addr} {ds es ds' : List D} {ws : List V} (h : Live K H ((.ref a, .ol ds) :: (ws.zip (es.map Vl.fz) ++ L))) (hl : ws.length = es.length) :
    ∃ xs, H a = some (.lst xs) ∧ xs.length = ds.length ∧ ∀ xs', (∀ F, RelDs K F H xs ds → RelDs K F H ws es → RelDs K F H xs' ds') → Live K (upd H a (.lst xs')) ((.ref a, .ol ds') :: L) := by
  obtain ⟨fs, nd, r⟩ := h
  cases r with
  | @cons _ _ _ f gs h1 h2 =>
    cases h1 with
    | @ol _ xs _ e1 e2 =>
      obtain ⟨g1, g2, rfl, r1, r2⟩ := h2.split
      have rw' : ∀ (ws : List V) (es : List D) (g : List Addr), ws.length = es.length → LRel K (· ∈ [a] ++ (g1 ++ g2)) H (ws.zip (es.map Vl.fz)) g → RelDs K (· ∈ [a] ++ (g1 ++ g2)) H ws es := by
        intro ws
        induction ws with
        | nil => intro es g e _; cases es with
          | nil => exact .nil
          | cons _ _ => cases e
        | cons w ws ih =>
          intro es g e q
          cases es with
          | nil => cases e
          | cons d es =>
            cases q with
            | cons q1 q2 =>
              cases q1 with
              | fz q1 => exact .cons q1 (ih es _ (by simpa using e) q2)
      refine ⟨xs, e1, e2.length, fun xs' hr => ?_⟩
      have nda : a ∉ g1 ++ g2 := (List.nodup_cons.mp nd).1
      have k : Kp (· ∈ [a] ++ (g1 ++ g2)) (· ∈ a :: g2) H (upd H a (.lst xs')) := Kp.write (List.mem_cons_self) fun b q => by
        have q : b ∈ a :: g2 := q
        rcases List.mem_cons.mp q with rfl | q
        · exact List.mem_cons_self
        · exact List.mem_append_right [a] (List.mem_append_right g1 q)
      refine ⟨a :: g2, List.nodup_cons.mpr ⟨fun q => nda (List.mem_append_right _ q), (List.nodup_append.mp (show (g1 ++ g2).Nodup from (List.nodup_cons.mp nd).2)).2.1⟩, .cons (f := [a]) (.ol upd_same (RelDs.kp k _ _ (hr _ e2 (rw' ws es _ hl r1)))) (r2.kp k fun b q => upd_ne ?_)⟩
      rintro rfl
      exact nda (List.mem_append_right _ q)
/-- what is owned is frozen from now on -/
theorem RelX.freeze {v : V} {x : Vl} {f fs : List Addr} (h : RelX K (· ∈ fs) H v x f) (hp : x.own = true) (gs : List Addr) (hg : ∀ a ∈ gs, a ∈ fs) (hn : ∀ a ∈ f, a ∉ gs) : RelD K (· ∈ gs) H v x.strip := by
  have k : Kp (· ∈ fs) (· ∈ gs) H H := Kp.less hg
  cases h with
  | fz h => exact RelD.kp k _ _ h
  | ol h1 h2 => exact .lst ⟨h1, hn _ List.mem_cons_self⟩ (RelDs.kp k _ _ h2)
  | @oo a xs dss g h1 h2 =>
    refine .lst ⟨h1, hn _ List.mem_cons_self⟩ ?_
    have hn' : ∀ b : Addr, b ∈ g → b ∉ gs := fun b q => hn b (List.mem_cons_of_mem _ q)
    clear h1 hn hp
    induction h2 with
    | nil => exact .nil
    | cons q1 q2 _ ih => exact .cons (.lst ⟨q1, hn' _ List.mem_cons_self⟩ (RelDs.kp k _ _ q2)) (ih fun (b : Addr) q => hn' b (List.mem_cons_of_mem _ q))
  | pinL _ => cases hp
  | pinT _ => cases hp
  | scr _ => cases hp
theorem Live.freeze {v : V} {x : Vl} (h : Live K H ((v, x) :: L)) (hp : x.own = true) : Live K H ((v, .fz x.strip) :: L) := by
  obtain ⟨fs, nd, r⟩ := h
  cases r with
  | @cons _ _ _ f gs h1 h2 =>
    have nd' := List.nodup_append.mp nd
    refine ⟨gs, nd'.2.1, .cons (f := []) (.fz (h1.freeze hp gs (fun a q => List.mem_append_right _ q) fun a q z => nd'.2.2 a q a z rfl)) (h2.kp (Kp.less fun a q => List.mem_append_right _ q) fun _ _ => rfl)⟩
theorem Live.dup {v : V} {d : D} (h : Live K H ((v, .fz d) :: L)) : Live K H ((v, .fz d) :: (v, .fz d) :: L) := by
  obtain ⟨fs, nd, r⟩ := h
  cases r with
  | @cons _ _ _ f gs h1 h2 =>
    cases h1 with
    | fz h1 => exact ⟨gs, nd, .cons (f := []) (.fz h1) (.cons (f := []) (.fz h1) h2)⟩
/-- scalars need nothing -/
def scalD : D → Option V
  | .none => some .non
  | .bool b => some (.bl b)
  | .int i => some (.int i)
  | .str x => some (.str x)
  | _ => Option.none
theorem scal_rel {d : D} {v : V} (e : scalD d = some v) : RelD K F H v d := by
  cases d <;> cases e <;> constructor
theorem Live.scal {d : D} {v : V} (h : Live K H L) (e : scalD d = some v) : Live K H ((v, .fz d) :: L) := by
  obtain ⟨fs, nd, r⟩ := h
  exact ⟨fs, nd, .cons (f := []) (.fz (scal_rel e)) r⟩
/-- a frozen list by its exact items -/
theorem Live.pinL {v : V} {ds : List D} (h : Live K H ((v, .fz (.list ds)) :: L)) : ∃ a xs, v = .ref a ∧ xs.length = ds.length ∧ Live K H ((.ref a, .pinL xs) :: (xs.zip (ds.map Vl.fz) ++ L)) := by
  obtain ⟨fs, nd, r⟩ := h
  cases r with
  | @cons _ _ _ f gs h1 h2 =>
    cases h1 with
    | fz h1 =>
      cases h1 with
      | @lst a xs _ q1 q2 =>
        refine ⟨a, xs, rfl, q2.length, gs, nd, .cons (f := []) (.pinL q1) ?_⟩
        have : ∀ (xs : List V) (ds : List D), RelDs K (· ∈ gs) H xs ds → LRel K (· ∈ gs) H (xs.zip (ds.map Vl.fz) ++ L) gs := by
          intro xs
          induction xs with
          | nil => intro ds q; cases q; exact h2
          | cons v xs ih => intro ds q; cases q with
            | cons q1 q2 => exact .cons (f := []) (.fz q1) (ih _ q2)
        exact this xs ds q2
theorem Live.pinT {v : V} {ds : List D} (h : Live K H ((v, .fz (.tuple ds)) :: L)) : ∃ a xs, v = .ref a ∧ xs.length = ds.length ∧ Live K H ((.ref a, .pinT xs) :: (xs.zip (ds.map Vl.fz) ++ L)) := by
  obtain ⟨fs, nd, r⟩ := h
  cases r with
  | @cons _ _ _ f gs h1 h2 =>
    cases h1 with
    | fz h1 =>
      cases h1 with
      | @tup a xs _ q1 q2 =>
        refine ⟨a, xs, rfl, q2.length, gs, nd, .cons (f := []) (.pinT q1) ?_⟩
        have : ∀ (xs : List V) (ds : List D), RelDs K (· ∈ gs) H xs ds → LRel K (· ∈ gs) H (xs.zip (ds.map Vl.fz) ++ L) gs := by
          intro xs
          induction xs with
          | nil => intro ds q; cases q; exact h2
          | cons v xs ih => intro ds q; cases q with
            | cons q1 q2 => exact .cons (f := []) (.fz q1) (ih _ q2)
        exact this xs ds q2
theorem Live.pinnedL {a : Addr} {xs : List V} (h : Live K H L) (m : (.ref a, .pinL xs) ∈ L) : SqL K H a xs := by
  obtain ⟨fs, _, r⟩ := h
  obtain ⟨f, q⟩ := r.mem m
  cases q with
  | pinL q => exact q.sq
theorem Live.pinnedT {a : Addr} {xs : List V} (h : Live K H L) (m : (.ref a, .pinT xs) ∈ L) : SqT K H a xs := by
  obtain ⟨fs, _, r⟩ := h
  obtain ⟨f, q⟩ := r.mem m
  cases q with
  | pinT q => exact q.sq
/-- a frozen value stands once more -/
theorem Live.again {v : V} {d : D} (h : Live K H L) (m : (v, .fz d) ∈ L) : Live K H ((v, .fz d) :: L) := by
  obtain ⟨fs, nd, r⟩ := h
  obtain ⟨f, q⟩ := r.mem m
  cases q with
  | fz q => exact ⟨fs, nd, .cons (f := []) (.fz q) r⟩
end
end Tr

set_option Elab.async false
set_option linter.all false
set_option maxRecDepth 100000
/-! Frames and the layer's slots; readings of the interpreter's answers. -/
namespace Tr
abbrev St := L2.St
open PySem PySem.Spec PyProof.Rows L2

def slots : St → Fm → List (V × Vl)
  | some v :: σ, some x :: fr => (v, x) :: slots σ fr
  | _ :: σ, _ :: fr => slots σ fr
  | _, _ => []
structure SlOk (σ : St) (fr : Fm) : Prop where
  len : σ.length = fr.length
  has : ∀ (i : Nat) (x : Vl), fr[i]? = some (some x) → ∃ v, σ[i]? = some (some v)

theorem slots_none : ∀ {σ : St} {fr : Fm} {i : Nat}, fr[i]? = some none → slots σ (fr.set i none) = slots σ fr
  | [], _, _, _ => by simp [slots]
  | _ :: _, [], _, e => by simp at e
  | a :: σ, b :: fr, 0, e => by simp at e; subst e; rfl
  | a :: σ, b :: fr, i + 1, e => by
    have ih := slots_none (σ := σ) (fr := fr) (i := i) (by simpa using e)
    rw [List.set_cons_succ]
    cases a <;> cases b <;> simp only [slots, ih]
theorem slots_out : ∀ {σ : St} {fr : Fm} {i : Nat} (o : Option V), slots (σ.set i o) (fr.set i none) = slots σ (fr.set i none)
  | [], _, _, _ => by simp [slots]
  | _ :: _, [], _, _ => by simp [slots]
  | a :: σ, b :: fr, 0, o => by
    rw [List.set_cons_zero, List.set_cons_zero]
    cases a <;> cases o <;> simp only [slots]
  | a :: σ, b :: fr, i + 1, o => by
    have ih := slots_out (σ := σ) (fr := fr) (i := i) o
    rw [List.set_cons_succ, List.set_cons_succ]
    cases a <;> cases b <;> simp only [slots, ih]
theorem slots_at : ∀ {σ : St} {fr : Fm} {i : Nat} {v : V} {x : Vl}, σ[i]? = some (some v) → fr[i]? = some (some x) → (slots σ fr).Perm ((v, x) :: slots σ (fr.set i none))
  | [], _, _, _, _, e, _ => by simp at e
  | _ :: _, [], _, _, _, _, e => by simp at e
  | a :: σ, b :: fr, 0, v, x, e, e' => by
    simp at e e'; subst e; subst e'
    rw [List.set_cons_zero]
    exact List.Perm.refl _
  | a :: σ, b :: fr, i + 1, v, x, e, e' => by
    have ih := slots_at (σ := σ) (fr := fr) (i := i) (v := v) (x := x) (by simpa using e) (by simpa using e')
    rw [List.set_cons_succ]
    cases a with
    | none => cases b <;> simpa only [slots] using ih
    | some u => cases b with
      | none => simpa only [slots] using ih
      | some y =>
        simp only [slots]
        exact (ih.cons _).trans (List.Perm.swap _ _ _)
theorem slots_set {σ : St} {fr : Fm} {i : Nat} {v : V} {x : Vl} (h : σ.length = fr.length) (hi : i < fr.length) : (slots (σ.set i (some v)) (fr.set i (some x))).Perm ((v, x) :: slots σ (fr.set i none)) := by
  have := slots_at (σ := σ.set i (some v)) (fr := fr.set i (some x)) (i := i) (v := v) (x := x) (by rw [List.getElem?_set_self (by omega)]) (by rw [List.getElem?_set_self hi])
  rw [List.set_set] at this
  rwa [slots_out] at this
theorem slots_put {σ : St} {fr : Fm} {i : Nat} {v : V} {x : Vl} (e : σ[i]? = some (some v)) (hi : i < fr.length) : (slots σ (fr.set i (some x))).Perm ((v, x) :: slots σ (fr.set i none)) := by
  have := slots_at (σ := σ) (fr := fr.set i (some x)) (i := i) (v := v) (x := x) e (by rw [List.getElem?_set_self hi])
  rwa [List.set_set] at this
theorem slots_mem {v : V} {x : Vl} {σ : St} {fr : Fm} {i : Nat} (e : σ[i]? = some (some v)) (e' : fr[i]? = some (some x)) : (v, x) ∈ slots σ fr := (slots_at e e').mem_iff.mpr List.mem_cons_self
theorem SlOk.get {σ : St} {fr : Fm} {i : Nat} {x : Vl} (h : SlOk σ fr) (e : fr[i]? = some (some x)) : ∃ v, σ[i]? = some (some v) ∧ (slots σ fr).Perm ((v, x) :: slots σ (fr.set i none)) := by
  obtain ⟨v, q⟩ := h.has i x e
  exact ⟨v, q, slots_at q e⟩
theorem SlOk.drop {σ : St} {fr : Fm} (h : SlOk σ fr) (i : Nat) : SlOk σ (fr.set i none) := by
  refine ⟨by rw [List.length_set]; exact h.len, fun j x e => ?_⟩
  by_cases hj : i = j
  · subst hj
    by_cases hi : i < fr.length
    · rw [List.getElem?_set_self hi] at e; cases e
    · rw [List.getElem?_eq_none (by rw [List.length_set]; omega)] at e; cases e
  · rw [List.getElem?_set_ne hj] at e
    exact h.has j x e
theorem SlOk.put {σ : St} {fr : Fm} {i : Nat} {v : V} {x : Vl} (h : SlOk σ fr) (e : σ[i]? = some (some v)) : SlOk σ (fr.set i (some x)) := by
  refine ⟨by rw [List.length_set]; exact h.len, fun j y q => ?_⟩
  by_cases hj : i = j
  · subst hj; exact ⟨v, e⟩
  · rw [List.getElem?_set_ne hj] at q
    exact h.has j y q
theorem SlOk.set {σ : St} {fr : Fm} {i : Nat} {v : V} {x : Vl} (h : SlOk σ fr) (hi : i < fr.length) : SlOk (σ.set i (some v)) (fr.set i (some x)) := by
  refine ⟨by rw [List.length_set, List.length_set]; exact h.len, fun j y q => ?_⟩
  by_cases hj : i = j
  · subst hj; exact ⟨v, by rw [List.getElem?_set_self (by have := h.len; omega)]⟩
  · rw [List.getElem?_set_ne hj] at q ⊢
    exact h.has j y q

/-! ### operands that wait -/
def pit : List V → List Pd → List (V × Vl)
  | v :: vs, .st x :: ps => (v, x) :: pit vs ps
  | _ :: vs, .sl _ :: ps => pit vs ps
  | _, _ => []
def PdOk (σ : St) (v : V) : Pd → Prop
  | .sl i => σ[i]? = some (some v)
  | .st _ => True
abbrev pok (σ : St) : List V → List Pd → Prop := Paired (PdOk σ)
theorem pit_append : ∀ {vs : List V} {ps : List Pd} {ws : List V} {qs : List Pd}, vs.length = ps.length → pit (vs ++ ws) (ps ++ qs) = pit vs ps ++ pit ws qs
  | [], [], _, _, _ => by simp [pit]
  | [], _ :: _, _, _, e => by cases e
  | _ :: _, [], _, _, e => by cases e
  | v :: vs, p :: ps, ws, qs, e => by
    have ih := pit_append (vs := vs) (ps := ps) (ws := ws) (qs := qs) (by simpa using e)
    cases p <;> simp [pit, ih]
def Hold (K : PySem.W.Frag) (σ : St) (fr : Fm) (H : Hp) (vs : List V) (ps : List Pd) (L : List (V × Vl)) : Prop :=
  pok σ vs ps ∧ Live K H (pit vs ps ++ (slots σ fr ++ L))
section
variable {K : PySem.W.Frag} {σ : St} {fr fr' : Fm} {H H' : Hp} {L : List (V × Vl)} {vs ws : List V} {ps qs : List Pd} {ds : List D}
theorem pok_length (h : pok σ vs ps) : vs.length = ps.length := Paired.length h
theorem perm_mid {α : Type} (A B C : List α) : (A ++ (B ++ C)).Perm (B ++ (A ++ C)) := by
  rw [← List.append_assoc, ← List.append_assoc]
  exact List.Perm.append_right _ List.perm_append_comm
/-- the waiting operands among the rest -/
theorem Hold.aside (h : Hold K σ fr H vs ps L) : Live K H (slots σ fr ++ (pit vs ps ++ L)) := h.2.perm (perm_mid _ _ _)
theorem Hold.more (p1 : pok σ vs ps) (h : Hold K σ fr H ws qs (pit vs ps ++ L)) : Hold K σ fr H (vs ++ ws) (ps ++ qs) L := by
  obtain ⟨p2, l⟩ := h
  refine ⟨?_, ?_⟩
  · clear l
    induction p1 with
    | nil => exact p2
    | cons r _ ih => exact .cons r ih
  · rw [pit_append (pok_length p1)]
    refine l.perm ?_
    rw [List.append_assoc]
    refine (List.Perm.append_left _ (perm_mid _ _ _)).trans ?_
    exact perm_mid _ _ _
theorem look_mem {v : V} {p : Pd} {d : D} {A : List (V × Vl)} (hp : PdOk σ v p) (e : look fr p = some d) (hs : ∀ x, p = .st x → (v, x) ∈ A) : ∃ x, (v, x) ∈ A ++ (slots σ fr ++ L) ∧ x.flat = some d := by
  cases p with
  | sl i =>
    simp only [look] at e
    split at e
    · rename_i x q
      exact ⟨x, List.mem_append_right _ (List.mem_append_left _ (slots_mem hp q)), e⟩
    · cases e
  | st x => exact ⟨x, List.mem_append_left _ (hs x rfl), e⟩
theorem Hold.looks (h : Hold K σ fr H vs ps L) (e : looks fr ps = some ds) : Opd K H vs ds (slots σ fr ++ L) := by
  obtain ⟨p, l⟩ := h
  refine Opd.right (L1 := pit vs ps) (Opd.mk l fun fs r => ?_)
  have key : ∀ (A : List (V × Vl)), LRel K (· ∈ fs) H (A ++ (slots σ fr ++ L)) fs → ∀ {vs : List V} {ps : List Pd} {ds : List D}, pok σ vs ps → Tr.looks fr ps = some ds → (∀ q ∈ pit vs ps, q ∈ A) → Paired (RelO K (· ∈ fs) H) vs ds := by
    intro A r vs ps ds p
    induction p generalizing ds with
    | nil => intro e _; cases e; exact .nil
    | @cons v q vs ps h1 _ ih =>
      intro e hA
      unfold Tr.looks at e
      cases e1 : look fr q with
      | none => rw [e1] at e; cases e
      | some d =>
        rw [e1] at e
        cases e2 : Tr.looks fr ps with
        | none => rw [Option.bind_some, e2] at e; cases e
        | some ds' =>
          rw [Option.bind_some, e2] at e
          cases e
          obtain ⟨x, m, fl⟩ := look_mem (L := L) (A := A) h1 e1 fun x ex => hA _ (by subst ex; exact List.mem_cons_self)
          obtain ⟨f, rx⟩ := r.mem m
          refine .cons (rx.flat fl) (ih e2 fun z hz => hA z ?_)
          cases q with
          | sl _ => exact hz
          | st _ => exact List.mem_cons_of_mem _ hz
  exact key _ r p e fun q hq => hq
theorem lookM_mem {v : V} {p : Pd} {d : D} {A : List (V × Vl)} (hp : PdOk σ v p) (e : lookM fr p = some d) (hs : ∀ x, p = .st x → (v, x) ∈ A) : ∃ x, (v, x) ∈ A ++ (slots σ fr ++ L) ∧ x.flatM = some d := by
  cases p with
  | sl i =>
    simp only [lookM] at e
    split at e
    · rename_i x q
      exact ⟨x, List.mem_append_right _ (List.mem_append_left _ (slots_mem hp q)), e⟩
    · cases e
  | st x => exact ⟨x, List.mem_append_left _ (hs x rfl), e⟩
theorem Hold.lookM2 {v w : V} {p q : Pd} {d e : D} (h : Hold K σ fr H [v, w] [p, q] L) (e1 : lookM fr p = some d) (e2 : lookM fr q = some e) : OpdM K H [v, w] [d, e] (slots σ fr ++ L) := by
  obtain ⟨pk, l⟩ := h
  refine OpdM.right (L1 := pit [v, w] [p, q]) (OpdM.mk l fun fs r => ?_)
  cases pk with
  | cons h1 h2 =>
    cases h2 with
    | cons h2 _ =>
      obtain ⟨x, m, fl⟩ := lookM_mem (L := L) (A := pit [v, w] [p, q]) h1 e1 fun x ex => by subst ex; exact List.mem_cons_self
      obtain ⟨f, rx⟩ := r.mem m
      obtain ⟨y, m2, fl2⟩ := lookM_mem (L := L) (A := pit [v, w] [p, q]) h2 e2 fun x ex => by
        subst ex
        cases p with
        | sl _ => exact List.mem_cons_self
        | st _ => exact List.mem_cons_of_mem _ List.mem_cons_self
      obtain ⟨f2, rx2⟩ := r.mem m2
      exact .cons (rx.flatM fl) (.cons (rx2.flatM fl2) .nil)
theorem looks_one {p : Pd} {d : D} (e : look fr p = some d) : looks fr [p] = some [d] := by
  simp [looks, e]
theorem looks_two {p q : Pd} {d e : D} (h1 : look fr p = some d) (h2 : look fr q = some e) : looks fr [p, q] = some [d, e] := by
  simp [looks, h1, h2]
theorem Hold.live (h : Hold K σ fr H vs ps L) : Live K H (slots σ fr ++ L) := h.2.right
/-- handed on -/
theorem Hold.force {v : V} {p : Pd} {x : Vl} (ok : SlOk σ fr) (h : Hold K σ fr H [v] [p] L) (e : Tr.force p fr = some (x, fr')) : SlOk σ fr' ∧ Live K H ((v, x) :: (slots σ fr' ++ L)) := by
  obtain ⟨p1, l⟩ := h
  cases p1 with
  | cons hp _ =>
    cases p with
    | st y =>
      simp only [Tr.force] at e
      split at e
      · cases e; exact ⟨ok, l⟩
      · cases e
    | sl i =>
      have hp : σ[i]? = some (some v) := hp
      have l : Live K H (slots σ fr ++ L) := l
      have go : ∀ (y : Vl), fr[i]? = some (some y) → y.own = true → SlOk σ (fr.set i (some (.fz y.strip))) ∧ Live K H ((v, .fz y.strip) :: (slots σ (fr.set i (some (.fz y.strip))) ++ L)) := fun y q np => by
        refine ⟨ok.put hp, ?_⟩
        have hi : i < fr.length := (List.getElem?_eq_some_iff.mp q).1
        have l1 : Live K H ((v, y) :: (slots σ (fr.set i none) ++ L)) := l.perm (List.Perm.append_right _ (slots_at hp q))
        refine ((l1.freeze np).dup).perm (List.Perm.cons _ ?_)
        exact (List.Perm.append_right L (slots_put (x := .fz y.strip) hp hi)).symm
      simp only [Tr.force] at e
      split at e
      · rename_i d q
        cases e
        refine ⟨ok, ?_⟩
        have l1 : Live K H ((v, .fz d) :: (slots σ (fr.set i none) ++ L)) := l.perm (List.Perm.append_right _ (slots_at hp q))
        exact l1.dup.perm (List.Perm.cons _ (List.Perm.append_right L (slots_at hp q)).symm)
      · rename_i ds q; cases e; exact go _ q rfl
      · rename_i ds q; cases e; exact go _ q rfl
      · rename_i ds q; cases e; exact go _ q rfl
      · cases e

theorem force_own {p : Pd} {x : Vl} (e : Tr.force p fr = some (x, fr')) : x.own = true := by
  cases p with
  | st y =>
    simp only [Tr.force] at e
    split at e
    · rename_i c; cases e; exact c
    · cases e
  | sl i =>
    simp only [Tr.force] at e
    split at e <;> cases e <;> rfl

/-! ### readings -/
def tPs (K : PySem.W.Frag) (f : Fm → R (List Pd)) : TA := fun σ H Q => ∃ fr L ps fr', SlOk σ fr ∧ Live K H (slots σ fr ++ L) ∧ f fr = some (ps, fr') ∧
  ∀ vs H', SlOk σ fr' → Hold K σ fr' H' vs ps L → Q vs H'
def tP (K : PySem.W.Frag) (f : Fm → R Pd) : TE := fun σ H Q => ∃ fr L p fr', SlOk σ fr ∧ Live K H (slots σ fr ++ L) ∧ f fr = some (p, fr') ∧
  ∀ v H', SlOk σ fr' → Hold K σ fr' H' [v] [p] L → Q v H'
def tX (K : PySem.W.Frag) (f : Fm → R Vl) : TE := fun σ H Q => ∃ fr L x fr', SlOk σ fr ∧ Live K H (slots σ fr ++ L) ∧ f fr = some (x, fr') ∧
  ∀ v H', SlOk σ fr' → Live K H' ((v, x) :: (slots σ fr' ++ L)) → Q v H'
def tXs (K : PySem.W.Frag) (f : Fm → R (List Vl)) : TA := fun σ H Q => ∃ fr L xs fr', SlOk σ fr ∧ Live K H (slots σ fr ++ L) ∧ f fr = some (xs, fr') ∧
  ∀ vs H', SlOk σ fr' → vs.length = xs.length → Live K H' (vs.zip xs ++ (slots σ fr' ++ L)) → Q vs H'
def tB' (K : PySem.W.Frag) (f : Fm → R Bool) : TT := fun σ H Q => ∃ fr L b fr', SlOk σ fr ∧ Live K H (slots σ fr ++ L) ∧ f fr = some (b, fr') ∧
  ∀ H', SlOk σ fr' → Live K H' (slots σ fr' ++ L) → Q b H'
/-- the value that an operand is, handed on -/
def fo (f : Fm → R Pd) : Fm → R Vl := fun fr => (f fr).bind fun p => force p.1 p.2
theorem tP_of_tX {f : Fm → R Pd} {Q : VK} (h : tX K (fo f) σ H Q) : tP K f σ H Q := by
  obtain ⟨fr, L, x, fr', ok, l, e, q⟩ := h
  unfold fo at e
  cases e1 : f fr with
  | none => rw [e1] at e; cases e
  | some r =>
    rw [e1] at e
    refine ⟨fr, L, r.1, r.2, ok, l, e1, fun v H' ok' h' => ?_⟩
    obtain ⟨ok2, l2⟩ := h'.force ok' e
    exact q v H' ok2 l2
end
section
variable {X : Cx} {e : Expr} {es : List Expr}
theorem pe_mono {t t' : TE} (h : PE X e t) (m : ∀ σ H Q, t' σ H Q → t σ H Q) : PE X e t' := ⟨fun pins s σ H Q hI hq => h.run pins s σ H Q hI (m σ H Q hq)⟩
theorem pa_mono {t t' : TA} (h : PA X es t) (m : ∀ σ H Q, t' σ H Q → t σ H Q) : PA X es t' := ⟨fun pos pins s σ H Q hI hq => h.run pos pins s σ H Q hI (m σ H Q hq)⟩
theorem pt_mono {t t' : TT} (h : PT X e t) (m : ∀ σ H Q, t' σ H Q → t σ H Q) : PT X e t' := ⟨fun pins s σ H Q hI hq => h.run pins s σ H Q hI (m σ H Q hq)⟩
theorem pw_mono {t t' : TT} (h : PW X e t) (m : ∀ σ H Q, t' σ H Q → t σ H Q) : PW X e t' := ⟨fun wh pins s σ H Q hI hq => h.run wh pins s σ H Q hI (m σ H Q hq)⟩
theorem ps_mono {st : Stmt} {t t' : TS} (h : PS X st t) (m : ∀ D σ H, t' D σ H → t D σ H) : PS X st t' := ⟨fun pins s σ H D hI hq => h.run pins s σ H D hI (m D σ H hq)⟩
theorem pss_mono {st : List Stmt} {t t' : TS} (h : PSs X st t) (m : ∀ D σ H, t' D σ H → t D σ H) : PSs X st t' := ⟨fun pins s σ H D hI hq => h.run pins s σ H D hI (m D σ H hq)⟩
theorem pe_forced {f : Fm → R Pd} (h : PE X e (tP X.K f)) : PE X e (tX X.K (fo f)) := pe_mono h fun _ _ _ q => tP_of_tX q
end
end Tr

set_option Elab.async false
set_option linter.all false
set_option maxRecDepth 100000
set_option maxHeartbeats 1000000
/-! What the operations answer, by values. -/
namespace Tr
open PySem PySem.Spec PyProof.Rows L2
section
variable {X : Cx} {pins : List (Addr × Obj)} {σ : St} {s : Shared} {F : Addr → Prop} {H : Hp} {L : List (V × Vl)}

mutual
theorem RelD.reads (hI : Inv X pins σ H s) : ∀ (d : D) (v : V) (u : Value), RelD X.K F H v d → RelV v u → ∃ as, Reads s.heap u d as
  | .none, _, _, h, r => by cases h; cases r; exact ⟨_, .none⟩
  | .bool b, _, _, h, r => by cases h; cases r; exact ⟨_, .bool b⟩
  | .int i, _, _, h, r => by cases h; obtain ⟨t, rfl⟩ := r; exact ⟨_, .int i t⟩
  | .str x, _, _, h, r => by cases h; obtain ⟨t, rfl⟩ := r; exact ⟨_, .str x t⟩
  | .list ds, _, _, h, r => by
    cases h with
    | lst h1 h2 =>
      cases r
      obtain ⟨us, ru, ⟨ob, n, g1, g2, _, g3⟩, _⟩ := hI.list (h1.sq (K := X.K))
      obtain ⟨as, q⟩ := RelDs.reads hI ds _ us h2 ru
      exact ⟨_, .list g1 g2 g3 q⟩
  | .tuple ds, _, _, h, r => by
    cases h with
    | tup h1 h2 =>
      cases r
      obtain ⟨us, ru, ⟨ob, g1, g2, n, g3⟩, _⟩ := hI.tuple h1.sq
      obtain ⟨as, q⟩ := RelDs.reads hI ds _ us h2 ru
      exact ⟨_, .tuple g1 g2 g3 q⟩
  | .dict _, _, _, h, _ => by cases h
theorem RelDs.reads (hI : Inv X pins σ H s) : ∀ (ds : List D) (vs : List V) (us : List Value), RelDs X.K F H vs ds → Vals vs us → ∃ as, ReadsAll s.heap us ds as
  | [], _, _, h, r => by cases h; cases r; exact ⟨_, .nil⟩
  | d :: ds, _, _, h, r => by
    cases h with
    | cons h1 h2 =>
      cases r with
      | cons r1 r2 =>
        obtain ⟨as, q1⟩ := RelD.reads hI d _ _ h1 r1
        obtain ⟨bs, q2⟩ := RelDs.reads hI ds _ _ h2 r2
        exact ⟨_, .cons q1 q2⟩
end
theorem RelO.reads (hI : Inv X pins σ H s) {d : D} {v : V} {u : Value} (h : RelO X.K F H v d) (r : RelV v u) : ∃ as, Reads s.heap u d as := by
  cases h with
  | fz h => exact RelD.reads hI d v u h r
  | @ol a xs ds h1 h2 =>
    cases r
    obtain ⟨us, ru, ⟨ob, n, g1, g2, _, g3⟩, _⟩ := hI.list (SqL.of (K := X.K) h1)
    obtain ⟨as, q⟩ := RelDs.reads hI ds _ us h2 ru
    exact ⟨_, .list g1 g2 g3 q⟩
  | @scr a ns h1 =>
    have h0 : RelO X.K F H (.ref a) (.list (ns.map .int)) := .scr h1
    obtain ⟨a', xs, e, q1, q2⟩ := h0.list
    cases e
    cases r
    obtain ⟨us, ru, ⟨ob, n, g1, g2, _, g3⟩, _⟩ := hI.list q1
    obtain ⟨as, q⟩ := RelDs.reads hI _ _ us q2 ru
    exact ⟨_, .list g1 g2 g3 q⟩
theorem Opd.pair {K : PySem.W.Frag} {x y : V} {d e : D} (h : Opd K H [x, y] [d, e] L) : ∃ F, RelO K F H x d ∧ RelO K F H y e := by
  obtain ⟨fs, _, _, o⟩ := h
  cases o with
  | cons h1 o =>
    cases o with
    | cons h2 _ => exact ⟨_, h1, h2⟩
theorem OpdM.pair {K : PySem.W.Frag} {x y : V} {d e : D} (h : OpdM K H [x, y] [d, e] L) : ∃ F, RelM K F H x d ∧ RelM K F H y e := by
  obtain ⟨fs, _, _, o⟩ := h
  cases o with
  | cons h1 o =>
    cases o with
    | cons h2 _ => exact ⟨_, h1, h2⟩
theorem Opd.one {K : PySem.W.Frag} {x : V} {d : D} (h : Opd K H [x] [d] L) : ∃ F, RelO K F H x d := by
  obtain ⟨fs, _, _, o⟩ := h
  cases o with
  | cons h1 _ => exact ⟨_, h1⟩
/-- a scalar answer -/
theorem Opd.sc {K : PySem.W.Frag} {vs : List V} {ds : List D} {d : D} {v : V} (h : Opd K H vs ds L) (e : scalD d = some v) : Live K H ((v, .fz d) :: L) := h.live.scal e

def bopO : Bop → Operator
  | .add => .Add
  | .sub => .Sub
  | .mul => .Mult
  | .fdiv => .FloorDiv
  | .mod => .Mod
  | .pow => .Pow
def rBin (K : PySem.W.Frag) (op : Bop) : R2 := fun x y H Q => ∃ d e L z, OpdM K H [x, y] [d, e] L ∧ binD op d e = some z ∧ ∀ v H', Live K H' ((v, z) :: L) → Q v H'
theorem szOk {n : Nat} (h : okSz n = true) : n ≤ sizeLine := by
  rw [sizeLine_eq]
  exact of_decide_eq_true h
theorem paired2 {α β : Type} {P : α → β → Prop} {x y : α} {d e : β} (o : Paired P [x, y] [d, e]) : P x d ∧ P y e := by
  cases o with
  | cons h1 o =>
    cases o with
    | cons h2 _ => exact ⟨h1, h2⟩
theorem paired1 {α β : Type} {P : α → β → Prop} {x : α} {d : β} (o : Paired P [x] [d]) : P x d := by
  cases o with
  | cons h1 o => exact h1
theorem ite_some {α : Type} {c : Bool} {x z : α} (h : (if c = true then some x else Option.none) = some z) : c = true ∧ x = z := by
  cases c with
  | true => exact ⟨rfl, Option.some.inj h⟩
  | false => cases h
theorem op_binD (op : Bop) : OpR X (binaryOp (bopO op)) (rBin X.K op) := by
  intro pins s σ H x y v u Q hI rx ry hq
  obtain ⟨d, e, L, z, o, ez, q⟩ := hq
  obtain ⟨F, h1, h2⟩ := o.pair
  cases op with
  | add =>
    cases d <;> cases e <;> first | cases ez | skip
    · have e1 := h1.o.int; have e2 := h2.o.int; subst e1; subst e2
      exact op_add pins s σ H _ _ v u Q hI rx ry ⟨_, _, rfl, rfl, q _ _ (o.o.sc rfl)⟩
    · rename_i a b
      have e1 := h1.o.str; have e2 := h2.o.str; subst e1; subst e2
      simp only [binD] at ez
      split at ez
      · rename_i sz
        cases ez
        exact op_add_str pins s σ H _ _ v u Q hI rx ry ⟨_, _, rfl, rfl, szOk sz, q _ _ (o.o.sc rfl)⟩
      · cases ez
    · rename_i ds es
      simp only [binD] at ez
      split at ez
      · rename_i sz
        cases ez
        obtain ⟨a, xs, rfl, ha, ra⟩ := h1.list
        obtain ⟨b, ys, rfl, hb, rb⟩ := h2.list
        refine op_cat pins s σ H _ _ v u Q hI rx ry ⟨a, b, xs, ys, rfl, rfl, ha, hb, ?_, fun p hp => q _ _ ?_⟩
        · rw [ra.length, rb.length]; exact szOk sz
        · refine o.o.lst hp fun F' o' => ?_
          obtain ⟨p1, p2⟩ := paired2 o'
          obtain ⟨a', xs', e1, ha', ra'⟩ := p1.list
          obtain ⟨b', ys', e2, hb', rb'⟩ := p2.list
          cases e1; cases e2
          have q1 : SqL X.K H a xs := SqL.of ha
          have q2 : SqL X.K H b ys := SqL.of hb
          rw [hI.list_inj ha' q1] at ra'
          rw [hI.list_inj hb' q2] at rb'
          exact ra'.append rb'
      · cases ez
    · rename_i ds es
      simp only [binD] at ez
      split at ez
      · rename_i sz
        cases ez
        obtain ⟨a, xs, rfl, ha, ra⟩ := h1.o.tuple
        obtain ⟨b, ys, rfl, hb, rb⟩ := h2.o.tuple
        have both : ∀ F', Paired (RelO X.K F' H) [.ref a, .ref b] [.tuple ds, .tuple es] → RelDs X.K F' H xs ds ∧ RelDs X.K F' H ys es := fun F' o' => by
          obtain ⟨p1, p2⟩ := paired2 o'
          obtain ⟨a', xs', e1, ha', ra'⟩ := p1.tuple
          obtain ⟨b', ys', e2, hb', rb'⟩ := p2.tuple
          cases e1; cases e2
          rw [hI.tuple_inj ha' ha] at ra'
          rw [hI.tuple_inj hb' hb] at rb'
          exact ⟨ra', rb'⟩
        have stand : ∀ F' {c : Addr} {ws : List D} {zs : List V}, RelO X.K F' H (.ref c) (.tuple ws) → RelD X.K F' H (.ref c) (.tuple ws) := fun F' {c ws zs} z => by
          cases z with
          | fz z => exact z
        refine op_catA pins s σ H _ _ v u Q hI rx ry ⟨a, b, xs, ys, rfl, rfl, ha, hb, ?_, fun hn => q _ _ ?_, fun _ hn => q _ _ ?_, fun _ _ p hp => q _ _ ?_⟩
        · rw [ra.length, rb.length]; exact szOk sz
        · refine o.o.fz fun F' o' => ?_
          have := (both F' o').1.length
          rw [hn] at this
          have e0 : ds = [] := List.eq_nil_of_length_eq_zero this.symm
          subst e0
          exact stand F' (zs := ys) (paired2 o').2
        · refine o.o.fz fun F' o' => ?_
          have := (both F' o').2.length
          rw [hn] at this
          have e0 : es = [] := List.eq_nil_of_length_eq_zero this.symm
          subst e0
          rw [List.append_nil]
          exact stand F' (zs := xs) (paired2 o').1
        · exact o.o.tup hp fun F' o' => (both F' o').1.append (both F' o').2
      · cases ez
  | sub =>
    cases d <;> cases e <;> first | cases ez | skip
    have e1 := h1.o.int; have e2 := h2.o.int; subst e1; subst e2
    exact op_sub pins s σ H _ _ v u Q hI rx ry ⟨_, _, rfl, rfl, q _ _ (o.o.sc rfl)⟩
  | mul =>
    cases d <;> cases e <;> first | cases ez | skip
    · have e1 := h1.o.int; have e2 := h2.o.int; subst e1; subst e2
      simp only [binD] at ez
      split at ez
      · rename_i c
        cases ez
        simp only [Bool.or_eq_true, decide_eq_true_eq] at c
        rcases c with (c | c) | c
        · exact op_mul pins s σ H _ _ v u Q hI rx ry ⟨_, _, rfl, rfl, .inl ⟨by omega, by omega⟩, q _ _ (o.o.sc rfl)⟩
        · exact op_mul pins s σ H _ _ v u Q hI rx ry ⟨_, _, rfl, rfl, .inr ⟨by omega, by omega⟩, q _ _ (o.o.sc rfl)⟩
        · exact op_mulW pins s σ H _ _ v u Q hI rx ry ⟨_, _, rfl, rfl, c, q _ _ (o.o.sc rfl)⟩
      · cases ez
    · rename_i ds k
      have e2 := h2.o.int; subst e2
      simp only [binD] at ez
      split at ez
      · rename_i c
        cases ez
        simp only [Bool.and_eq_true, decide_eq_true_eq] at c
        obtain ⟨a, xs, rfl, ha, ra⟩ := h1.list
        refine op_rep pins s σ H _ _ v u Q hI rx ry ⟨a, k, xs, rfl, rfl, ha, by omega, by omega, ?_, fun p hp => q _ _ ?_⟩
        · rw [ra.length, sizeLine_eq]
          have a1 : ds.length * k.toNat ≤ 1000 * 1000 := Nat.mul_le_mul c.2 (by omega)
          omega
        · refine o.o.lst hp fun F' o' => ?_
          obtain ⟨a', xs', e1, ha', ra'⟩ := (paired2 o').1.list
          cases e1
          have q1 : SqL X.K H a xs := SqL.of ha
          rw [hI.list_inj ha' q1] at ra'
          exact ra'.rep _
      · cases ez
    · rename_i ds k
      have e2 := h2.o.int; subst e2
      simp only [binD] at ez
      split at ez
      · rename_i c
        cases ez
        simp only [Bool.and_eq_true, decide_eq_true_eq] at c
        obtain ⟨a, xs, rfl, ha, ra⟩ := h1.o.tuple
        have hl := ra.length
        have key : ∀ F', Paired (RelO X.K F' H) [.ref a, .int k] [.tuple ds, .int k] → RelDs X.K F' H (List.replicate k.toNat xs).flatten (repD k ds) := fun F' o' => by
          obtain ⟨a', xs', e1, ha', ra'⟩ := (paired2 o').1.tuple
          cases e1
          rw [hI.tuple_inj ha' ha] at ra'
          exact ra'.rep _
        refine op_repA pins s σ H _ _ v u Q hI rx ry ⟨a, k, xs, rfl, rfl, ha, c.1.1, c.1.2, by omega, fun hs => q _ _ ?_, fun p hp => q _ _ ?_⟩
        · refine o.o.fz fun F' o' => ?_
          have r := key F' o'
          rw [hs] at r
          cases (paired2 o').1 with
          | fz z =>
            cases z with
            | tup h3 h4 => exact .tup (by
                obtain ⟨a', xs', e1, ha', ra'⟩ := (paired2 o').1.tuple
                cases e1
                rw [hI.tuple_inj ha' ha] at ra'
                exact (show xs = _ from hI.tuple_inj ha h3.sq) ▸ h3) r
        · exact o.o.tup hp fun F' o' => key F' o'
      · cases ez
  | fdiv =>
    cases d <;> cases e <;> first | cases ez | skip
    have e1 := h1.o.int; have e2 := h2.o.int; subst e1; subst e2
    simp only [binD] at ez
    split at ez
    · rename_i c
      cases ez
      simp only [Bool.and_eq_true, decide_eq_true_eq] at c
      exact op_fdiv pins s σ H _ _ v u Q hI rx ry ⟨_, _, rfl, rfl, c, q _ _ (o.o.sc rfl)⟩
    · cases ez
  | mod =>
    cases d <;> cases e <;> first | cases ez | skip
    have e1 := h1.o.int; have e2 := h2.o.int; subst e1; subst e2
    simp only [binD] at ez
    split at ez
    · rename_i c
      cases ez
      exact op_mod pins s σ H _ _ v u Q hI rx ry ⟨_, _, rfl, rfl, of_decide_eq_true c, q _ _ (o.o.sc rfl)⟩
    · cases ez
  | pow =>
    cases d <;> cases e <;> first | cases ez | skip
    have e1 := h1.o.int; have e2 := h2.o.int; subst e1; subst e2
    simp only [binD] at ez
    split at ez
    · rename_i c
      cases ez
      simp only [Bool.and_eq_true, decide_eq_true_eq] at c
      exact op_pow pins s σ H _ _ v u Q hI rx ry ⟨_, _, rfl, rfl, ⟨c.1.1, c.1.2, c.2⟩, q _ _ (o.o.sc rfl)⟩
    · cases ez

/-! ### comparisons -/
def copO : Cop → CmpOp
  | .eq => .Eq
  | .ne => .NotEq
  | .lt => .Lt
  | .le => .LtE
  | .gt => .Gt
  | .ge => .GtE
  | .isin => .In
  | .notin => .NotIn
def rCop (K : PySem.W.Frag) (op : Cop) : R2 := fun x y H Q => ∃ d e L z, Opd K H [x, y] [d, e] L ∧ cmpD op d e = some z ∧ ∀ H', Live K H' L → Q (.bl z) H'
/-- each item beside its data: what == with x answers -/
theorem items_eqv {d : D} {u : Value} {as : List Addr} (hI : Inv X pins σ H s) (hu : X.A.in1.units + 64 < cLine) (rd : Reads s.heap u d as) (sd : SeqAt.shaped d = true) {xs : List V} {ds : List D} {us : List Value}
    (r : RelDs X.K F H xs ds) (rv : Vals xs us) (hs : ds.all SeqAt.shaped = true) :
    ∃ e : Value → Bool, (∀ y, y ∈ us → SeqAt.EqAt X.A.in1 s y u (e y)) ∧ us.any e = inD d ds := by
  refine ⟨fun y => (Classical.propDecidable (∃ dy as, Reads s.heap y dy as ∧ PyData.eqv dy d = true)).decide, ?_, ?_⟩
  · induction rv generalizing ds with
    | nil => intro y hy; cases hy
    | @cons x w xs us rx _ ih =>
      cases r with
      | @cons _ _ dx _ r1 r2 =>
        simp only [List.all_cons, Bool.and_eq_true] at hs
        intro y hy
        rcases List.mem_cons.mp hy with e | hy
        · subst e
          obtain ⟨bs, q⟩ := RelD.reads hI dx x y r1 rx
          have key := SeqAt.eqAt_reads dx d X.A.in1 s y u bs as q rd (SeqAt.canLay_of_shaped hs.1) (SeqAt.canLay_of_shaped sd) (SeqAt.room_of_shaped hs.1 hu)
          have eb : PyData.eqv dx d = (Classical.propDecidable (∃ dy as, Reads s.heap y dy as ∧ PyData.eqv dy d = true)).decide := by
            cases c : PyData.eqv dx d with
            | true => exact (@decide_eq_true _ (Classical.propDecidable _) ⟨dx, bs, q, c⟩).symm
            | false =>
              refine (@decide_eq_false _ (Classical.propDecidable _) ?_).symm
              rintro ⟨dy, cs, q2, c2⟩
              rw [← (Reads.unique q dy cs q2).1] at c2
              rw [c] at c2; cases c2
          show SeqAt.EqAt X.A.in1 s y u (Classical.propDecidable (∃ dy as, Reads s.heap y dy as ∧ PyData.eqv dy d = true)).decide
          rw [← eb]
          exact key
        · exact ih r2 hs.2 y hy
  · induction rv generalizing ds with
    | nil => cases r; rfl
    | @cons x w xs us rx _ ih =>
      cases r with
      | @cons _ _ dx _ r1 r2 =>
        simp only [List.all_cons, Bool.and_eq_true] at hs
        obtain ⟨bs, q⟩ := RelD.reads hI dx x w r1 rx
        have eb : (Classical.propDecidable (∃ dy as, Reads s.heap w dy as ∧ PyData.eqv dy d = true)).decide = PyData.eqv dx d := by
          cases c : PyData.eqv dx d with
          | true => exact (@decide_eq_true _ (Classical.propDecidable _) ⟨dx, bs, q, c⟩)
          | false =>
            refine (@decide_eq_false _ (Classical.propDecidable _) ?_)
            rintro ⟨dy, cs, q2, c2⟩
            rw [← (Reads.unique q dy cs q2).1] at c2
            rw [c] at c2; cases c2
        unfold inD
        rw [List.any_cons, List.any_cons, eb]
        have := ih r2 hs.2
        unfold inD at this
        rw [this]
theorem op_copD (op : Cop) (hu : X.A.units + 70 < cLine) : OpR X (compareOp (copO op)) (rCop X.K op) := by
  intro pins s σ H x y v u Q hI rx ry hq
  obtain ⟨d, e, L, z, o, ez, q⟩ := hq
  obtain ⟨F, h1, h2⟩ := o.pair
  have hu1 : X.A.in1.units + 64 < cLine := by show X.A.units + 1 + 64 < cLine; omega
  have fin : EP X pins σ Q (.bool z) s := ⟨.bl z, H, hI, rfl, q H o.live⟩
  cases op with
  | eq =>
    by_cases hst : ∃ a b, d = .str a ∧ e = .str b
    · obtain ⟨a, b, rfl, rfl⟩ := hst
      cases ez
      have e1 := h1.str; have e2 := h2.str; subst e1; subst e2
      refine op_eq pins s σ H _ _ v u Q hI rx ry ⟨rfl, ?_⟩
      have e3 : decide (V.str a = V.str b) = decide (a = b) := by simp
      rw [e3]
      exact q _ o.live
    · have ez' : (if okEq d e = true then some (PyData.eqv d e) else none) = some z := by
        rw [← ez]
        cases d <;> cases e <;> first | rfl | exact (hst ⟨_, _, rfl, rfl⟩).elim
      obtain ⟨c, rfl⟩ := ite_some ez'
      unfold okEq at c
      simp only [Bool.and_eq_true] at c
      obtain ⟨as, g1⟩ := h1.reads hI rx
      obtain ⟨bs, g2⟩ := h2.reads hI ry
      exact SeqAt.compareEq_shaped g1 g2 c.1 c.2 (by omega) fin
  | ne =>
    by_cases hst : ∃ a b, d = .str a ∧ e = .str b
    · obtain ⟨a, b, rfl, rfl⟩ := hst
      cases ez
      have e1 := h1.str; have e2 := h2.str; subst e1; subst e2
      refine op_ne pins s σ H _ _ v u Q hI rx ry ⟨rfl, ?_⟩
      have e3 : decide (V.str a = V.str b) = decide (a = b) := by simp
      rw [e3]
      exact q _ o.live
    · have ez' : (if okEq d e = true then some (!PyData.eqv d e) else none) = some z := by
        rw [← ez]
        cases d <;> cases e <;> first | rfl | exact (hst ⟨_, _, rfl, rfl⟩).elim
      obtain ⟨c, rfl⟩ := ite_some ez'
      unfold okEq at c
      simp only [Bool.and_eq_true] at c
      obtain ⟨as, g1⟩ := h1.reads hI rx
      obtain ⟨bs, g2⟩ := h2.reads hI ry
      exact SeqAt.compareNe_shaped g1 g2 c.1 c.2 (by omega) fin
  | lt =>
    cases d <;> cases e <;> first | cases ez | skip
    have e1 := h1.int; have e2 := h2.int; subst e1; subst e2
    exact op_lt pins s σ H _ _ v u Q hI rx ry ⟨_, _, rfl, rfl, q _ o.live⟩
  | le =>
    cases d <;> cases e <;> first | cases ez | skip
    have e1 := h1.int; have e2 := h2.int; subst e1; subst e2
    exact op_le pins s σ H _ _ v u Q hI rx ry ⟨_, _, rfl, rfl, q _ o.live⟩
  | gt =>
    cases d <;> cases e <;> first | cases ez | skip
    have e1 := h1.int; have e2 := h2.int; subst e1; subst e2
    exact op_gt pins s σ H _ _ v u Q hI rx ry ⟨_, _, rfl, rfl, q _ o.live⟩
  | ge =>
    cases d <;> cases e <;> first | cases ez | skip
    have e1 := h1.int; have e2 := h2.int; subst e1; subst e2
    exact op_ge pins s σ H _ _ v u Q hI rx ry ⟨_, _, rfl, rfl, q _ o.live⟩
  | isin =>
    obtain ⟨as, g1⟩ := h1.reads hI rx
    cases e <;> simp only [cmpD] at ez <;> first | cases ez | skip
    all_goals
      (obtain ⟨c, rfl⟩ := ite_some ez)
      simp only [Bool.and_eq_true] at c
      · first
          | (obtain ⟨a, xs, rfl, ha, ra⟩ := h2.list
             cases ry
             obtain ⟨us, rv, pl, _⟩ := hI.list ha
             obtain ⟨ef, k1, k2⟩ := items_eqv hI hu1 g1 c.1 ra rv c.2
             exact SeqAt.in_listAt ef pl.isList (fun w hw => k1 w (by simpa using hw)) (by rw [List.any_toArray, k2]; exact fin))
          | (obtain ⟨a, xs, rfl, ha, ra⟩ := h2.tuple
             cases ry
             obtain ⟨us, rv, pl, _⟩ := hI.tuple ha
             obtain ⟨ef, k1, k2⟩ := items_eqv hI hu1 g1 c.1 ra rv c.2
             exact SeqAt.in_tupleAt ef pl (fun w hw => k1 w (by simpa using hw)) (by rw [List.any_toArray, k2]; exact fin))
  | notin =>
    obtain ⟨as, g1⟩ := h1.reads hI rx
    cases e <;> simp only [cmpD] at ez <;> first | cases ez | skip
    all_goals
      (obtain ⟨c, rfl⟩ := ite_some ez)
      simp only [Bool.and_eq_true] at c
      · first
          | (obtain ⟨a, xs, rfl, ha, ra⟩ := h2.list
             cases ry
             obtain ⟨us, rv, pl, _⟩ := hI.list ha
             obtain ⟨ef, k1, k2⟩ := items_eqv hI hu1 g1 c.1 ra rv c.2
             exact SeqAt.notIn_listAt ef pl.isList (fun w hw => k1 w (by simpa using hw)) (by rw [List.any_toArray, k2]; exact fin))
          | (obtain ⟨a, xs, rfl, ha, ra⟩ := h2.tuple
             cases ry
             obtain ⟨us, rv, pl, _⟩ := hI.tuple ha
             obtain ⟨ef, k1, k2⟩ := items_eqv hI hu1 g1 c.1 ra rv c.2
             exact SeqAt.notIn_tupleAt ef pl (fun w hw => k1 w (by simpa using hw)) (by rw [List.any_toArray, k2]; exact fin))

/-! ### an item -/
def rIdx (K : PySem.W.Frag) : R2 := fun x y H Q => ∃ d e L z, Opd K H [x, y] [d, e] L ∧ idxD d e = some z ∧ ∀ v H', Live K H' ((v, .fz z) :: L) → Q v H'
theorem at_place {xs : List V} {ds : List D} {K : PySem.W.Frag} (r : RelDs K F H xs ds) {i : Int} {z : D} (e : ((placeD ds.length i).bind fun j => ds[j]?) = some z) : ∃ v, atI xs i = some v ∧ RelD K F H v z := by
  unfold placeD at e
  cases e1 : ixN ds.length i with
  | none => rw [e1] at e; cases e
  | some j =>
    rw [e1] at e
    obtain ⟨v, q1, q2⟩ := r.getD (i := j) (d := z) e
    refine ⟨v, ?_, q2⟩
    unfold atI
    rw [r.length, e1]
    exact q1
theorem ix_idxD : IxR X (rIdx X.K) := by
  intro value slice pins s σ H x y v u Q hI rx ry hq hs
  obtain ⟨d, e, L, z, o, ez, q⟩ := hq
  obtain ⟨F, h1, h2⟩ := o.pair
  cases d <;> cases e <;> first | cases ez | skip
  · have e2 := h2.int; subst e2
    rename_i zs k
    have e1 := h1.str; subst e1
    simp only [idxD] at ez
    split at ez
    · rename_i c
      refine ix_seq value slice pins s σ H _ _ v u Q hI rx ry ?_ hs
      cases e3 : placeD zs.length k with
      | none => rw [e3] at ez; cases ez
      | some j =>
        rw [e3, Option.bind_some] at ez
        cases e4 : zs.cps.toList[j]? with
        | none => rw [e4] at ez; cases ez
        | some c4 =>
          rw [e4] at ez
          cases ez
          refine .inr (.inr ⟨zs, k, c4, rfl, rfl, szOk c, ?_, q _ _ (o.sc rfl)⟩)
          unfold atI
          have : zs.cps.toList.length = zs.length := by simp [Str.length]
          rw [this]
          unfold placeD at e3
          rw [e3]
          exact e4
    · cases ez
  · have e2 := h2.int; subst e2
    obtain ⟨a, xs, rfl, ha, ra⟩ := h1.list
    obtain ⟨w, q1, _⟩ := at_place ra ez
    refine ix_seq value slice pins s σ H _ _ v u Q hI rx ry (.inl ⟨a, xs, _, w, rfl, rfl, ha, q1, q _ _ ?_⟩) hs
    refine o.fz fun F' o' => ?_
    obtain ⟨a', xs', e1, ha', ra'⟩ := (paired2 o').1.list
    cases e1
    rw [hI.list_inj ha' ha] at ra'
    obtain ⟨w', q1', q2'⟩ := at_place ra' ez
    rw [q1] at q1'
    cases q1'
    exact q2'
  · have e2 := h2.int; subst e2
    obtain ⟨a, xs, rfl, ha, ra⟩ := h1.tuple
    obtain ⟨w, q1, _⟩ := at_place ra ez
    refine ix_seq value slice pins s σ H _ _ v u Q hI rx ry (.inr (.inl ⟨a, xs, _, w, rfl, rfl, ha, q1, q _ _ ?_⟩)) hs
    refine o.fz fun F' o' => ?_
    obtain ⟨a', xs', e1, ha', ra'⟩ := (paired2 o').1.tuple
    cases e1
    rw [hI.tuple_inj ha' ha] at ra'
    obtain ⟨w', q1', q2'⟩ := at_place ra' ez
    rw [q1] at q1'
    cases q1'
    exact q2'

/-! ### slices -/
def rSlc (K : PySem.W.Frag) : V → Option Int → Option Int → Hp → VK → Prop := fun x lo hi H Q => ∃ d L z, Opd K H [x] [d] L ∧ slcD false lo hi d = some z ∧ ∀ v H', Live K H' ((v, z) :: L) → Q v H'
theorem RelDs.cut {K : PySem.W.Frag} {xs : List V} {ds : List D} (r : RelDs K F H xs ds) (lo hi : Option Int) : RelDs K F H (cutV xs lo hi) (cutL ds lo hi) := by
  unfold cutV cutL
  rw [r.length]
  exact (r.drop _).take _
theorem cut_whole {ds : List D} {lo hi : Option Int} (h : HT.sIx ds.length 0 lo = 0 ∧ HT.sIx ds.length ds.length hi = ds.length) : cutL ds lo hi = ds := by
  unfold cutL
  rw [h.1, h.2]
  simp
theorem sl_slcD : SlR X (rSlc X.K) := by
  intro pins s σ H x v vl vu lo hi sl Q hI rx hs pl pu hq
  obtain ⟨d, L, z, o, ez, q⟩ := hq
  obtain ⟨F, h1⟩ := o.one
  cases d <;> simp only [slcD, Bool.false_eq_true, if_false] at ez <;> first | cases ez; done | skip
  · rename_i zs
    · obtain ⟨c, rfl⟩ := ite_some ez
      have e1 := h1.str; subst e1
      exact sl_str pins s σ H _ v vl vu lo hi sl Q hI rx hs pl pu (by
        refine ⟨zs, rfl, szOk c, ?_⟩
        have := q (.str ⟨(cutL zs.cps.toList lo hi).toArray⟩) H (o.sc rfl)
        exact this)
  · rename_i ds
    cases ez
    obtain ⟨a, xs, rfl, ha, ra⟩ := h1.list
    refine sl_list pins s σ H _ v vl vu lo hi sl Q hI rx hs pl pu ⟨a, xs, rfl, ha, fun p hp => q _ _ ?_⟩
    refine o.lst hp fun F' o' => ?_
    obtain ⟨a', xs', e1, ha', ra'⟩ := (paired1 o').list
    cases e1
    rw [hI.list_inj ha' ha] at ra'
    exact ra'.cut lo hi
  · rename_i ds
    cases ez
    obtain ⟨a, xs, rfl, ha, ra⟩ := h1.tuple
    refine sl_tupA pins s σ H _ v vl vu lo hi sl Q hI rx hs pl pu ⟨a, xs, rfl, ha, fun hw => q _ _ ?_, fun _ p hp => q _ _ ?_⟩
    · rw [ra.length] at hw
      rw [cut_whole hw]
      refine o.fz fun F' o' => ?_
      have p1 := paired1 o'
      cases p1 with
      | fz p1 => exact p1
    · refine o.tup hp fun F' o' => ?_
      obtain ⟨a', xs', e1, ha', ra'⟩ := (paired1 o').tuple
      cases e1
      rw [hI.tuple_inj ha' ha] at ra'
      exact ra'.cut lo hi

theorem RelDs.rev {K : PySem.W.Frag} {xs : List V} {ds : List D} (r : RelDs K F H xs ds) : RelDs K F H xs.reverse ds.reverse := by
  induction xs generalizing ds with
  | nil => cases r; exact .nil
  | cons x xs ih =>
    cases r with
    | cons h r2 =>
      rw [List.reverse_cons, List.reverse_cons]
      exact (ih r2).append (.cons h .nil)
def rRv (K : PySem.W.Frag) : V → Hp → VK → Prop := fun x H Q => ∃ d L z, Opd K H [x] [d] L ∧ slcD true none none d = some z ∧ ∀ v H', Live K H' ((v, z) :: L) → Q v H'
theorem rev_of (hI : Inv X pins σ H s) {x : V} {Q : VK} (hq : rRv X.K x H Q) : rRev X.K x H Q := by
  obtain ⟨d, L, z, o, ez, q⟩ := hq
  obtain ⟨F, h1⟩ := o.one
  cases d <;> simp only [slcD, if_true, Option.isNone_none, Bool.and_self] at ez <;> first | cases ez; done | skip
  · rename_i ds
    cases ez
    obtain ⟨a, xs, rfl, ha, ra⟩ := h1.list
    refine ⟨a, xs, rfl, .inl ⟨ha, fun p hp => q _ _ ?_⟩⟩
    refine o.lst hp fun F' o' => ?_
    obtain ⟨a', xs', e1, ha', ra'⟩ := (paired1 o').list
    cases e1
    rw [hI.list_inj ha' ha] at ra'
    exact ra'.rev
  · rename_i ds
    cases ez
    obtain ⟨a, xs, rfl, ha, ra⟩ := h1.tuple
    refine ⟨a, xs, rfl, .inr ⟨ha, fun p hp => q _ _ ?_⟩⟩
    refine o.tup hp fun F' o' => ?_
    obtain ⟨a', xs', e1, ha', ra'⟩ := (paired1 o').tuple
    cases e1
    rw [hI.tuple_inj ha' ha] at ra'
    exact ra'.rev

/-! ### truth -/
def rTru (K : PySem.W.Frag) : V → Hp → (Bool → Hp → Prop) → Prop := fun x H Q => ∃ d L, Opd K H [x] [d] L ∧ (match d with | .str z => okSz z.length = true | _ => True) ∧ ∀ H', Live K H' L → Q (truD d) H'
theorem truV_of {K : PySem.W.Frag} {d : D} {x : V} (h1 : RelO K F H x d) (hz : ∀ z, d = .str z → okSz z.length = true) : TruV K x H (truD d) := by
  cases d with
  | none => have e := h1.none; subst e; rfl
  | bool b => have e := h1.bool; subst e; rfl
  | int i => have e := h1.int; subst e; rfl
  | str z =>
    have e := h1.str; subst e
    refine ⟨szOk (hz z rfl), ?_⟩
    simp only [truD]
    cases z.length with
    | zero => rfl
    | succ n => simp; omega
  | list ds =>
    obtain ⟨a, xs, rfl, ha, ra⟩ := h1.list
    refine .inl ⟨xs, ha, ?_⟩
    have := ra.length
    cases xs <;> cases ds <;> first | rfl | cases this
  | tuple ds =>
    obtain ⟨a, xs, rfl, ha, ra⟩ := h1.tuple
    refine .inr (.inl ⟨xs, ha, ?_⟩)
    have := ra.length
    cases xs <;> cases ds <;> first | rfl | cases this
  | dict _ => exact (RelO.nodict h1).elim
theorem tru_truD : TruR X (rTru X.K) := by
  intro pins s σ H x v Q hI rx hq
  obtain ⟨d, L, o, hz, q⟩ := hq
  obtain ⟨F, h1⟩ := o.one
  exact tru_ok pins s σ H x v Q hI rx ⟨truD d, truV_of h1 (fun z e => by subst e; exact hz), q H o.live⟩
end
end Tr

set_option Elab.async false
set_option linter.all false
set_option maxRecDepth 100000
set_option maxHeartbeats 1000000
/-! What the built-in functions answer, by values. -/
namespace Tr
open PySem PySem.Spec PyProof.Rows L2
section
variable {X : Cx} {pins : List (Addr × Obj)} {σ : St} {s : Shared} {F : Addr → Prop} {H : Hp} {L : List (V × Vl)}
def rBi (K : PySem.W.Frag) (b : Bi) : List V → Hp → VK → Prop := fun xs H Q => ∃ ds L z, Opd K H xs ds L ∧ biD b ds = some z ∧ ∀ v H', Live K H' ((v, z) :: L) → Q v H'
def biV : Bi → Value
  | .len => .builtin "len"
  | .abs => .builtin "abs"
  | .max => .builtin "max"
  | .min => .builtin "min"
  | .sum => .builtin "sum"
  | .int => .type "int"
  | .str => .type "str"
  | .repr => .builtin "repr"
  | .list => .type "list"
  | .tuple => .type "tuple"
  | .sorted => .builtin "sorted"
  | .all => .builtin "all"
  | .divmod => .builtin "divmod"
  | _ => .none
theorem opd_len {K : PySem.W.Frag} {xs : List V} {ds : List D} (o : Opd K H xs ds L) : xs.length = ds.length := by
  obtain ⟨_, _, _, p⟩ := o
  exact Paired.length p
theorem opd_one {K : PySem.W.Frag} {xs : List V} {d : D} (o : Opd K H xs [d] L) : ∃ x, xs = [x] := by
  have := opd_len o
  cases xs with
  | nil => cases this
  | cons x xs =>
    cases xs with
    | nil => exact ⟨x, rfl⟩
    | cons y xs => cases this
theorem opd_two {K : PySem.W.Frag} {xs : List V} {d e : D} (o : Opd K H xs [d, e] L) : ∃ x y, xs = [x, y] := by
  have := opd_len o
  cases xs with
  | nil => cases this
  | cons x xs =>
    cases xs with
    | nil => cases this
    | cons y xs =>
      cases xs with
      | nil => exact ⟨x, y, rfl⟩
      | cons z xs => cases this
theorem ints_rel {K : PySem.W.Frag} : ∀ {xs : List V} {ds : List D} {ns : List Int}, RelDs K F H xs ds → intsD ds = some ns → xs = ns.map V.int
  | _, _, _, .nil, e => by cases e; rfl
  | _, _, _, .cons (d := d) (ds := ds) h1 h2, e => by
    cases d <;> simp only [intsD] at e <;> first | cases e; done | skip
    cases e1 : intsD ds with
    | none => rw [e1] at e; cases e
    | some ms =>
      rw [e1] at e
      cases e
      cases h1
      rw [ints_rel h2 e1]
      rfl
theorem bools_rel {K : PySem.W.Frag} : ∀ {xs : List V} {ds : List D} {ns : List Bool}, RelDs K F H xs ds → boolsD ds = some ns → xs = ns.map V.bl
  | _, _, _, .nil, e => by cases e; rfl
  | _, _, _, .cons (d := d) (ds := ds) h1 h2, e => by
    cases d <;> simp only [boolsD] at e <;> first | cases e; done | skip
    cases e1 : boolsD ds with
    | none => rw [e1] at e; cases e
    | some ms =>
      rw [e1] at e
      cases e
      cases h1
      rw [bools_rel h2 e1]
      rfl
theorem alike_all {xs : List D} (h : allAlikeB xs = true) : PySem.W.AllAlike xs := by
  intro d hd e he
  unfold allAlikeB at h
  exact List.all_eq_true.mp (List.all_eq_true.mp h d hd) e he
theorem min_ok {xs : List D} (h : okMin xs = true) : PySem.W.AlikeAll xs ∧ PyData.depthAll xs ≤ 64 := by
  unfold okMin at h
  simp only [Bool.and_eq_true, decide_eq_true_eq] at h
  refine ⟨⟨alike_all h.1.1, fun x hx e => ?_⟩, h.2⟩
  have := List.all_eq_true.mp h.1.2 x hx
  subst e
  cases this
theorem paired_at {α β : Type} {P : α → β → Prop} : ∀ {xs : List α} {ys : List β} {i : Nat} {y : β}, Paired P xs ys → ys[i]? = some y → ∃ x, xs[i]? = some x ∧ P x y
  | _, _, _, _, .nil, e => by simp at e
  | _, _, 0, _, .cons r _, e => by simp at e; subst e; exact ⟨_, rfl, r⟩
  | _, _, i + 1, y, .cons _ t, e => by
    obtain ⟨x, q1, q2⟩ := paired_at (i := i) (y := y) t (by simpa using e)
    exact ⟨x, by simpa using q1, q2⟩
/-- an item that is the least, the greatest: what it is -/
theorem item_is {xs : List V} {ds : List D} {us : List Value} {i : Nat} {v : Value} {h' : Heap} {m : D} {bs : List Addr} (hI : Inv X pins σ H s) (rv : Vals xs us) (ra : RelDs X.K F H xs ds) (hv : us[i]? = some v)
    (hr : Reads h' v m bs) (hk : ∀ b o, s.heap.get? b = some o → h'.get? b = some o) : ∃ w, xs[i]? = some w ∧ RelV w v ∧ ds[i]? = some m := by
  obtain ⟨w, q1, q2⟩ := paired_at rv hv
  obtain ⟨d, q3, q4⟩ := ra.get q1
  obtain ⟨as, q5⟩ := RelD.reads hI d w v q4 q2
  have := (Reads.unique (Reads.keeps hk q5) m bs hr).1
  subst this
  exact ⟨w, q1, q2, q3⟩
theorem vals_of_reads {ds : List D} {us : List Value} {xs : List V} (hI : Inv X pins σ H s) (rv : Vals xs us) (ra : RelDs X.K F H xs ds) : ∃ as, ReadsAll s.heap us ds as := RelDs.reads hI ds xs us ra rv

theorem relDs_pairs {K : PySem.W.Frag} : ∀ {l : List (V × D)}, (∀ b ∈ l, RelD K F H b.1 b.2) → RelDs K F H (l.map Prod.fst) (l.map Prod.snd)
  | [], _ => .nil
  | b :: l, h => .cons (h b List.mem_cons_self) (relDs_pairs fun c hc => h c (List.mem_cons_of_mem _ hc))
theorem relDs_zip {K : PySem.W.Frag} : ∀ {xs : List V} {ds : List D}, RelDs K F H xs ds → ∀ b ∈ xs.zip ds, RelD K F H b.1 b.2
  | _, _, .nil, b, hb => by cases hb
  | _, _, .cons h1 h2, b, hb => by
    rw [List.zip_cons_cons] at hb
    rcases List.mem_cons.mp hb with e | hb
    · subst e; exact h1
    · exact relDs_zip h2 b hb
theorem each_zip {R : Value → V × D → Prop} : ∀ {xs : List V} {ds : List D} {us : List Value}, xs.length = ds.length → Vals xs us → (∀ b ∈ xs.zip ds, ∀ v, RelV b.1 v → R v b) → PySem.W.EachIs R us (xs.zip ds)
  | [], _, _, _, r, _ => by cases r; exact .nil
  | _ :: _, [], _, e, _, _ => by cases e
  | x :: xs, d :: ds, _, e, r, h => by
    cases r with
    | cons r1 r2 => exact .cons (h _ List.mem_cons_self _ r1) (each_zip (by simpa using e) r2 fun b hb => h b (List.mem_cons_of_mem _ hb))
theorem each_vals {R : Value → V × D → Prop} (h : ∀ v b, R v b → RelV b.1 v) : ∀ {us : List Value} {l : List (V × D)}, PySem.W.EachIs R us l → Vals (l.map Prod.fst) us
  | _, _, .nil => .nil
  | _, _, .cons r t => .cons (h _ _ r) (each_vals h t)
theorem zip_snd {xs : List V} : ∀ {ds : List D}, xs.length = ds.length → (xs.zip ds).map Prod.snd = ds := by
  induction xs with
  | nil => intro ds e; cases ds with
    | nil => rfl
    | cons _ _ => cases e
  | cons x xs ih => intro ds e; cases ds with
    | nil => cases e
    | cons d ds =>
      rw [List.zip_cons_cons, List.map_cons, ih (by simpa using e)]

theorem cr_len : CallR X (.builtin "len") (rBi X.K .len) := by
  intro pins s σ H xs us Q hI rv hq
  obtain ⟨ds, L, z, o, ez, q⟩ := hq
  obtain ⟨d, rfl⟩ : ∃ d, ds = [d] := by
    match ds, ez with
    | [d], _ => exact ⟨d, rfl⟩
  obtain ⟨x, rfl⟩ := opd_one o
  obtain ⟨F, h1⟩ := o.one
  cases d <;> simp only [biD] at ez <;> first | cases ez; done | skip
  · rename_i y
    obtain ⟨c, rfl⟩ := ite_some ez
    have e1 := h1.str; subst e1
    exact call_len pins s σ H _ us Q hI rv ⟨_, y.length, rfl, ⟨szOk c, rfl⟩, q _ _ (o.sc rfl)⟩
  · cases ez
    obtain ⟨a, xs, rfl, ha, ra⟩ := h1.list
    exact call_len pins s σ H _ us Q hI rv ⟨_, xs.length, rfl, .inl ⟨xs, ha, rfl⟩, by rw [ra.length]; exact q _ _ (o.sc rfl)⟩
  · cases ez
    obtain ⟨a, xs, rfl, ha, ra⟩ := h1.tuple
    exact call_len pins s σ H _ us Q hI rv ⟨_, xs.length, rfl, .inr ⟨xs, ha, rfl⟩, by rw [ra.length]; exact q _ _ (o.sc rfl)⟩
theorem cr_abs : CallR X (.builtin "abs") (rBi X.K .abs) := by
  intro pins s σ H xs us Q hI rv hq
  obtain ⟨ds, L, z, o, ez, q⟩ := hq
  obtain ⟨i, rfl⟩ : ∃ i, ds = [.int i] := by
    match ds, ez with
    | [.int i], _ => exact ⟨i, rfl⟩
  obtain ⟨x, rfl⟩ := opd_one o
  obtain ⟨F, h1⟩ := o.one
  have e1 := h1.int; subst e1
  cases ez
  exact call_abs pins s σ H _ us Q hI rv ⟨i, rfl, q _ _ (o.sc rfl)⟩
theorem cr_int : CallR X (.type "int") (rBi X.K .int) := by
  intro pins s σ H xs us Q hI rv hq
  obtain ⟨ds, L, z, o, ez, q⟩ := hq
  match ds, ez with
  | [.int i], ez =>
    obtain ⟨x, rfl⟩ := opd_one o
    obtain ⟨F, h1⟩ := o.one
    have e1 := h1.int; subst e1
    cases ez
    exact call_int1 pins s σ H _ us Q hI rv (.inl ⟨i, rfl, q _ _ (o.sc rfl)⟩)
  | [.bool b], ez =>
    obtain ⟨x, rfl⟩ := opd_one o
    obtain ⟨F, h1⟩ := o.one
    have e1 := h1.bool; subst e1
    cases ez
    exact call_int1 pins s σ H _ us Q hI rv (.inr ⟨b, rfl, q _ _ (o.sc rfl)⟩)
theorem cr_str : CallR X (.type "str") (rBi X.K .str) := by
  intro pins s σ H xs us Q hI rv hq
  obtain ⟨ds, L, z, o, ez, q⟩ := hq
  match ds, ez with
  | [.int i], ez =>
    obtain ⟨x, rfl⟩ := opd_one o
    obtain ⟨F, h1⟩ := o.one
    have e1 := h1.int; subst e1
    simp only [biD] at ez
    obtain ⟨c, rfl⟩ := ite_some ez
    exact call_str_int pins s σ H _ us Q hI rv ⟨i, rfl, of_decide_eq_true c, q _ _ (o.sc rfl)⟩
theorem cr_list : CallR X (.type "list") (rBi X.K .list) := by
  intro pins s σ H xs us Q hI rv hq
  obtain ⟨ds, L, z, o, ez, q⟩ := hq
  match ds, ez with
  | [d], ez =>
    obtain ⟨x, rfl⟩ := opd_one o
    obtain ⟨F, h1⟩ := o.one
    cases d <;> simp only [biD, seqD] at ez <;> first | cases ez; done | skip
    · cases ez
      obtain ⟨a, xs, rfl, ha, ra⟩ := h1.list
      refine call_list_of pins s σ H _ us Q hI rv ⟨a, xs, rfl, .inl ha, fun p hp => q _ _ ?_⟩
      refine o.lst hp fun F' o' => ?_
      obtain ⟨a', xs', e1, ha', ra'⟩ := (paired1 o').list
      cases e1
      rw [hI.list_inj ha' ha] at ra'
      exact ra'
    · cases ez
      obtain ⟨a, xs, rfl, ha, ra⟩ := h1.tuple
      refine call_list_of pins s σ H _ us Q hI rv ⟨a, xs, rfl, .inr ha, fun p hp => q _ _ ?_⟩
      refine o.lst hp fun F' o' => ?_
      obtain ⟨a', xs', e1, ha', ra'⟩ := (paired1 o').tuple
      cases e1
      rw [hI.tuple_inj ha' ha] at ra'
      exact ra'
theorem cr_tuple : CallR X (.type "tuple") (rBi X.K .tuple) := by
  intro pins s σ H xs us Q hI rv hq
  obtain ⟨ds, L, z, o, ez, q⟩ := hq
  match ds, ez with
  | [d], ez =>
    obtain ⟨x, rfl⟩ := opd_one o
    obtain ⟨F, h1⟩ := o.one
    cases d <;> simp only [biD, seqD] at ez <;> first | cases ez; done | skip
    · cases ez
      obtain ⟨a, xs, rfl, ha, ra⟩ := h1.list
      refine call_tuple_of pins s σ H _ us Q hI rv ⟨a, xs, rfl, .inl ⟨ha, fun p hp => q _ _ ?_⟩⟩
      refine o.tup hp fun F' o' => ?_
      obtain ⟨a', xs', e1, ha', ra'⟩ := (paired1 o').list
      cases e1
      rw [hI.list_inj ha' ha] at ra'
      exact ra'
    · cases ez
      obtain ⟨a, xs, rfl, ha, ra⟩ := h1.tuple
      refine call_tuple_of pins s σ H _ us Q hI rv ⟨a, xs, rfl, .inr ⟨ha, q _ _ ?_⟩⟩
      refine o.fz fun F' o' => ?_
      have p1 := paired1 o'
      cases p1 with
      | fz p1 => exact p1
theorem cr_sumD (hc : X.calm = true) : CallR X (.builtin "sum") (rBi X.K .sum) := by
  intro pins s σ H xs us Q hI rv hq
  obtain ⟨ds, L, z, o, ez, q⟩ := hq
  match ds, ez with
  | [.list es], ez =>
    obtain ⟨x, rfl⟩ := opd_one o
    obtain ⟨F, h1⟩ := o.one
    simp only [biD] at ez
    cases e1 : intsD es with
    | none => rw [e1] at ez; cases ez
    | some ns =>
      rw [e1] at ez
      cases ez
      obtain ⟨a, xs, rfl, ha, ra⟩ := h1.list
      have := ints_rel ra e1
      subst this
      exact cr_sum hc pins s σ H _ us Q hI rv ⟨a, ns, rfl, ha, q _ _ (o.sc rfl)⟩
  | [.tuple es], ez =>
    obtain ⟨x, rfl⟩ := opd_one o
    obtain ⟨F, h1⟩ := o.one
    simp only [biD] at ez
    cases e1 : intsD es with
    | none => rw [e1] at ez; cases ez
    | some ns =>
      rw [e1] at ez
      cases ez
      obtain ⟨a, xs, rfl, ha, ra⟩ := h1.tuple
      have := ints_rel ra e1
      subst this
      obtain ⟨its, rw', ht, _⟩ := hI.tuple ha
      have hi := rw'.ints
      obtain ⟨ys, hx⟩ := hi.allInts.items
      have hn : numsOf (intItems ys).toList = ns := by rw [← hx]; exact hi.numsOf
      rw [nums_intItems] at hn
      rw [hx] at ht
      rw [Vals.ref1 rv]
      refine PySem.W.ktm_sumG (hI.ok.hd hc) ht fun h' tk t' hk => ?_
      refine ⟨.int ns.sum, H, hI.kept hk, ⟨t', ?_⟩, q _ _ (o.sc rfl)⟩
      rw [preSum_eq, List.take_of_length_le (by simp), hn]
theorem cr_allD (hc : X.calm = true) : CallR X (.builtin "all") (rBi X.K .all) := by
  intro pins s σ H xs us Q hI rv hq
  obtain ⟨ds, L, z, o, ez, q⟩ := hq
  match ds, ez with
  | [.list es], ez =>
    obtain ⟨x, rfl⟩ := opd_one o
    obtain ⟨F, h1⟩ := o.one
    simp only [biD] at ez
    cases e1 : boolsD es with
    | none => rw [e1] at ez; cases ez
    | some ns =>
      rw [e1] at ez
      cases ez
      obtain ⟨a, xs, rfl, ha, ra⟩ := h1.list
      have := bools_rel ra e1
      subst this
      exact cr_all hc pins s σ H _ us Q hI rv ⟨a, ns, rfl, ha, q _ _ (o.sc rfl)⟩
theorem min_args {ds : List D} {z : Vl} (h : biD .min ds = some z ∨ biD .max ds = some z) : (∃ i j, ds = [.int i, .int j]) ∨ (∃ es, ds = [.list es]) ∨ ∃ es, ds = [.tuple es] := by
  rcases ds with _ | ⟨d, _ | ⟨e, _ | ⟨f, ds⟩⟩⟩
  · rcases h with h | h <;> cases h
  · cases d <;> first | exact .inr (.inl ⟨_, rfl⟩) | exact .inr (.inr ⟨_, rfl⟩) | (rcases h with h | h <;> cases h)
  · cases d <;> cases e <;> first | exact .inl ⟨_, _, rfl⟩ | (rcases h with h | h <;> cases h)
  · rcases h with h | h <;> (cases d <;> cases e <;> cases h)
theorem cr_minD (hc : X.calm = true) (hu : X.A.units + 100 < cLine) : CallR X (.builtin "min") (rBi X.K .min) := by
  intro pins s σ H xs us Q hI rv hq
  obtain ⟨ds, L, z, o, ez, q⟩ := hq
  rcases min_args (.inl ez) with ⟨i, j, rfl⟩ | ⟨es, rfl⟩ | ⟨es, rfl⟩
  · obtain ⟨x, y, rfl⟩ := opd_two o
    obtain ⟨F, h1, h2⟩ := o.pair
    have e1 := h1.int; have e2 := h2.int; subst e1; subst e2
    cases ez
    exact call_min2 hc pins s σ H _ us Q hI rv ⟨i, j, rfl, q _ _ (o.sc rfl)⟩
  · obtain ⟨x, rfl⟩ := opd_one o
    obtain ⟨F, h1⟩ := o.one
    simp only [biD, seqD, Option.bind_some] at ez
    split at ez
    · rename_i c
      obtain ⟨al, dp⟩ := min_ok c
      cases es with
      | nil => cases ez
      | cons e es =>
        cases ez
        obtain ⟨a, ys, rfl, ha, ra⟩ := h1.list
        obtain ⟨its, rw', hl, _⟩ := hI.list ha
        obtain ⟨as, rd⟩ := vals_of_reads hI rw' ra
        rw [Vals.ref1 rv]
        refine PySem.W.min_list_data (hI.ok.hd hc) hl.isList (by simpa using rd) al (by omega) fun i v h' tk bs hv hr hk => ?_
        obtain ⟨w, k1, k2, k3⟩ := item_is hI rw' ra (by simpa using hv) hr hk
        refine ⟨w, H, hI.kept hk, k2, q _ _ (o.fz fun F' o' => ?_)⟩
        obtain ⟨a', ys', e1, ha', ra'⟩ := (paired1 o').list
        cases e1
        rw [hI.list_inj ha' ha] at ra'
        obtain ⟨w', m1, m2⟩ := ra'.getD k3
        rw [k1] at m1; cases m1; exact m2
    · cases ez
  · obtain ⟨x, rfl⟩ := opd_one o
    obtain ⟨F, h1⟩ := o.one
    simp only [biD, seqD, Option.bind_some] at ez
    split at ez
    · rename_i c
      obtain ⟨al, dp⟩ := min_ok c
      cases es with
      | nil => cases ez
      | cons e es =>
        cases ez
        obtain ⟨a, ys, rfl, ha, ra⟩ := h1.tuple
        obtain ⟨its, rw', hl, _⟩ := hI.tuple ha
        obtain ⟨as, rd⟩ := vals_of_reads hI rw' ra
        rw [Vals.ref1 rv]
        refine PySem.W.min_tuple_data (hI.ok.hd hc) hl (by simpa using rd) al (by omega) fun i v h' tk bs hv hr hk => ?_
        obtain ⟨w, k1, k2, k3⟩ := item_is hI rw' ra (by simpa using hv) hr hk
        refine ⟨w, H, hI.kept hk, k2, q _ _ (o.fz fun F' o' => ?_)⟩
        obtain ⟨a', ys', e1, ha', ra'⟩ := (paired1 o').tuple
        cases e1
        rw [hI.tuple_inj ha' ha] at ra'
        obtain ⟨w', m1, m2⟩ := ra'.getD k3
        rw [k1] at m1; cases m1; exact m2
    · cases ez
theorem cr_maxD (hc : X.calm = true) (hu : X.A.units + 100 < cLine) : CallR X (.builtin "max") (rBi X.K .max) := by
  intro pins s σ H xs us Q hI rv hq
  obtain ⟨ds, L, z, o, ez, q⟩ := hq
  rcases min_args (.inr ez) with ⟨i, j, rfl⟩ | ⟨es, rfl⟩ | ⟨es, rfl⟩
  · obtain ⟨x, y, rfl⟩ := opd_two o
    obtain ⟨F, h1, h2⟩ := o.pair
    have e1 := h1.int; have e2 := h2.int; subst e1; subst e2
    cases ez
    exact call_max2 hc pins s σ H _ us Q hI rv ⟨i, j, rfl, q _ _ (o.sc rfl)⟩
  · obtain ⟨x, rfl⟩ := opd_one o
    obtain ⟨F, h1⟩ := o.one
    simp only [biD, seqD, Option.bind_some] at ez
    split at ez
    · rename_i c
      obtain ⟨al, dp⟩ := min_ok c
      cases es with
      | nil => cases ez
      | cons e es =>
        cases ez
        obtain ⟨a, ys, rfl, ha, ra⟩ := h1.list
        obtain ⟨its, rw', hl, _⟩ := hI.list ha
        obtain ⟨as, rd⟩ := vals_of_reads hI rw' ra
        rw [Vals.ref1 rv]
        refine PySem.W.max_list_data (hI.ok.hd hc) hl.isList (by simpa using rd) al (by omega) fun i v h' tk bs hv hr hk => ?_
        obtain ⟨w, k1, k2, k3⟩ := item_is hI rw' ra (by simpa using hv) hr hk
        refine ⟨w, H, hI.kept hk, k2, q _ _ (o.fz fun F' o' => ?_)⟩
        obtain ⟨a', ys', e1, ha', ra'⟩ := (paired1 o').list
        cases e1
        rw [hI.list_inj ha' ha] at ra'
        obtain ⟨w', m1, m2⟩ := ra'.getD k3
        rw [k1] at m1; cases m1; exact m2
    · cases ez
  · obtain ⟨x, rfl⟩ := opd_one o
    obtain ⟨F, h1⟩ := o.one
    simp only [biD, seqD, Option.bind_some] at ez
    split at ez
    · rename_i c
      obtain ⟨al, dp⟩ := min_ok c
      cases es with
      | nil => cases ez
      | cons e es =>
        cases ez
        obtain ⟨a, ys, rfl, ha, ra⟩ := h1.tuple
        obtain ⟨its, rw', hl, _⟩ := hI.tuple ha
        obtain ⟨as, rd⟩ := vals_of_reads hI rw' ra
        rw [Vals.ref1 rv]
        refine PySem.W.max_tuple_data (hI.ok.hd hc) hl (by simpa using rd) al (by omega) fun i v h' tk bs hv hr hk => ?_
        obtain ⟨w, k1, k2, k3⟩ := item_is hI rw' ra (by simpa using hv) hr hk
        refine ⟨w, H, hI.kept hk, k2, q _ _ (o.fz fun F' o' => ?_)⟩
        obtain ⟨a', ys', e1, ha', ra'⟩ := (paired1 o').tuple
        cases e1
        rw [hI.tuple_inj ha' ha] at ra'
        obtain ⟨w', m1, m2⟩ := ra'.getD k3
        rw [k1] at m1; cases m1; exact m2
    · cases ez
theorem sort_ok {xs : List D} (h : okSort xs = true) : PySem.W.AllAlike xs ∧ PySem.W.Sortable xs ∧ xs.length ≤ sizeLine ∧ ∀ d ∈ xs, d.depth ≤ 64 := by
  unfold okSort at h
  simp only [Bool.and_eq_true, Bool.or_eq_true] at h
  refine ⟨alike_all h.1.1.1, ?_, szOk h.1.2, fun d hd => of_decide_eq_true (List.all_eq_true.mp h.2 d hd)⟩
  rcases h.1.1.2 with k | k
  · refine .inl fun d hd => ?_
    have := List.all_eq_true.mp k d hd
    match d, this with
    | .tuple (x :: r), _ => exact ⟨x, r, rfl⟩
  · refine .inr fun d hd => ⟨fun e => ?_, fun ys e => ?_⟩
    · have := List.all_eq_true.mp k d hd
      subst e; cases this
    · have := List.all_eq_true.mp k d hd
      subst e; cases this
theorem cr_sortD (hu : X.A.units + 100 < cLine) : CallR X (.builtin "sorted") (rBi X.K .sorted) := by
  intro pins s σ H xs us Q hI rv hq
  obtain ⟨ds, L, z, o, ez, q⟩ := hq
  match ds, ez with
  | [.list es], ez =>
    obtain ⟨x, rfl⟩ := opd_one o
    obtain ⟨F, h1⟩ := o.one
    simp only [biD] at ez
    obtain ⟨c, rfl⟩ := ite_some ez
    obtain ⟨al, so, sz, dp⟩ := sort_ok c
    obtain ⟨a, ys, rfl, ha, ra⟩ := h1.list
    obtain ⟨its, rw', hl, hz⟩ := hI.list ha
    have hlen := ra.length
    have es2 : (ys.zip es).map Prod.snd = es := zip_snd hlen
    have el : (ys.zip es).length = es.length := by rw [List.length_zip, hlen, Nat.min_self]
    rw [Vals.ref1 rv]
    refine PySem.W.sorted_data (R := fun v b => RelV b.1 v ∧ ∃ as, Reads s.heap v b.2 as) (enc := Prod.snd) (bs := ys.zip es) hl.isList ?_ ?_ (by rw [es2]; exact al) (by rw [es2]; exact so) (by rw [el]; exact sz) ?_ fun out ho eo => ?_
    · exact each_zip hlen rw' fun b hb v r => ⟨r, RelD.reads hI b.2 b.1 v (relDs_zip ra b hb) r⟩
    · exact each_zip hlen rw' fun b hb v r => RelD.reads hI b.2 b.1 v (relDs_zip ra b hb) r
    · intro b hb
      have := dp b.2 (by rw [← es2]; exact List.mem_map.mpr ⟨b, hb, rfl⟩)
      omega
    · obtain ⟨ep, he'⟩ := PyProof.Rows.sortedAll_at s.heap its out.toArray
      have hv := each_vals (fun v b h => h.1) eo
      have hlen2 : (((ys.zip es).mergeSort (PySem.W.dataLe false Prod.snd)).map Prod.fst).length ≤ sizeLine := by
        rw [List.length_map, List.length_mergeSort, el]; exact sz
      refine ⟨.ref _, upd H (s.heap.objs.size + 1) (.lst (((ys.zip es).mergeSort (PySem.W.dataLe false Prod.snd)).map Prod.fst)), hI.laid (t' := s.toks) (fun _ _ => PyProof.Rows.sortedAll_old) (Nat.le_succ _) ⟨hlen2, out, ep, hv, he'⟩, rfl, q _ _ ?_⟩
      refine o.lst (hI.hok.fresh (Nat.le_succ _)) fun F' o' => ?_
      obtain ⟨a', ys', e1, ha', ra'⟩ := (paired1 o').list
      cases e1
      rw [hI.list_inj ha' ha] at ra'
      have key : ((ys.zip es).mergeSort (PySem.W.dataLe false Prod.snd)).map Prod.snd = sortD es := by
        unfold sortD
        have mm := List.map_mergeSort (r := PySem.W.dataLe false Prod.snd) (s := PySem.W.dataLe false id) (f := (Prod.snd : V × D → D)) (l := ys.zip es) (fun a _ b _ => rfl)
        rw [mm, es2]
      rw [← key]
      exact relDs_pairs fun b hb => relDs_zip ra' b (List.mem_mergeSort.mp hb)
theorem cr_reprD (hg : X.A.guards = some []) (hu : X.A.units + 100 < cLine) : CallR X (.builtin "repr") (rBi X.K .repr) := by
  intro pins s σ H xs us Q hI rv hq
  obtain ⟨ds, L, z, o, ez, q⟩ := hq
  match ds, ez with
  | [d], ez =>
    obtain ⟨x, rfl⟩ := opd_one o
    obtain ⟨F, h1⟩ := o.one
    simp only [biD] at ez
    obtain ⟨c, rfl⟩ := ite_some ez
    unfold okShow at c
    simp only [Bool.and_eq_true, decide_eq_true_eq, Bool.not_eq_true'] at c
    obtain ⟨⟨⟨c1, c2⟩, c3⟩, c4⟩ := c
    have sz : d.shown.length ≤ sizeLine := by rw [sizeLine_eq]; exact c2
    obtain ⟨u, rfl, rx⟩ := vals1 rv
    obtain ⟨as, rd⟩ := h1.reads hI rx
    cases d with
    | none =>
      have e := h1.none; subst e
      cases (show u = Value.none from rx)
      exact PySem.P.repr_of_none ⟨.str "None", H, hI.tok _, ⟨_, rfl⟩, q _ _ (o.sc rfl)⟩
    | bool b =>
      have e := h1.bool; subst e
      cases (show u = Value.bool b from rx)
      exact PySem.P.repr_of_bool ⟨.str _, H, hI.tok _, ⟨_, rfl⟩, q _ _ (o.sc rfl)⟩
    | int i =>
      have e := h1.int; subst e
      obtain ⟨t, rfl⟩ := rx
      exact PySem.P.repr_of_int (of_decide_eq_true c1) ⟨.str _, H, hI.tok _, ⟨_, rfl⟩, q _ _ (o.sc rfl)⟩
    | str y =>
      have e := h1.str; subst e
      obtain ⟨t, rfl⟩ := rx
      exact PySem.P.repr_of_str ⟨.str _, H, hI.tok _, ⟨_, rfl⟩, q _ _ (o.sc rfl)⟩ sz
    | list es =>
      obtain ⟨a, ys, rfl, ha, ra⟩ := h1.list
      cases rx
      exact PySem.repr_of_reads' rd c1 (fun h => by rw [c3] at h; cases h) hg (by omega) (fun _ _ e => e) (fun h' u tk hk => ⟨.str _, H, hI.kept hk, ⟨_, rfl⟩, q _ _ (o.sc rfl)⟩) sz
    | tuple es =>
      obtain ⟨a, ys, rfl, ha, ra⟩ := h1.tuple
      cases rx
      exact PySem.repr_of_reads' rd c1 (fun h => by rw [c3] at h; cases h) hg (by omega) (fun _ _ e => e) (fun h' u tk hk => ⟨.str _, H, hI.kept hk, ⟨_, rfl⟩, q _ _ (o.sc rfl)⟩) sz
    | dict _ => exact (RelO.nodict h1).elim
theorem cr_divmod : CallR X (.builtin "divmod") (rBi X.K .divmod) := by
  intro pins s σ H xs us Q hI r hq
  obtain ⟨ds, L, z, o, ez, q⟩ := hq
  obtain ⟨d, e, rfl⟩ : ∃ d e, ds = [d, e] := by
    match ds, ez with
    | [d, e], _ => exact ⟨d, e, rfl⟩
    | [], ez => cases ez
    | [d], ez => cases d <;> cases ez
    | d :: e :: f :: g, ez => cases d <;> cases e <;> cases ez
  obtain ⟨x, y, rfl⟩ := opd_two o
  obtain ⟨F, h1, h2⟩ := o.pair
  cases d <;> cases e <;> first | cases ez; done | skip
  have e1 := h1.int; have e2 := h2.int; subst e1; subst e2
  rename_i a b
  have ez' : (if decide (0 < b) && decide (b < 1073741824) then some (Vl.fz (.tuple [.int (a / b), .int (a % b)])) else none) = some z := ez
  obtain ⟨c, rfl⟩ := ite_some ez'
  simp only [Bool.and_eq_true, decide_eq_true_eq] at c
  refine call_divmod pins s σ H _ us Q hI r ⟨a, b, rfl, c, fun p hp => q _ _ ?_⟩
  exact o.tup hp fun F' _ => .cons (.int _) (.cons (.int _) .nil)
def plainBi : Bi → Bool
  | .isinst _ => false
  | .lrange => false
  | .dict => false
  | _ => true
theorem cr_biD (b : Bi) (hc : X.calm = true) (hu : X.A.units + 100 < cLine) (hg : X.A.guards = some []) (hb : plainBi b = true) : CallR X (biV b) (rBi X.K b) := by
  cases b with
  | len => exact cr_len
  | abs => exact cr_abs
  | max => exact cr_maxD hc hu
  | min => exact cr_minD hc hu
  | sum => exact cr_sumD hc
  | int => exact cr_int
  | str => exact cr_str
  | repr => exact cr_reprD hg hu
  | list => exact cr_list
  | tuple => exact cr_tuple
  | sorted => exact cr_sortD hu
  | all => exact cr_allD hc
  | divmod => exact cr_divmod
  | _ => cases hb
end
end Tr

set_option Elab.async false
set_option linter.all false
set_option maxRecDepth 100000
set_option maxHeartbeats 1000000
/-! A def's promise where no repr is under way around it. -/
namespace Tr
open PySem PySem.Spec PyProof.Rows L2

/-- what a call promises: parameters, heap, the end -/
abbrev SpG := List V → Hp → VK → Prop
structure FnG (P : Program) (w : World) (K : PySem.W.Frag) (mg : Str → Option Value) (base : Heap) (k : Nat) (f : Addr) (fd : FuncData) (ps : List Str) (sp : SpG) : Prop where
  len : ∀ vs H Q, sp vs H Q → vs.length = ps.length
  run : ∀ (A : Around) (outer : List Env) (s : Shared) (H : Hp) (args : Args) (us : List Value) (vs : List V) (Q : VK), Room k A → A.guards = some [] → Env0 P w K mg base A outer s H → BindsTo s fd args (ps.zip us) → Vals vs us → sp vs H Q →
    codeAny (model P w) A (.call (.ref f) args) (CR CX0 outer P w H s Q E0) s
theorem FnG.mono {P : Program} {w : World} {K : PySem.W.Frag} {mg : Str → Option Value} {base : Heap} {j k : Nat} {f : Addr} {fd : FuncData} {ps : List Str} {sp : SpG} (F : FnG P w K mg base j f fd ps sp) (h : j ≤ k) : FnG P w K mg base k f fd ps sp :=
  ⟨F.len, fun A outer s H args us vs Q hr hg e0 hb hv hs => F.run A outer s H args us vs Q (hr.mono h) hg e0 hb hv hs⟩
theorem FnG.imp {P : Program} {w : World} {K : PySem.W.Frag} {mg : Str → Option Value} {base : Heap} {k : Nat} {f : Addr} {fd : FuncData} {ps : List Str} {sp sp' : SpG} (F : FnG P w K mg base k f fd ps sp) (h : ∀ vs H Q, sp' vs H Q → sp vs H Q) : FnG P w K mg base k f fd ps sp' :=
  ⟨fun vs H Q q => F.len vs H Q (h _ _ _ q), fun A outer s H args us vs Q hr hg e0 hb hv hs => F.run A outer s H args us vs Q hr hg e0 hb hv (h _ _ _ hs)⟩
section
variable {P : Program} {w : World} {K : PySem.W.Frag} {mg : Str → Option Value} {base : Heap}
/-- the context of a body -/
abbrev bodyX (P : Program) (w : World) (K : PySem.W.Frag) (mg : Str → Option Value) (base : Heap) (N : List Str) (qual : Str) (scope : Scope) (f : Addr) (cd : Value) (A : Around) (outer : List Env) (s : Shared) (H : Hp) : Cx := (cxOf CX0 P w K mg base N qual scope f cd A outer s H E0).nox
/-- a def by its body -/
theorem fnG_of {x qual : Str} {st : Stmt} {f : Addr} {fd : FuncData} {N ps : List Str} {k : Nat} {sp : SpG} (F : L2.Fun K x qual st f fd) (S : FnScope N ps (defScope st)) (hlen : ∀ vs H Q, sp vs H Q → vs.length = ps.length)
    (hbody : ∀ (cdv : Value) (A : Around) (outer : List Env) (s : Shared) (H : Hp) (vs : List V) (Q : VK), Room k (A.deeper (envOfC qual (defScope st) s.heap.objs.size f cdv)) → A.guards = some [] → sp vs H Q →
      ∃ t, PSs (bodyX P w K mg base N qual (defScope st) f cdv A outer s H) (defBody st) t ∧ t { nx := fun _ H' => Q .non H', rt := Q } (start N vs) H) : FnG P w K mg base (k + 1) f fd ps sp := by
  obtain ⟨oc, od, kV, doc, pm, an, cdv, ct, osl, rfl, lk, hcd⟩ := F.ex
  refine ⟨hlen, fun A outer s H args us vs Q hr hgu e0 hb r hsp => ?_⟩
  have hl := hlen _ _ _ hsp
  have kx : K.In s.heap := e0.mod.kin.keeps fun b o e => (e0.bs b o e).1
  have lim : s.heap.NoLimit := e0.mod.nolimit.keeps fun b o e => (e0.bs b o e).1
  have hkd : ∀ y ∈ ps.zip us, (defScope st).names.lookup y.1 = some .local ∨ ((defScope st).names.lookup y.1 = some .cell ∧ ((cellsFrom (s.heap.objs.size + 1) (defScope st).names []).lookup y.1).isSome = true) := fun ⟨n, v⟩ hy => by
    rcases S.par n (List.of_mem_zip hy).1 with q | q
    · exact .inl q
    · exact .inr ⟨q, PySem.W.cellsFrom_some _ _ _ (.inl q)⟩
  refine codeAny_call_function hr.depth (kx _ _ lk) rfl S.co S.gen rfl (PySem.W.codeRec_of kx hcd) (hb _ _ _ _ ?_)
  refine wpAny_newFunctionEnv_cells S.kind hkd fun env he s1 x => ?_
  subst he
  refine ⟨lim.keeps x.toInCall.keep, codeAny_func ?_⟩
  obtain ⟨t, ht, hq⟩ := hbody cdv A outer s H vs Q (hr.deeper _) hgu hsp
  have I : Inv (cxOf CX0 P w K mg base N qual (defScope st) f cdv A outer s H E0) [] (start N vs) H s1 := inv_start S hr.hd e0 hl r x
  refine wpAny_mono (ht.nox.run [] s1 (start N vs) H _ I hq) (fun fl s' hs => ?_) fun e s' hs => hs
  have fin : ∀ {σ' : St} {H' : Hp} {v : V} {u : Value}, Inv (cxOf CX0 P w K mg base N qual (defScope st) f cdv A outer s H E0) [] σ' H' s' → RelV v u → Q v H' → CE outer P w H s Q u s' :=
    fun {σ' H' v u} J rv q => ⟨v, H', J.os, J.bare, J.base, J.hok, rv, q⟩
  cases fl with
  | next =>
    obtain ⟨σ', H', J, q⟩ := hs
    exact fin (v := V.non) (u := Value.none) J rfl q
  | ret u =>
    obtain ⟨v, σ', H', J, rv, q⟩ := hs
    exact fin J rv q
  | brk =>
    obtain ⟨_, _, _, q⟩ := hs
    exact False.elim q
  | cont =>
    obtain ⟨_, _, _, q⟩ := hs
    exact False.elim q
end
def tCallG (sp : SpG) (t : TA) : TE := fun σ H Q => t σ H fun vs H1 => sp vs H1 Q
section
variable {X : Cx} {k : Nat} {f : Addr} {fd : FuncData} {ps : List Str} {sp : SpG} {x : Str} {p pos : Pos} {e : Expr} {es : List Expr} {t : TA}
theorem run_fnG {pins : List (Addr × Obj)} {σ : St} {H : Hp} {s : Shared} {Q : VK} {us : List Value} {vs : List V} (F : FnG X.prog X.w X.K X.mg X.base k f fd ps sp) (hr : Room k X.A) (hgu : X.A.guards = some []) (hb : Binds X.K fd ps [])
    (I : Inv X pins σ H s) (r : Vals vs us) (h : sp vs H Q) : wpAny (model X.prog X.w) X.A (call (.ref f) us) (EP X pins σ Q) X.xe s := by
  have hl : us.length = ps.length := by rw [← r.length]; exact F.len _ _ _ h
  have hb' := hb s us I.kIn (by rw [List.append_nil]; exact hl)
  rw [List.append_nil] at hb'
  refine wpAny_call (codeAny_mono (F.run X.A X.stack s H ⟨us, []⟩ us vs Q hr hgu I.env0 hb' r h) fun r s' hq => ?_)
  cases r with
  | error e => exact False.elim hq
  | ok fl =>
    cases fl with
    | next => exact False.elim hq
    | ret u => exact I.after hq
    | brk => exact False.elim hq
    | cont => exact False.elim hq
theorem pe_callG (F : FnG X.prog X.w X.K X.mg X.base k f fd ps sp) (hr : Room k X.A) (hgu : X.A.guards = some []) (hg : Gl X x) (hm : X.mg x = some (.ref f)) (hk : PySem.W.keepIn X.K (.ref f) = true) (hb : Binds X.K fd ps [])
    (ha : PA X (e :: es) t) (hdb : (x == ("__debug__" : Str)) = false) (he : starEach (e :: es) X.env = (false, eval e X.env) :: starEach es X.env) (hpl : (backTo pos (starEach es X.env)).any (·.1) = false) :
    PE X (.Call (.Name x p) (e :: es) [] pos) (tCallG sp t) := by
  refine ⟨fun pins s σ H Q I h => ?_⟩
  refine wpAny_Call_Name_kw (ld_glob I hg hm ?_ hdb)
  refine PySem.W.callWith_K (h₀ := X.base) I.ok.mod.kin hk (thn (ha.run pos pins s σ H _ I h) fun us s1 ⟨vs, H1, I1, r, q⟩ => ⟨I1.kIn, ?_⟩) he hpl
  exact run_fnG F hr hgu hb I1 r q
theorem pe_callG0 (F : FnG X.prog X.w X.K X.mg X.base k f fd ps sp) (hr : Room k X.A) (hgu : X.A.guards = some []) (hg : Gl X x) (hm : X.mg x = some (.ref f)) (hk : PySem.W.keepIn X.K (.ref f) = true) (hb : Binds X.K fd ps [])
    (hdb : (x == ("__debug__" : Str)) = false) : PE X (.Call (.Name x p) [] [] pos) (tCallG sp tNil) := by
  refine ⟨fun pins s σ H Q I h => ?_⟩
  refine wpAny_Call_Name_kw (ld_glob I hg hm ?_ hdb)
  exact PySem.W.callWith_K0 I.kIn hk (run_fnG (us := []) F hr hgu hb I .nil h)
end
/-! ### the law's call -/
theorem lawG_call {P : Program} {w : World} {K : PySem.W.Frag} {mg mb : Str → Option Value} {k : Nat} {fa a : Addr} {fd : FuncData} {x : Str} {sp : SpG} {s1 : Shared} {vs : List Value} {ns : List Int}
    (kx : K.In s1.heap) (hns : s1.heap.Ns mainGlobals mg) (hb : s1.heap.Ns builtinsNs mb) (hbb : ∀ y : Str, y ≠ "__name__" → mb y = bootBuiltins y) (hlim : s1.heap.NoLimit) (hg : s1.gens = #[])
    (ha : s1.heap.get? a = some { cls := .type "list", data := .seq vs.toArray }) (hi : IntsAre vs ns) (hl : ns.length ≤ sizeLine) (hr : Room k callerA)
    (F : ∀ base : Heap, K.In base → base.Ns mainGlobals mg → FnG P w K mg base k fa fd [x] sp) (hbind : ∀ (s : Shared) (u : Value), BindsTo s fd ⟨[u], []⟩ [(x, u)])
    (hsp : ∀ H : Hp, StS K (fun _ => False) H a ns → sp [.ref a] H (fun v _ => v = .bl true)) :
    codeAny (model P w) callerA (.call (.ref fa) ⟨[.ref a], []⟩) (fun r s' => r = .ok (.ret (.bool true)) ∧ OldK s1.heap s'.heap ∧ s'.os = s1.os ∧ AllBare s'.gens) s1 := by
  have rv := vals_ints hi
  have lv := hi.length
  have main : ∀ H : Hp, Only H → StS K (fun _ => False) H a ns → HOk P w H s1.heap → (∀ c, H c ≠ none → c = a) → (H a ≠ none → K.lookup a = none) →
      codeAny (model P w) callerA (.call (.ref fa) ⟨[.ref a], []⟩) (fun r s' => r = .ok (.ret (.bool true)) ∧ OldK s1.heap s'.heap ∧ s'.os = s1.os ∧ AllBare s'.gens) s1 := by
    intro H ho hs hok hA hK
    have fromB : ∀ {c : Addr} {o : Obj}, s1.heap.get? c = some o → H c = none → (hidT s1.heap H).get? c = some o := fun e n => hidT_get e n
    have notA : ∀ {c : Addr} {o : Obj} {es : Array DictEntry} {ep : Nat}, s1.heap.get? c = some o → o.data = .dict es ep → H c = none := fun {c o es ep} e d => by
      cases q : H c with
      | none => rfl
      | some u =>
        have ec : c = a := hA c (by rw [q]; simp)
        subst ec
        rw [ha] at e; cases e
        have d' : Data.seq vs.toArray _ = Data.dict es ep := d
        cases d'
    have nsK : ∀ {c : Addr} {m : Str → Option Value}, s1.heap.Ns c m → (hidT s1.heap H).Ns c m := fun {c m} ⟨o, es, ep, e, d, r⟩ => ⟨o, es, ep, fromB e (notA e d), d, r⟩
    have hKb : K.In (hidT s1.heap H) := fun c o e => fromB (kx c o e) (by
      cases q : H c with
      | none => rfl
      | some u =>
        have ec : c = a := hA c (by rw [q]; simp)
        subst ec
        rw [hK (by rw [q]; simp)] at e; cases e)
    have hM : Mod K mg (hidT s1.heap H) := ⟨hKb, nsK hns, ⟨mb, nsK hb, hbb⟩, let ⟨mc, h1, h2⟩ := hlim; ⟨mc, nsK h1, h2⟩⟩
    have e0 : Env0 P w K mg (hidT s1.heap H) callerA [] s1 H := ⟨rfl, hM, fun c o e => of_hidT e, Nat.le_of_eq (hidT_size _ _), trivial, fun c hc => absurd (show c ∈ ([] : List Addr) from hc) (by simp), hok, .of_eq hg⟩
    refine codeAny_mono ((F _ hKb (nsK hns)).run callerA [] s1 H ⟨[.ref a], []⟩ [.ref a] [.ref a] _ hr rfl e0 (hbind s1 (.ref a)) (.cons rfl .nil) (hsp H hs)) fun r s' h => ?_
    cases r with
    | error e => exact False.elim h
    | ok fl =>
      cases fl with
      | next => exact False.elim h
      | brk => exact False.elim h
      | cont => exact False.elim h
      | ret u =>
        obtain ⟨v, H', os, bare, un, hok', r', q⟩ := h
        have q' : v = .bl true := q
        subst q'
        obtain rfl : u = Value.bool true := r'
        refine ⟨rfl, OldK.of_keep fun c o e => ?_, os, bare⟩
        cases q : H c with
        | none => exact un.keep c o e q (by intro z; exact absurd (show c ∈ ([] : List Addr) from z) (by simp)) (by simp)
        | some u =>
          rcases ho c with z | ⟨ob, xs, z⟩
          · rw [q] at z; cases z
          · have z2 := un.frzs c ob _ z
            obtain ⟨e1, _⟩ := hok c _ z
            obtain ⟨e2, _⟩ := hok' c _ z2
            rw [e] at e1; cases e1
            exact e2
  cases hk : K.lookup a with
  | some o =>
    have e := kx a o hk
    rw [ha] at e
    cases e
    refine main (fun _ => none) (fun _ => .inl rfl) (.inr (.inr ⟨_, vs.toArray, _, hk, rfl, rfl, rfl, by rw [List.size_toArray, lv]; exact hl, by simpa using rv⟩)) (fun c u z => by have z' : (none : Option HO) = some u := z; cases z') (fun c z => absurd rfl z) fun z => absurd rfl z
  | none =>
    refine main (fun c => if c = a then some (.frz { cls := .type "list", data := .seq vs.toArray } (.lst (ns.map V.int))) else none) (fun c => ?_) (.inl ⟨{ cls := .type "list", data := .seq vs.toArray }, if_pos rfl, id⟩) (fun c u z => ?_) (fun c z => ?_) fun _ => hk
    · by_cases hc : c = a
      · exact .inr ⟨_, _, if_pos hc⟩
      · exact .inl (if_neg hc)
    · by_cases hc : c = a
      · have z' := (if_pos hc).symm.trans z
        cases z'
        subst hc
        exact ⟨ha, by rw [List.length_map]; exact hl, vs, _, rv, ha⟩
      · have z' := (if_neg hc).symm.trans z
        cases z'
    · by_cases hc : c = a
      · exact hc
      · exact absurd (if_neg hc) z
theorem walkG {l : PySem.W.OpenLaw} {n k : Nat} {q : Program} {loose : List Str} {XP : (Str → Option Value) → Heap → Prop} {YP : World → Heap → Prop} {d : DefRec} {K : Params → PySem.W.Frag} {sp : World → SpG} {x : Str}
    (hn : l.most = some n) (hn2 : n ≤ sizeLine) (hdf : d.params.defaults = []) (hr : Room k callerA)
    (hY : ∀ (w : World) (h : Heap), YP w h → (K w.params).In h)
    (F : ∀ (w : World) (mg : Str → Option Value) (fa : Addr) (h : Heap), (K w.params).In h → h.Ns mainGlobals mg → mg d.name = some (.ref fa) →
      ∃ fd : FuncData, (∀ (s : Shared) (u : Value), BindsTo s fd ⟨[u], []⟩ [(x, u)]) ∧
        ∀ base : Heap, (K w.params).In base → base.Ns mainGlobals mg → FnG l.prog w (K w.params) mg base k fa fd [x] (sp w))
    (hsp : ∀ (w : World) (H : Hp) (a : Addr) (ns : List Int), ns.length ≤ n → (∀ z ∈ ns, Builtin.Int.intBits z ≤ 1048576) → StS (K w.params) (fun _ => False) H a ns → sp w [.ref a] H (fun v _ => v = .bl true)) :
    PySem.W.WalkO q loose XP YP l.row.toRowW d [] (fun f vs => PySem.call f vs) := by
  refine Att.attach_callB hn hdf fun w s0 s1 mg mb fa o pm cd doc a vs ns G Y ho hd hcd hmg hobj hints hlen hbits hg => ?_
  have kx := hY w _ Y
  obtain ⟨fd, hb, hF⟩ := F w mg fa _ kx G.T.g hmg
  exact lawG_call kx G.T.g G.T.b G.T.builtins G.T.nolimit hg hobj hints (Nat.le_trans hlen hn2) hr hF hb fun H hs => hsp w H a ns hlen hbits hs
end Tr
example : L2.Room 30 PySem.callerA := ⟨rfl, by decide, by decide⟩

set_option Elab.async false
set_option linter.all false
set_option maxRecDepth 100000
set_option maxHeartbeats 1000000
/-! The rules: what the interpreter says of an expression is what the model does. -/
namespace Tr
open PySem PySem.Spec PyProof.Rows L2
theorem bnd {α β : Type} {o : Option α} {f : α → Option β} {b : β} (h : o.bind f = some b) : ∃ a, o = some a ∧ f a = some b := Option.bind_eq_some_iff.mp h
theorem mpd {α β : Type} {o : Option α} {f : α → β} {b : β} (h : o.map f = some b) : ∃ a, o = some a ∧ f a = b := Option.map_eq_some_iff.mp h
theorem ite_o {α : Type} {c : Bool} {o : Option α} {b : α} (h : (if c = true then o else Option.none) = some b) : c = true ∧ o = some b := by
  cases c with
  | true => exact ⟨rfl, h⟩
  | false => cases h
section
variable {X : Cx} {G : Fs} {a b c e : Expr} {es : List Expr} {i j k : E} {is : List E} {pos : Pos}
abbrev tE (X : Cx) (G : Fs) (i : E) : TE := tP X.K (ev G i)
abbrev tT (X : Cx) (G : Fs) (i : E) : TT := tB' X.K (tru G i)
theorem bnf (b : Bool) : (b != false) = b := by cases b <;> rfl
theorem bnt (b : Bool) : (b != true) = !b := by cases b <;> rfl
theorem tP_imp {K : PySem.W.Frag} {f : Fm → R Pd} {σ : St} {H : Hp} {Q Q' : VK} (h : tP K f σ H Q) (m : ∀ v H', Q v H' → Q' v H') : tP K f σ H Q' := by
  obtain ⟨fr, L, p, fr', ok, l, ee, q⟩ := h
  exact ⟨fr, L, p, fr', ok, l, ee, fun v H' ok' h' => m _ _ (q v H' ok' h')⟩
theorem hold1 {K : PySem.W.Frag} {σ : St} {fr : Fm} {H : Hp} {v : V} {x : Vl} {L : List (V × Vl)} (l : Live K H ((v, x) :: (slots σ fr ++ L))) : Hold K σ fr H [v] [.st x] L := ⟨.cons trivial .nil, l⟩
theorem s_con {d : D} {v : V} (h : PE X e (tC v)) (hs : scalD d = some v) : PE X e (tE X G (.con d)) := by
  refine pe_mono h fun σ H Q q => ?_
  obtain ⟨fr, L, p, fr', ok, l, ee, q⟩ := q
  unfold ev at ee
  cases ee
  exact q v H ok (hold1 (l.scal hs))
theorem s_glb {d : D} {v : V} (h : PE X e (tC v)) (hs : ∀ F H, RelD X.K F H v d) : PE X e (tE X G (.glb d)) := by
  refine pe_mono h fun σ H Q q => ?_
  obtain ⟨fr, L, p, fr', ok, l, ee, q⟩ := q
  unfold ev at ee
  cases ee
  obtain ⟨fs, nd, r⟩ := l
  exact q v H ok (hold1 ⟨fs, nd, .cons (f := []) (.fz (hs _ _)) r⟩)
theorem s_var {n : Nat} (h : PE X e (tVar n)) : PE X e (tE X G (.var n)) := by
  refine pe_mono h fun σ H Q q => ?_
  obtain ⟨fr, L, p, fr', ok, l, ee, q⟩ := q
  unfold ev at ee
  split at ee
  · rename_i x hx
    cases ee
    obtain ⟨v, hv⟩ := ok.has _ _ hx
    exact ⟨v, hv, q v H ok ⟨.cons hv .nil, l⟩⟩
  · cases ee
/-- two operands, one behind the other -/
theorem two {f g : Fm → R Pd} {σ : St} {H : Hp} {Q : V → V → Hp → Prop} {fr fr1 fr2 : Fm} {L : List (V × Vl)} {p q : Pd} (ok : SlOk σ fr) (l : Live X.K H (slots σ fr ++ L)) (h1 : f fr = some (p, fr1)) (h2 : g fr1 = some (q, fr2))
    (h : ∀ v w H', SlOk σ fr2 → Hold X.K σ fr2 H' [v, w] [p, q] L → Q v w H') : tP X.K f σ H fun x H1 => tP X.K g σ H1 fun y H2 => Q x y H2 := by
  refine ⟨fr, L, p, fr1, ok, l, h1, fun v H1 ok1 o1 => ⟨fr1, pit [v] [p] ++ L, q, fr2, ok1, o1.aside, h2, fun w H2 ok2 o2 => h v w H2 ok2 ?_⟩⟩
  exact Hold.more (ps := [p]) (vs := [v]) o1.1 o2
theorem s_bin {op : Bop} (ha : PE X a (tE X G i)) (hb : PE X b (tE X G j)) : PE X (.BinOp a (bopO op) b pos) (tE X G (.bin op i j)) := by
  refine pe_mono (pe_op (op_binD op) ha hb) fun σ H Q q => ?_
  obtain ⟨fr, L, p, fr', ok, l, ee, q⟩ := q
  unfold ev at ee
  obtain ⟨⟨p1, f1⟩, e1, ee⟩ := bnd ee
  obtain ⟨⟨p2, f2⟩, e2, ee⟩ := bnd ee
  obtain ⟨x, e3, ee⟩ := bnd ee
  obtain ⟨y, e4, ee⟩ := bnd ee
  obtain ⟨z, e5, ee⟩ := mpd ee
  cases ee
  exact two ok l e1 e2 fun v w H2 ok2 o => ⟨x, y, _, z, o.lookM2 e3 e4, e5, fun u H3 l3 => q u H3 ok2 (hold1 l3)⟩
theorem Hold.look2 {K : PySem.W.Frag} {σ : St} {fr : Fm} {H : Hp} {L : List (V × Vl)} {v w : V} {p q : Pd} {d e : D} (h : Hold K σ fr H [v, w] [p, q] L) (e1 : look fr p = some d) (e2 : look fr q = some e) : Opd K H [v, w] [d, e] (slots σ fr ++ L) := h.looks (looks_two e1 e2)
theorem Hold.look1 {K : PySem.W.Frag} {σ : St} {fr : Fm} {H : Hp} {L : List (V × Vl)} {v : V} {p : Pd} {d : D} (h : Hold K σ fr H [v] [p] L) (e1 : look fr p = some d) : Opd K H [v] [d] (slots σ fr ++ L) := h.looks (looks_one e1)
theorem s_neg (ha : PE X a (tE X G i)) : PE X (.UnaryOp .USub a pos) (tE X G (.neg i)) := by
  refine pe_mono (pe_un un_neg ha) fun σ H Q q => ?_
  obtain ⟨fr, L, p, fr', ok, l, ee, q⟩ := q
  unfold ev at ee
  obtain ⟨⟨p1, f1⟩, e1, ee⟩ := bnd ee
  refine ⟨fr, L, p1, f1, ok, l, e1, fun v H1 ok1 o => ?_⟩
  dsimp only at ee
  split at ee
  · rename_i z hz
    cases ee
    obtain ⟨F, h1⟩ := (o.look1 hz).one
    have := h1.int
    subst this
    exact ⟨z, rfl, q _ _ ok1 (hold1 ((o.look1 hz).sc rfl))⟩
  · cases ee
theorem s_cmp {op : Cop} (hu : X.A.units + 70 < cLine) (ha : PE X a (tE X G i)) (hb : PE X b (tE X G j)) (hm : behindInMarks (copO op) b = false) : PE X (.Compare a [copO op] [b] pos) (tE X G (.cmp op i j)) := by
  refine pe_mono (pe_cmpR (op_copD op hu) ha hb hm) fun σ H Q q => ?_
  obtain ⟨fr, L, p, fr', ok, l, ee, q⟩ := q
  unfold ev at ee
  obtain ⟨⟨p1, f1⟩, e1, ee⟩ := bnd ee
  obtain ⟨⟨p2, f2⟩, e2, ee⟩ := bnd ee
  obtain ⟨x, e3, ee⟩ := bnd ee
  obtain ⟨y, e4, ee⟩ := bnd ee
  obtain ⟨z, e5, ee⟩ := mpd ee
  cases ee
  exact two ok l e1 e2 fun v w H2 ok2 o => ⟨x, y, _, z, o.look2 e3 e4, e5, fun H3 l3 => q _ H3 ok2 (hold1 (l3.scal rfl))⟩
theorem t_cmp {op : Cop} (hu : X.A.units + 70 < cLine) (ha : PE X a (tE X G i)) (hb : PE X b (tE X G j)) (hm : behindInMarks (copO op) b = false) : PT X (.Compare a [copO op] [b] pos) (tT X G (.cmp op i j)) := by
  refine pt_mono (pt_cmpR (op_copD op hu) ha hb hm) fun σ H Q q => ?_
  obtain ⟨fr, L, p, fr', ok, l, ee, q⟩ := q
  unfold tru ev at ee
  obtain ⟨r, ee, e6⟩ := bnd ee
  obtain ⟨⟨p1, f1⟩, e1, ee⟩ := bnd ee
  obtain ⟨⟨p2, f2⟩, e2, ee⟩ := bnd ee
  obtain ⟨x, e3, ee⟩ := bnd ee
  obtain ⟨y, e4, ee⟩ := bnd ee
  obtain ⟨z, e5, ee⟩ := mpd ee
  cases ee
  cases e6
  exact two ok l e1 e2 fun v w H2 ok2 o => ⟨x, y, _, z, o.look2 e3 e4, e5, fun H3 l3 => ⟨z, rfl, q H3 ok2 l3⟩⟩
/-- the chain: the middle operand is looked at twice -/
theorem chn_core {op1 op2 : Cop} {Q : VK} {σ : St} {H : Hp} {fr fr' : Fm} {L : List (V × Vl)} {z : Bool} (ok : SlOk σ fr) (l : Live X.K H (slots σ fr ++ L)) (ee : ev G (.chn op1 op2 i j k) fr = some (.st (.fz (.bool z)), fr'))
    (q : ∀ H', SlOk σ fr' → Live X.K H' (slots σ fr' ++ L) → Q (.bl z) H') : tChain (rCop X.K op1) (rCop X.K op2) (tE X G i) (tE X G j) (tE X G k) σ H Q := by
  unfold ev at ee
  obtain ⟨⟨p1, f1⟩, e1, ee⟩ := bnd ee
  obtain ⟨⟨p2, f2⟩, e2, ee⟩ := bnd ee
  obtain ⟨x, e3, ee⟩ := bnd ee
  obtain ⟨y, e4, ee⟩ := bnd ee
  obtain ⟨z1, e5, ee⟩ := bnd ee
  refine two ok l e1 e2 fun v w H2 ok2 o => ?_
  cases z1 with
  | false =>
    cases ee
    exact ⟨x, y, _, _, o.look2 e3 e4, e5, fun H3 l3 => ⟨false, rfl, q H3 ok2 l3⟩⟩
  | true =>
    rw [if_pos rfl] at ee
    obtain ⟨⟨p3, f3⟩, e6, ee⟩ := bnd ee
    obtain ⟨y', e7, ee⟩ := bnd ee
    obtain ⟨t, e8, ee⟩ := bnd ee
    obtain ⟨z2, e9, ee⟩ := mpd ee
    cases ee
    have lo : Opd X.K H2 [v, w] [x, y] (pit [w] [p2] ++ (slots σ f2 ++ L)) := by
      obtain ⟨pk, lv⟩ := o
      cases pk with
      | cons k1 k2 =>
        cases k2 with
        | cons k2 _ =>
          have lv2 : Live X.K H2 (pit [v] [p1] ++ (pit [w] [p2] ++ (slots σ f2 ++ L))) := by
            have : pit [v, w] [p1, p2] = pit [v] [p1] ++ pit [w] [p2] := pit_append (vs := [v]) (ps := [p1]) rfl
            rw [this, List.append_assoc] at lv
            exact lv
          refine Opd.right (L1 := pit [v] [p1]) (Opd.mk lv2 fun fs r => ?_)
          obtain ⟨xx, m, fl⟩ := look_mem (L := L) (A := pit [v] [p1] ++ pit [w] [p2]) k1 e3 fun x ex => by subst ex; exact List.mem_cons_self
          obtain ⟨f, rx⟩ := r.mem (by rw [← List.append_assoc]; exact m)
          obtain ⟨yy, m2, fl2⟩ := look_mem (L := L) (A := pit [v] [p1] ++ pit [w] [p2]) k2 e4 fun x ex => by subst ex; exact List.mem_append_right _ List.mem_cons_self
          obtain ⟨f2, rx2⟩ := r.mem (by rw [← List.append_assoc]; exact m2)
          exact .cons (rx.flat fl) (.cons (rx2.flat fl2) .nil)
    refine ⟨x, y, _, true, lo, e5, fun H3 l3 => ⟨true, rfl, ?_⟩⟩
    rw [if_pos rfl]
    have kw : pok σ [w] [p2] := by
      obtain ⟨pk, _⟩ := o
      cases pk with
      | cons _ k2 => exact k2
    have h3 : Hold X.K σ f2 H3 [w] [p2] L := ⟨kw, l3⟩
    refine ⟨f2, pit [w] [p2] ++ L, p3, f3, ok2, h3.aside, e6, fun u H4 ok4 o4 => ?_⟩
    have o5 : Hold X.K σ f3 H4 [w, u] [p2, p3] L := Hold.more (vs := [w]) (ps := [p2]) kw o4
    exact ⟨y', t, _, _, o5.look2 e7 e8, e9, fun H5 l5 => q H5 ok4 l5⟩
theorem chn_bool {op1 op2 : Cop} {fr fr' : Fm} {p : Pd} (ee : ev G (.chn op1 op2 i j k) fr = some (p, fr')) : ∃ z, p = .st (.fz (.bool z)) := by
  unfold ev at ee
  obtain ⟨⟨p1, f1⟩, e1, ee⟩ := bnd ee
  obtain ⟨⟨p2, f2⟩, e2, ee⟩ := bnd ee
  obtain ⟨x, e3, ee⟩ := bnd ee
  obtain ⟨y, e4, ee⟩ := bnd ee
  obtain ⟨z1, e5, ee⟩ := bnd ee
  cases z1 with
  | false => cases ee; exact ⟨_, rfl⟩
  | true =>
    rw [if_pos rfl] at ee
    obtain ⟨⟨p3, f3⟩, e6, ee⟩ := bnd ee
    obtain ⟨y', e7, ee⟩ := bnd ee
    obtain ⟨t, e8, ee⟩ := bnd ee
    obtain ⟨z2, e9, ee⟩ := mpd ee
    cases ee
    exact ⟨_, rfl⟩
theorem s_chn {op1 op2 : Cop} (hu : X.A.units + 70 < cLine) (ha : PE X a (tE X G i)) (hb : PE X b (tE X G j)) (hc : PE X c (tE X G k)) (hm : lastMarks [copO op1, copO op2] [b, c] = false) : PE X (.Compare a [copO op1, copO op2] [b, c] pos) (tE X G (.chn op1 op2 i j k)) := by
  refine pe_mono (pe_chain (op_copD op1 hu) (op_copD op2 hu) ha hb hc hm) fun σ H Q q => ?_
  obtain ⟨fr, L, p, fr', ok, l, ee, q⟩ := q
  obtain ⟨z, rfl⟩ := chn_bool ee
  exact chn_core ok l ee fun H' ok' l' => q _ H' ok' (hold1 (l'.scal rfl))
theorem t_chn {op1 op2 : Cop} (hu : X.A.units + 70 < cLine) (ha : PE X a (tE X G i)) (hb : PE X b (tE X G j)) (hc : PE X c (tE X G k)) (hm : lastMarks [copO op1, copO op2] [b, c] = false) : PT X (.Compare a [copO op1, copO op2] [b, c] pos) (tT X G (.chn op1 op2 i j k)) := by
  refine pt_mono (pt_chain (op_copD op1 hu) (op_copD op2 hu) ha hb hc hm) fun σ H Q q => ?_
  obtain ⟨fr, L, p, fr', ok, l, ee, q⟩ := q
  unfold tru at ee
  obtain ⟨⟨p1, f1⟩, e1, ee⟩ := bnd ee
  obtain ⟨z, rfl⟩ := chn_bool e1
  cases ee
  exact chn_core ok l e1 fun H' ok' l' => ⟨z, rfl, q H' ok' l'⟩
/-- is None, is not None -/
theorem isN_fin {σ : St} {H : Hp} {Q : VK} (no : Bool) (q : tE X G (.isc i .none no) σ H Q) : tE X G i σ H fun x H1 => Q (.bl (decide (x = .non) != no)) H1 := by
  obtain ⟨fr, L, p, fr', ok, l, ee, q⟩ := q
  unfold ev at ee
  obtain ⟨⟨p1, f1⟩, e1, ee⟩ := bnd ee
  obtain ⟨x, e2, ee⟩ := bnd ee
  refine ⟨fr, L, p1, f1, ok, l, e1, fun v H1 ok1 o => ?_⟩
  have oo := o.look1 e2
  obtain ⟨F, h1⟩ := oo.one
  cases x with
  | none =>
    have := h1.none
    subst this
    cases ee
    have := q (.bl (!no)) H1 ok1 (hold1 (oo.sc rfl))
    cases no <;> exact this
  | _ =>
    have nn : decide (v = .non) = false := by
      refine decide_eq_false fun z => ?_
      subst z
      cases h1 with
      | fz h1 => cases h1
    cases ee
    have := q (.bl no) H1 ok1 (hold1 (oo.sc rfl))
    show Q (.bl (decide (v = .non) != no)) H1
    rw [nn]
    cases no <;> exact this
/-- a test by a value that is a bool -/
theorem tT_bool {σ : St} {H : Hp} {Q : Bool → Hp → Prop} (hi : ∀ fr, tru G i fr = (ev G i fr).bind fun p => (look p.2 p.1).bind fun d => if okTru d then some (truD d, p.2) else none) (hb : ∀ fr p f, ev G i fr = some (p, f) → ∃ z, p = .st (.fz (.bool z)))
    (q : tT X G i σ H Q) : tE X G i σ H fun x H1 => ∃ c, x = .bl c ∧ Q c H1 := by
  obtain ⟨fr, L, z, fr', ok, l, ee, q⟩ := q
  rw [hi] at ee
  obtain ⟨⟨p1, f1⟩, e1, ee⟩ := bnd ee
  obtain ⟨y, rfl⟩ := hb _ _ _ e1
  cases ee
  refine ⟨fr, L, _, f1, ok, l, e1, fun v H1 ok1 o => ?_⟩
  obtain ⟨pk, lv⟩ := o
  have lv : Live X.K H1 ((v, .fz (.bool y)) :: (slots σ f1 ++ L)) := lv
  have : v = .bl y := by
    obtain ⟨fs, nd, r⟩ := lv
    cases r with
    | cons h1 _ => cases h1 with
      | fz h1 => cases h1; rfl
  exact ⟨y, this, q H1 ok1 lv.tail⟩
theorem isc_bool {d : D} {no : Bool} : ∀ fr p f, ev G (.isc i d no) fr = some (p, f) → ∃ z, p = .st (.fz (.bool z)) := by
  intro fr p f h
  unfold ev at h
  obtain ⟨⟨p1, f1⟩, e1, h⟩ := bnd h
  obtain ⟨x, e2, h⟩ := bnd h
  dsimp only at h
  split at h <;> first | (cases h; exact ⟨_, rfl⟩) | cases h
theorem tru_isc {d : D} {no : Bool} : ∀ fr, tru G (.isc i d no) fr = (ev G (.isc i d no) fr).bind fun p => (look p.2 p.1).bind fun d => if okTru d then some (truD d, p.2) else none := fun fr => by
  conv => lhs; unfold tru
theorem s_isN {p2 : Pos} {j2 : Nat} (ha : PE X a (tE X G i)) : PE X (.Compare a [.Is] [.Constant .none j2 p2] pos) (tE X G (.isc i .none false)) :=
  pe_mono (pe_cmp (pc_isN ha)) fun σ H Q q => tP_imp (isN_fin false q) fun v H1 z => by
    have z : Q (.bl (decide (v = .non) != false)) H1 := z
    rw [bnf] at z
    exact z
theorem s_noN {p2 : Pos} {j2 : Nat} (ha : PE X a (tE X G i)) : PE X (.Compare a [.IsNot] [.Constant .none j2 p2] pos) (tE X G (.isc i .none true)) :=
  pe_mono (pe_cmp (pc_notN ha)) fun σ H Q q => tP_imp (isN_fin true q) fun v H1 z => by
    have z : Q (.bl (decide (v = .non) != true)) H1 := z
    rw [bnt] at z
    exact z
theorem t_isN {p2 : Pos} {j2 : Nat} (ha : PE X a (tE X G i)) : PT X (.Compare a [.Is] [.Constant .none j2 p2] pos) (tT X G (.isc i .none false)) :=
  pt_mono (pt_cmp (pc_isN ha)) fun σ H Q q => tP_imp (isN_fin false (tT_bool tru_isc isc_bool q)) fun v H1 z => by
    have z : ∃ c, V.bl (decide (v = .non) != false) = .bl c ∧ Q c H1 := z
    rw [bnf] at z
    exact z
theorem t_noN {p2 : Pos} {j2 : Nat} (ha : PE X a (tE X G i)) : PT X (.Compare a [.IsNot] [.Constant .none j2 p2] pos) (tT X G (.isc i .none true)) :=
  pt_mono (pt_cmp (pc_notN ha)) fun σ H Q q => tP_imp (isN_fin true (tT_bool tru_isc isc_bool q)) fun v H1 z => by
    have z : ∃ c, V.bl (decide (v = .non) != true) = .bl c ∧ Q c H1 := z
    rw [bnt] at z
    exact z
end
end Tr

set_option Elab.async false
set_option linter.all false
set_option maxRecDepth 100000
set_option maxHeartbeats 1000000
namespace Tr
open PySem PySem.Spec PyProof.Rows L2
section
variable {X : Cx} {G : Fs} {a b c e : Expr} {es rest : List Expr} {i j k : E} {is : List E} {pos : Pos}
theorem isB_fin {z : Bool} {σ : St} {H : Hp} {Q : VK} (no : Bool) (q : tE X G (.isc i (.bool z) no) σ H Q) : tE X G i σ H fun x H1 => ∃ y, x = .bl y ∧ Q (.bl ((decide (y = z)) != no)) H1 := by
  obtain ⟨fr, L, p, fr', ok, l, ee, q⟩ := q
  unfold ev at ee
  obtain ⟨⟨p1, f1⟩, e1, ee⟩ := bnd ee
  obtain ⟨x, e2, ee⟩ := bnd ee
  refine ⟨fr, L, p1, f1, ok, l, e1, fun v H1 ok1 o => ?_⟩
  have oo := o.look1 e2
  obtain ⟨F, h1⟩ := oo.one
  cases x with
  | bool y =>
    have := h1.bool
    subst this
    cases ee
    refine ⟨y, rfl, ?_⟩
    have := q (.bl ((z == y) != no)) H1 ok1 (hold1 (oo.sc rfl))
    have e3 : decide (y = z) = (z == y) := by cases y <;> cases z <;> rfl
    rw [e3]
    exact this
  | _ => cases ee
theorem s_isB {p2 : Pos} {j2 : Nat} {z : Bool} (ha : PE X a (tE X G i)) : PE X (.Compare a [.Is] [.Constant (.bool z) j2 p2] pos) (tE X G (.isc i (.bool z) false)) :=
  pe_mono (pe_cmpR op_isBl ha pe_bl rfl) fun σ H Q q => tP_imp (isB_fin false q) fun v H1 ⟨y, e1, z1⟩ => ⟨y, z, e1, rfl, by rw [bnf] at z1; exact z1⟩
theorem s_noB {p2 : Pos} {j2 : Nat} {z : Bool} (ha : PE X a (tE X G i)) : PE X (.Compare a [.IsNot] [.Constant (.bool z) j2 p2] pos) (tE X G (.isc i (.bool z) true)) :=
  pe_mono (pe_cmpR op_notBl ha pe_bl rfl) fun σ H Q q => tP_imp (isB_fin true q) fun v H1 ⟨y, e1, z1⟩ => ⟨y, z, e1, rfl, by rw [bnt] at z1; exact z1⟩
theorem t_isB {p2 : Pos} {j2 : Nat} {z : Bool} (ha : PE X a (tE X G i)) : PT X (.Compare a [.Is] [.Constant (.bool z) j2 p2] pos) (tT X G (.isc i (.bool z) false)) :=
  pt_mono (pt_cmpR op_isBl ha pe_bl rfl) fun σ H Q q => tP_imp (isB_fin false (tT_bool tru_isc isc_bool q)) fun v H1 ⟨y, e1, z1⟩ => ⟨y, z, e1, rfl, by rw [bnf] at z1; exact z1⟩
theorem t_noB {p2 : Pos} {j2 : Nat} {z : Bool} (ha : PE X a (tE X G i)) : PT X (.Compare a [.IsNot] [.Constant (.bool z) j2 p2] pos) (tT X G (.isc i (.bool z) true)) :=
  pt_mono (pt_cmpR op_notBl ha pe_bl rfl) fun σ H Q q => tP_imp (isB_fin true (tT_bool tru_isc isc_bool q)) fun v H1 ⟨y, e1, z1⟩ => ⟨y, z, e1, rfl, by rw [bnt] at z1; exact z1⟩
/-- a test that is a value's truth -/
theorem t_val (h : PE X e (tE X G i)) (he : ∀ whole, isTrue e X.env whole = (do let v ← whole; standAt e.pos; holding [v] (truthy v)))
    (hi : ∀ fr, tru G i fr = (ev G i fr).bind fun p => (look p.2 p.1).bind fun d => if okTru d then some (truD d, p.2) else none) : PT X e (tT X G i) := by
  refine ⟨fun pins s σ H Q I hq => ?_⟩
  obtain ⟨fr, L, z, fr', ok, l, ee, q⟩ := hq
  rw [hi] at ee
  obtain ⟨⟨p1, f1⟩, e1, ee⟩ := bnd ee
  obtain ⟨d, e2, ee⟩ := bnd ee
  obtain ⟨c, ee⟩ := ite_some ee
  cases ee
  refine isTrue_plain (thn (h.run pins s σ H (fun v H1 => rTru X.K v H1 Q) I ⟨fr, L, p1, f1, ok, l, e1, fun v H1 ok1 o => ⟨d, _, o.look1 e2, ?_, fun H2 l2 => q H2 ok1 l2⟩⟩) fun v s1 ⟨x, H1, I1, r1, q1⟩ => tru_truD pins s1 σ H1 x v _ I1 r1 q1) (he _)
  cases d <;> first | trivial | exact c
theorem t_not (ha : PT X a (tT X G i)) : PT X (.UnaryOp .Not a pos) (tT X G (.not i)) := by
  refine pt_mono (pt_not ha) fun σ H Q q => ?_
  obtain ⟨fr, L, z, fr', ok, l, ee, q⟩ := q
  unfold tru at ee
  obtain ⟨⟨b1, f1⟩, e1, ee⟩ := mpd ee
  cases ee
  exact ⟨fr, L, b1, f1, ok, l, e1, fun H1 ok1 l1 => q H1 ok1 l1⟩
theorem s_not (ha : PE X a (tE X G i)) : PE X (.UnaryOp .Not a pos) (tE X G (.not i)) := by
  refine ⟨fun pins s σ H Q I h => ?_⟩
  obtain ⟨fr, L, p, fr', ok, l, ee, q⟩ := h
  unfold ev at ee
  obtain ⟨⟨p1, f1⟩, e1, ee⟩ := bnd ee
  obtain ⟨d, e2, ee⟩ := bnd ee
  obtain ⟨c, ee⟩ := ite_some ee
  cases ee
  refine UnaryOp_ (thn (ha.run pins s σ H (fun v H1 => rTru X.K v H1 fun z H2 => Q (.bl (!z)) H2) I ⟨fr, L, p1, f1, ok, l, e1, fun v H1 ok1 o => ⟨d, _, o.look1 e2, ?_, fun H2 l2 => q _ H2 ok1 (hold1 (l2.scal rfl))⟩⟩) fun v s1 ⟨x, H1, I1, r1, q1⟩ => ?_)
  · cases d <;> first | trivial | exact c
  · exact not_of (thn (tru_truD pins s1 σ H1 x v _ I1 r1 q1) fun z s2 ⟨H2, I2, q2⟩ => ⟨.bl (!z), H2, I2, rfl, q2⟩)
theorem w_and (ha : PT X a (tT X G i)) (hb : PW X (.BoolOp .And (b :: rest) pos) (tT X G j)) : PW X (.BoolOp .And (a :: b :: rest) pos) (tT X G (.and i j)) := by
  refine pw_mono (pw_and ha hb) fun σ H Q q => ?_
  obtain ⟨fr, L, z, fr', ok, l, ee, q⟩ := q
  unfold tru at ee
  obtain ⟨⟨b1, f1⟩, e1, ee⟩ := bnd ee
  refine ⟨fr, L, b1, f1, ok, l, e1, fun H1 ok1 l1 => ?_⟩
  cases b1 with
  | true => exact ⟨f1, L, z, fr', ok1, l1, ee, q⟩
  | false => cases ee; exact q H1 ok1 l1
theorem w_or (ha : PT X a (tT X G i)) (hb : PW X (.BoolOp .Or (b :: rest) pos) (tT X G j)) : PW X (.BoolOp .Or (a :: b :: rest) pos) (tT X G (.or i j)) := by
  refine pw_mono (pw_or ha hb) fun σ H Q q => ?_
  obtain ⟨fr, L, z, fr', ok, l, ee, q⟩ := q
  unfold tru at ee
  obtain ⟨⟨b1, f1⟩, e1, ee⟩ := bnd ee
  refine ⟨fr, L, b1, f1, ok, l, e1, fun H1 ok1 l1 => ?_⟩
  cases b1 with
  | true => cases ee; exact q H1 ok1 l1
  | false => exact ⟨f1, L, z, fr', ok1, l1, ee, q⟩
/-- a forced bool -/
theorem bool_of {K : PySem.W.Frag} {H : Hp} {v : V} {z : Bool} {L : List (V × Vl)} (l : Live K H ((v, .fz (.bool z)) :: L)) : v = .bl z := by
  obtain ⟨fs, nd, r⟩ := l
  cases r with
  | cons h1 h2 =>
    cases h1 with
    | fz h1 => cases h1; rfl
theorem okTru_str {d : D} (h : okTru d = true) : ∀ z, d = .str z → okSz z.length = true := fun z e => by
  subst e; exact h
theorem truV_live {K : PySem.W.Frag} {H : Hp} {v : V} {d : D} {L : List (V × Vl)} (l : Live K H ((v, .fz d) :: L)) (h : okTru d = true) : TruV K v H (truD d) := by
  obtain ⟨fs, nd, r⟩ := l
  cases r with
  | cons h1 h2 =>
    cases h1 with
    | fz h1 => exact truV_of (.fz h1) (okTru_str h)
theorem s_and (ha : PE X a (tE X G i)) (hb : PE X (.BoolOp .And (b :: rest) pos) (tE X G j)) : PE X (.BoolOp .And (a :: b :: rest) pos) (tE X G (.and i j)) := by
  refine pe_mono (pe_andT ha hb) fun σ H Q q => ?_
  obtain ⟨fr, L, p, fr', ok, l, ee, q⟩ := q
  unfold ev at ee
  obtain ⟨⟨p1, f1⟩, e1, ee⟩ := bnd ee
  obtain ⟨⟨x, f2⟩, e2, ee⟩ := bnd ee
  refine ⟨fr, L, p1, f1, ok, l, e1, fun v H1 ok1 o => ?_⟩
  obtain ⟨ok2, l2⟩ := o.force ok1 e2
  dsimp only at ee
  split at ee
  · exact ⟨true, truV_live l2 rfl, ⟨f2, L, p, fr', ok2, l2.tail, ee, q⟩⟩
  · cases ee
    exact ⟨false, truV_live l2 rfl, q _ H1 ok2 (hold1 l2)⟩
  · rename_i d _ _
    obtain ⟨c, ee⟩ := ite_o ee
    refine ⟨truD d, truV_live l2 c, ?_⟩
    cases ht : truD d with
    | true =>
      rw [ht] at ee
      rw [if_pos rfl] at ee ⊢
      exact ⟨f2, L, p, fr', ok2, l2.tail, ee, q⟩
    | false =>
      rw [ht] at ee
      rw [if_neg Bool.false_ne_true] at ee ⊢
      cases ee
      exact q _ H1 ok2 (hold1 l2)
  · cases ee
theorem s_or (ha : PE X a (tE X G i)) (hb : PE X (.BoolOp .Or (b :: rest) pos) (tE X G j)) : PE X (.BoolOp .Or (a :: b :: rest) pos) (tE X G (.or i j)) := by
  refine pe_mono (pe_orT ha hb) fun σ H Q q => ?_
  obtain ⟨fr, L, p, fr', ok, l, ee, q⟩ := q
  unfold ev at ee
  obtain ⟨⟨p1, f1⟩, e1, ee⟩ := bnd ee
  obtain ⟨⟨x, f2⟩, e2, ee⟩ := bnd ee
  refine ⟨fr, L, p1, f1, ok, l, e1, fun v H1 ok1 o => ?_⟩
  obtain ⟨ok2, l2⟩ := o.force ok1 e2
  dsimp only at ee
  split at ee
  · cases ee
    exact ⟨true, truV_live l2 rfl, q _ H1 ok2 (hold1 l2)⟩
  · exact ⟨false, truV_live l2 rfl, ⟨f2, L, p, fr', ok2, l2.tail, ee, q⟩⟩
  · rename_i d _ _
    obtain ⟨c, ee⟩ := ite_o ee
    refine ⟨truD d, truV_live l2 c, ?_⟩
    cases ht : truD d with
    | false =>
      rw [ht] at ee
      rw [if_neg Bool.false_ne_true] at ee ⊢
      exact ⟨f2, L, p, fr', ok2, l2.tail, ee, q⟩
    | true =>
      rw [ht] at ee
      rw [if_pos rfl] at ee ⊢
      cases ee
      exact q _ H1 ok2 (hold1 l2)
  · cases ee
theorem s_ite (hc : PT X c (tT X G i)) (ha : PE X a (tE X G j)) (hb : PE X b (tE X G k)) : PE X (.IfExp c a b pos) (tE X G (.ite i j k)) := by
  refine pe_mono (pe_ifExp hc ha hb) fun σ H Q q => ?_
  obtain ⟨fr, L, p, fr', ok, l, ee, q⟩ := q
  unfold ev at ee
  obtain ⟨⟨b1, f1⟩, e1, ee⟩ := bnd ee
  refine ⟨fr, L, b1, f1, ok, l, e1, fun H1 ok1 l1 => ?_⟩
  cases b1 with
  | true => exact ⟨f1, L, p, fr', ok1, l1, ee, q⟩
  | false => exact ⟨f1, L, p, fr', ok1, l1, ee, q⟩
theorem s_idx (ha : PE X a (tE X G i)) (hb : PE X b (tE X G j)) (hs : PlainIx b) : PE X (.Subscript a b pos) (tE X G (.idx i j)) := by
  refine pe_mono (pe_ix ix_idxD ha hb hs) fun σ H Q q => ?_
  obtain ⟨fr, L, p, fr', ok, l, ee, q⟩ := q
  unfold ev at ee
  obtain ⟨⟨p1, f1⟩, e1, ee⟩ := bnd ee
  obtain ⟨⟨p2, f2⟩, e2, ee⟩ := bnd ee
  obtain ⟨x, e3, ee⟩ := bnd ee
  obtain ⟨y, e4, ee⟩ := bnd ee
  obtain ⟨z, e5, ee⟩ := mpd ee
  cases ee
  exact two ok l e1 e2 fun v w H2 ok2 o => ⟨x, y, _, z, o.look2 e3 e4, e5, fun u H3 l3 => q u H3 ok2 (hold1 l3)⟩
/-- a slice's part, while an operand waits -/
def tPart' (X : Cx) (G : Fs) (o : Option E) : TO := fun σ H Q => ∃ fr L z fr', SlOk σ fr ∧ Live X.K H (slots σ fr ++ L) ∧ part G o fr = some (z, fr') ∧ ∀ H', SlOk σ fr' → Live X.K H' (slots σ fr' ++ L) → Q z H'
theorem po_mono {o : Option Expr} {t t' : TO} (h : PO X o t) (m : ∀ σ H Q, t' σ H Q → t σ H Q) : PO X o t' := ⟨fun pins s σ H Q hI hq => h.run pins s σ H Q hI (m σ H Q hq)⟩
theorem p_none : PO X none (tPart' X G none) := by
  refine po_mono po_none fun σ H Q q => ?_
  obtain ⟨fr, L, z, fr', ok, l, ee, q⟩ := q
  unfold part at ee
  cases ee
  exact q H ok l
theorem p_some (ha : PE X a (tE X G i)) : PO X (some a) (tPart' X G (some i)) := by
  refine po_mono (po_some ha) fun σ H Q q => ?_
  obtain ⟨fr, L, z, fr', ok, l, ee, q⟩ := q
  unfold part at ee
  obtain ⟨⟨p1, f1⟩, e1, ee⟩ := bnd ee
  refine ⟨fr, L, p1, f1, ok, l, e1, fun v H1 ok1 o => ?_⟩
  dsimp only at ee
  split at ee
  · rename_i n hn
    cases ee
    obtain ⟨F, h1⟩ := (o.look1 hn).one
    exact ⟨n, h1.int, q H1 ok1 o.live⟩
  · cases ee
theorem s_slc {lo hi : Option Expr} {lo' hi' : Option E} {p2 : Pos} (ha : PE X a (tE X G i)) (hl : PO X lo (tPart' X G lo')) (hh : PO X hi (tPart' X G hi')) : PE X (.Subscript a (.Slice lo hi none p2) pos) (tE X G (.slc i lo' hi' false)) := by
  refine pe_mono (pe_slice sl_slcD ha hl hh) fun σ H Q q => ?_
  obtain ⟨fr, L, p, fr', ok, l, ee, q⟩ := q
  unfold ev at ee
  obtain ⟨⟨p1, f1⟩, e1, ee⟩ := bnd ee
  obtain ⟨⟨o1, f2⟩, e2, ee⟩ := bnd ee
  obtain ⟨⟨o2, f3⟩, e3, ee⟩ := bnd ee
  obtain ⟨x, e4, ee⟩ := bnd ee
  obtain ⟨z, e5, ee⟩ := mpd ee
  cases ee
  refine ⟨fr, L, p1, f1, ok, l, e1, fun v H1 ok1 o => ?_⟩
  refine ⟨f1, pit [v] [p1] ++ L, o1, f2, ok1, o.aside, e2, fun H2 ok2 l2 => ?_⟩
  refine ⟨f2, pit [v] [p1] ++ L, o2, f3, ok2, l2, e3, fun H3 ok3 l3 => ?_⟩
  have o3 : Hold X.K σ f3 H3 [v] [p1] L := ⟨o.1, l3.perm (perm_mid _ _ _)⟩
  exact ⟨x, _, z, o3.look1 e4, e5, fun u H4 l4 => q u H4 ok3 (hold1 l4)⟩
theorem s_rev {k : Nat} {p1 p2 p3 : Pos} (ha : PE X a (tE X G i)) : PE X (.Subscript a (.Slice none none (some (.UnaryOp .USub (.Constant (.int 1) k p1) p2)) p3) pos) (tE X G (.slc i none none true)) := by
  refine pe_mono (pe_revA (r := rRv X.K) (fun pins s σ H x Q I => rev_of I) ha) fun σ H Q q => ?_
  obtain ⟨fr, L, p, fr', ok, l, ee, q⟩ := q
  unfold ev at ee
  obtain ⟨⟨pp, f1⟩, e1, ee⟩ := bnd ee
  obtain ⟨⟨o1, f2⟩, e2, ee⟩ := bnd ee
  obtain ⟨⟨o2, f3⟩, e3, ee⟩ := bnd ee
  obtain ⟨x, e4, ee⟩ := bnd ee
  obtain ⟨z, e5, ee⟩ := mpd ee
  cases ee
  unfold part at e2 e3
  cases e2
  cases e3
  refine ⟨fr, L, pp, f1, ok, l, e1, fun v H1 ok1 o => ?_⟩
  exact ⟨x, _, z, o.look1 e4, e5, fun u H4 l4 => q u H4 ok1 (hold1 l4)⟩
/-! ### argument lists -/
abbrev tAs (X : Cx) (G : Fs) (is : List E) : TA := tPs X.K (evs G is)
abbrev tGs (X : Cx) (G : Fs) (is : List E) : TA := tXs X.K (gens G is)
theorem a_nil : PA X [] (tAs X G []) := by
  refine pa_mono pa_nil fun σ H Q q => ?_
  obtain ⟨fr, L, ps, fr', ok, l, ee, q⟩ := q
  unfold evs at ee
  cases ee
  exact q [] H ok ⟨.nil, l⟩
theorem a_cons (ha : PE X a (tE X G i)) (hr : PA X es (tAs X G is)) (hs : starEach (a :: es) X.env = (false, eval a X.env) :: starEach es X.env) : PA X (a :: es) (tAs X G (i :: is)) := by
  refine pa_mono (pa_cons ha hr hs) fun σ H Q q => ?_
  obtain ⟨fr, L, ps, fr', ok, l, ee, q⟩ := q
  unfold evs at ee
  obtain ⟨⟨p1, f1⟩, e1, ee⟩ := bnd ee
  obtain ⟨⟨ps2, f2⟩, e2, ee⟩ := mpd ee
  cases ee
  refine ⟨fr, L, p1, f1, ok, l, e1, fun v H1 ok1 o => ⟨f1, pit [v] [p1] ++ L, ps2, f2, ok1, o.aside, e2, fun vs H2 ok2 o2 => q (v :: vs) H2 ok2 ?_⟩⟩
  exact Hold.more (vs := [v]) (ps := [p1]) o.1 o2
theorem g_nil : PA X [] (tGs X G []) := by
  refine pa_mono pa_nil fun σ H Q q => ?_
  obtain ⟨fr, L, ps, fr', ok, l, ee, q⟩ := q
  unfold gens at ee
  cases ee
  exact q [] H ok rfl l
theorem g_cons (ha : PE X a (tE X G i)) (hr : PA X es (tGs X G is)) (hs : starEach (a :: es) X.env = (false, eval a X.env) :: starEach es X.env) : PA X (a :: es) (tGs X G (i :: is)) := by
  refine pa_mono (pa_cons ha hr hs) fun σ H Q q => ?_
  obtain ⟨fr, L, xs, fr', ok, l, ee, q⟩ := q
  unfold gens at ee
  obtain ⟨⟨p1, f1⟩, e1, ee⟩ := bnd ee
  obtain ⟨⟨x, f2⟩, e2, ee⟩ := bnd ee
  obtain ⟨⟨xs2, f3⟩, e3, ee⟩ := mpd ee
  cases ee
  refine ⟨fr, L, p1, f1, ok, l, e1, fun v H1 ok1 o => ?_⟩
  obtain ⟨ok2, l2⟩ := o.force ok1 e2
  have l3 : Live X.K H1 (slots σ f2 ++ ((v, x) :: L)) := l2.perm (perm_mid [(v, x)] _ _)
  refine ⟨f2, (v, x) :: L, xs2, f3, ok2, l3, e3, fun vs H2 ok3 hl l4 => q (v :: vs) H2 ok3 (by simp [hl]) ?_⟩
  rw [List.zip_cons_cons]
  refine l4.perm ?_
  have e1 : vs.zip xs2 ++ (slots σ f3 ++ (v, x) :: L) = (vs.zip xs2 ++ slots σ f3) ++ ((v, x) :: L) := (List.append_assoc _ _ _).symm
  have e2 : (v, x) :: vs.zip xs2 ++ (slots σ f3 ++ L) = (v, x) :: ((vs.zip xs2 ++ slots σ f3) ++ L) := by rw [List.cons_append, List.append_assoc]
  rw [e1, e2]
  exact List.perm_middle
end
end Tr

set_option Elab.async false
set_option linter.all false
set_option maxRecDepth 100000
set_option maxHeartbeats 1000000
namespace Tr
open PySem PySem.Spec PyProof.Rows L2
section
variable {K : PySem.W.Frag} {F : Addr → Prop} {H : Hp} {L : List (V × Vl)}
theorem LRel.fzs : ∀ {ws : List V} {es : List D} {g : List Addr}, ws.length = es.length → LRel K F H (ws.zip (es.map Vl.fz)) g → RelDs K F H ws es ∧ g = []
  | [], [], _, _, q => by cases q; exact ⟨.nil, rfl⟩
  | _ :: _, [], _, e, _ => by cases e
  | [], _ :: _, _, e, _ => by cases e
  | w :: ws, d :: es, _, e, q => by
    cases q with
    | cons q1 q2 =>
      obtain ⟨h1, h2⟩ := LRel.fzs (by simpa using e) q2
      cases q1 with
      | fz q1 => exact ⟨.cons q1 h1, by rw [h2]; rfl⟩
theorem zip_perm_mid {α : Type} (p : α) (A B : List α) : (p :: (A ++ B)).Perm (A ++ (p :: B)) := List.perm_middle.symm
/-- all of them frozen -/
theorem Live.freezeAll : ∀ {vs : List V} {xs : List Vl} {L : List (V × Vl)}, vs.length = xs.length → (∀ x ∈ xs, x.own = true) → Live K H (vs.zip xs ++ L) → Live K H (vs.zip ((froz xs).map Vl.fz) ++ L)
  | [], [], _, _, _, l => l
  | _ :: _, [], _, e, _, _ => by cases e
  | [], _ :: _, _, e, _, _ => by cases e
  | v :: vs, x :: xs, L, e, ho, l => by
    have l1 : Live K H ((v, x) :: (vs.zip xs ++ L)) := l
    have l2 := l1.freeze (ho x List.mem_cons_self)
    have l3 : Live K H (vs.zip xs ++ ((v, .fz x.strip) :: L)) := l2.perm (zip_perm_mid _ _ _)
    have l4 := Live.freezeAll (by simpa using e) (fun y hy => ho y (List.mem_cons_of_mem _ hy)) l3
    exact l4.perm (zip_perm_mid _ _ _).symm
theorem Live.newTup {vs : List V} {ds : List D} {p : Addr} (hl : vs.length = ds.length) (l : Live K H (vs.zip (ds.map Vl.fz) ++ L)) (hp : H p = none) : Live K (upd H p (.tup vs)) ((.ref p, .fz (.tuple ds)) :: L) := by
  obtain ⟨fs, nd, r⟩ := l
  obtain ⟨f1, f2, rfl, r1, r2⟩ := r.split
  obtain ⟨rd, rfl⟩ := r1.fzs hl
  have np : p ∉ f2 := fun q => by obtain ⟨xs, e⟩ := r2.owned p q; rw [hp] at e; cases e
  have k : Kp (· ∈ [] ++ f2) (· ∈ f2) H (upd H p (.tup vs)) := Kp.new hp fun a q => .inl q
  exact ⟨f2, nd, .cons (f := []) (.fz (.tup (.inl ⟨.inl upd_same, np⟩) (RelDs.kp k _ _ rd))) (r2.kp k fun a q => upd_ne fun z => np (z ▸ q))⟩
theorem Live.newLst {vs : List V} {ds : List D} {p : Addr} (hl : vs.length = ds.length) (l : Live K H (vs.zip (ds.map Vl.fz) ++ L)) (hp : H p = none) : Live K (upd H p (.lst vs)) ((.ref p, .ol ds) :: L) := by
  obtain ⟨fs, nd, r⟩ := l
  obtain ⟨f1, f2, rfl, r1, r2⟩ := r.split
  obtain ⟨rd, rfl⟩ := r1.fzs hl
  have np : p ∉ f2 := fun q => by obtain ⟨xs, e⟩ := r2.owned p q; rw [hp] at e; cases e
  have k : Kp (· ∈ [] ++ f2) (· ∈ p :: f2) H (upd H p (.lst vs)) := Kp.new hp fun a q => (List.mem_cons.mp q).elim .inr .inl
  exact ⟨p :: f2, List.nodup_cons.mpr ⟨np, nd⟩, .cons (f := [p]) (.ol upd_same (RelDs.kp k _ _ rd)) (r2.kp k fun a q => upd_ne fun z => np (z ▸ q))⟩
/-- a value that owns nothing stands once more -/
theorem Live.again0 {v : V} {x : Vl} (h : Live K H L) (m : (v, x) ∈ L) (hx : x.isFz = true) : Live K H ((v, x) :: L) := by
  obtain ⟨fs, nd, r⟩ := h
  obtain ⟨f, q⟩ := r.mem m
  cases q with
  | fz q => exact ⟨fs, nd, .cons (f := []) (.fz q) r⟩
  | scr q => exact ⟨fs, nd, .cons (f := []) (.scr q) r⟩
  | ol _ _ => cases hx
  | oo _ _ => cases hx
  | pinL _ => cases hx
  | pinT _ => cases hx
end
section
variable {X : Cx} {G : Fs} {a b c e : Expr} {es rest : List Expr} {i j k : E} {is : List E} {pos : Pos}
theorem gens_own : ∀ {is : List E} {fr fr' : Fm} {xs : List Vl}, gens G is fr = some (xs, fr') → ∀ x ∈ xs, x.own = true
  | [], _, _, _, h => by unfold gens at h; cases h; intro x hx; cases hx
  | i :: is, _, _, _, h => by
    unfold gens at h
    obtain ⟨⟨p1, f1⟩, e1, h⟩ := bnd h
    obtain ⟨⟨x, f2⟩, e2, h⟩ := bnd h
    obtain ⟨⟨xs2, f3⟩, e3, h⟩ := mpd h
    cases h
    intro y hy
    rcases List.mem_cons.mp hy with rfl | hy
    · exact force_own e2
    · exact gens_own e3 y hy
theorem froz_len (xs : List Vl) : (froz xs).length = xs.length := List.length_map _
theorem s_tup {n : Nat} (ha : PA X es (tGs X G is)) : PE X (.Tuple es n pos) (tE X G (.tup is)) := by
  refine pe_mono (pe_tup ha) fun σ H Q q => ?_
  obtain ⟨fr, L, p, fr', ok, l, ee, q⟩ := q
  unfold ev at ee
  obtain ⟨⟨xs, f1⟩, e1, ee⟩ := bnd ee
  obtain ⟨c, ee⟩ := ite_some ee
  cases ee
  refine ⟨fr, L, xs, f1, ok, l, e1, fun vs H1 ok1 hl l1 => ⟨by rw [hl]; exact szOk c, fun p hp => q _ _ ok1 (hold1 ?_)⟩⟩
  exact Live.newTup (by rw [hl, froz_len]) (Live.freezeAll hl (gens_own e1) l1) hp
theorem s_lst (ha : PA X es (tGs X G is)) : PE X (.List es pos) (tE X G (.lst is)) := by
  refine pe_mono (pe_lst ha) fun σ H Q q => ?_
  obtain ⟨fr, L, p, fr', ok, l, ee, q⟩ := q
  unfold ev at ee
  obtain ⟨⟨xs, f1⟩, e1, ee⟩ := bnd ee
  obtain ⟨c, ee⟩ := ite_some ee
  cases ee
  refine ⟨fr, L, xs, f1, ok, l, e1, fun vs H1 ok1 hl l1 => ⟨by rw [hl]; exact szOk c, fun p hp => q _ _ ok1 (hold1 ?_)⟩⟩
  exact Live.newLst (by rw [hl, froz_len]) (Live.freezeAll hl (gens_own e1) l1) hp

/-! ### calls -/
/-- arguments are lent -/
theorem lend_ok {K : PySem.W.Frag} {σ : St} {H : Hp} : ∀ {ps : List Pd} {vs : List V} {fr fr1 : Fm} {xs : List Vl} {L : List (V × Vl)}, SlOk σ fr → pok σ vs ps → Live K H (pit vs ps ++ (slots σ fr ++ L)) → lend ps fr = some (xs, fr1) →
    vs.length = xs.length ∧ SlOk σ fr1 ∧ Live K H (vs.zip xs ++ (slots σ fr1 ++ L))
  | [], _, fr, _, _, L, ok, pk, l, e => by
    cases pk
    unfold lend at e
    cases e
    exact ⟨rfl, ok, l⟩
  | .st x :: ps, v :: vs, fr, _, _, L, ok, pk, l, e => by
    cases pk with
    | cons p1 p2 =>
      unfold lend at e
      obtain ⟨⟨xs2, f2⟩, e1, e⟩ := mpd e
      cases e
      have l1 : Live K H (pit vs ps ++ (slots σ fr ++ ((v, x) :: L))) := by
        have l0 : Live K H ((v, x) :: (pit vs ps ++ (slots σ fr ++ L))) := l
        refine l0.perm ((zip_perm_mid _ _ _).trans (List.Perm.append_left _ (zip_perm_mid _ _ _)))
      obtain ⟨q1, q2, q3⟩ := lend_ok ok p2 l1 e1
      refine ⟨by simp [q1], q2, ?_⟩
      rw [List.zip_cons_cons]
      exact q3.perm ((List.Perm.append_left _ (zip_perm_mid _ _ _).symm).trans (zip_perm_mid _ _ _).symm)
  | .sl i :: ps, v :: vs, fr, _, _, L, ok, pk, l, e => by
    cases pk with
    | cons p1 p2 =>
      have p1 : σ[i]? = some (some v) := p1
      have l0 : Live K H (pit vs ps ++ (slots σ fr ++ L)) := l
      have fin : ∀ (x : Vl) (f1 : Fm) (xs2 : List Vl) (f2 : Fm), SlOk σ f1 → Live K H (pit vs ps ++ (slots σ f1 ++ ((v, x) :: L))) → lend ps f1 = some (xs2, f2) → (v :: vs).length = (x :: xs2).length ∧ SlOk σ f2 ∧ Live K H ((v :: vs).zip (x :: xs2) ++ (slots σ f2 ++ L)) := fun x f1 xs2 f2 ok1 l1 e1 => by
        obtain ⟨q1, q2, q3⟩ := lend_ok ok1 p2 l1 e1
        refine ⟨by simp [q1], q2, ?_⟩
        rw [List.zip_cons_cons]
        exact q3.perm ((List.Perm.append_left _ (zip_perm_mid _ _ _).symm).trans (zip_perm_mid _ _ _).symm)
      have dupl : ∀ x : Vl, fr[i]? = some (some x) → x.isFz = true → Live K H (pit vs ps ++ (slots σ fr ++ ((v, x) :: L))) := fun x hx hz => by
        have m : (v, x) ∈ pit vs ps ++ (slots σ fr ++ L) := List.mem_append_right _ (List.mem_append_left _ (slots_mem p1 hx))
        exact (l0.again0 m hz).perm ((zip_perm_mid _ _ _).trans (List.Perm.append_left _ (zip_perm_mid _ _ _)))
      unfold lend at e
      split at e
      · rename_i d hd
        obtain ⟨⟨xs2, f2⟩, e1, e⟩ := mpd e
        cases e
        exact fin _ _ _ _ ok (dupl _ hd rfl) e1
      · rename_i d hd
        obtain ⟨⟨xs2, f2⟩, e1, e⟩ := mpd e
        cases e
        exact fin _ _ _ _ ok (dupl _ hd rfl) e1
      · rename_i x _ _ hx
        obtain ⟨⟨xs2, f2⟩, e1, e⟩ := mpd e
        cases e
        refine fin _ _ _ _ (ok.drop i) (l0.perm (List.Perm.append_left _ ?_)) e1
        exact (List.Perm.append_right L (slots_at p1 hx)).trans (zip_perm_mid _ _ _)
      · cases e
/-- what was lent comes back -/
theorem give_ok {K : PySem.W.Frag} {σ : St} {H : Hp} : ∀ {ps : List Pd} {vs : List V} {xs : List Vl} {fr : Fm} {L : List (V × Vl)}, SlOk σ fr → pok σ vs ps → Live K H (vs.zip xs ++ (slots σ fr ++ L)) →
    SlOk σ (give ps xs fr) ∧ Live K H (slots σ (give ps xs fr) ++ L)
  | [], _, xs, fr, L, ok, pk, l => by
    cases pk
    cases xs <;> exact ⟨ok, l⟩
  | p :: ps, v :: vs, [], fr, L, ok, pk, l => by
    cases p <;> exact ⟨ok, l⟩
  | .st x :: ps, v :: vs, y :: xs, fr, L, ok, pk, l => by
    cases pk with
    | cons p1 p2 =>
      have l0 : Live K H ((v, y) :: (vs.zip xs ++ (slots σ fr ++ L))) := l
      have := give_ok ok p2 l0.tail
      unfold give
      exact this
  | .sl i :: ps, v :: vs, y :: xs, fr, L, ok, pk, l => by
    cases pk with
    | cons p1 p2 =>
      have p1 : σ[i]? = some (some v) := p1
      have l0 : Live K H ((v, y) :: (vs.zip xs ++ (slots σ fr ++ L))) := l
      unfold give
      split
      · rename_i hn
        have hi : i < fr.length := (List.getElem?_eq_some_iff.mp hn).1
        refine give_ok (ok.put p1) p2 (l0.perm ((zip_perm_mid _ _ _).trans (List.Perm.append_left _ ?_)))
        show ((v, y) :: slots σ fr ++ L).Perm _
        refine List.Perm.append_right L ?_
        have := slots_put (fr := fr) (x := y) p1 hi
        rw [slots_none hn] at this
        exact this.symm
      · exact give_ok ok p2 l0.tail
def spOf (K : PySem.W.Frag) (g : List Vl → Option (Vl × List Vl)) : SpG := fun vs H Q => ∃ xs L a ps, vs.length = xs.length ∧ Live K H (vs.zip xs ++ L) ∧ g xs = some (a, ps) ∧ ∀ v H', Live K H' ((v, a) :: (vs.zip ps ++ L)) → Q v H'
theorem call_core {f : Nat} {e : Expr} (h : PE X e (tCallG (spOf X.K (G f)) (tAs X G is))) : PE X e (tE X G (.call f is)) := by
  refine pe_mono h fun σ H Q q => ?_
  obtain ⟨fr, L, p, fr', ok, l, ee, q⟩ := q
  unfold ev at ee
  obtain ⟨⟨ps, f1⟩, e1, ee⟩ := bnd ee
  obtain ⟨⟨xs, f2⟩, e2, ee⟩ := bnd ee
  obtain ⟨⟨x, ys⟩, e3, ee⟩ := mpd ee
  cases ee
  refine ⟨fr, L, ps, f1, ok, l, e1, fun vs H1 ok1 o => ?_⟩
  obtain ⟨q1, q2, q3⟩ := lend_ok ok1 o.1 o.2 e2
  refine ⟨xs, _, x, ys, q1, q3, e3, fun v H2 l2 => ?_⟩
  have l3 : Live X.K H2 (vs.zip ys ++ (slots σ f2 ++ ((v, x) :: L))) := l2.perm ((zip_perm_mid _ _ _).trans (List.Perm.append_left _ (zip_perm_mid _ _ _)))
  obtain ⟨g1, g2⟩ := give_ok q2 o.1 l3
  exact q v H2 g1 (hold1 (g2.perm (zip_perm_mid _ _ _).symm))

/-! ### built-in functions -/
theorem bi_core {bb : Bi} {e : Expr} (h : PE X e (tCB (rBi X.K bb) (tAs X G is))) : PE X e (tE X G (.bi bb is)) := by
  refine pe_mono h fun σ H Q q => ?_
  obtain ⟨fr, L, p, fr', ok, l, ee, q⟩ := q
  unfold ev at ee
  obtain ⟨⟨ps, f1⟩, e1, ee⟩ := bnd ee
  obtain ⟨ds, e2, ee⟩ := bnd ee
  obtain ⟨z, e3, ee⟩ := mpd ee
  cases ee
  exact ⟨fr, L, ps, f1, ok, l, e1, fun vs H1 ok1 o => ⟨ds, _, z, o.looks e2, e3, fun v H2 l2 => q v H2 ok1 (hold1 l2)⟩⟩
/-- isinstance -/
def tyS : Ty → String
  | .int => "int"
  | .bool => "bool"
  | .tuple => "tuple"
  | .str => "str"
def tyD : D → String
  | .none => "NoneType"
  | .bool _ => "bool"
  | .int _ => "int"
  | .str _ => "str"
  | .list _ => "list"
  | .tuple _ => "tuple"
  | .dict _ => "dict"
theorem ty_of {K : PySem.W.Frag} {F : Addr → Prop} {H : Hp} {v : V} {d : D} (h : RelO K F H v d) : TyX K H v (.type (tyD d)) := by
  cases d with
  | none => have := h.none; subst this; exact .base .non
  | bool b => have := h.bool; subst this; exact .base (.bl b)
  | int n => have := h.int; subst this; exact .base (.int n)
  | str z => have := h.str; subst this; exact .base (.str z)
  | list ds =>
    have kk : ∀ {a : Addr} {xs : List V}, SqL K H a xs → TyX K H (.ref a) (.type "list") := fun {a xs} q => by
      rcases q with (q | ⟨o, q⟩) | ⟨o, its, n, q1, q2, _⟩
      · exact .base (.lst q)
      · exact .base (.frz q)
      · exact .kList q1 q2
    obtain ⟨a, xs, rfl, q, _⟩ := h.list
    exact kk q
  | tuple ds =>
    obtain ⟨a, xs, rfl, q, _⟩ := h.tuple
    rcases q with (q | ⟨o, q⟩) | ⟨o, its, n, q1, q2, _⟩
    · exact .base (.tup q)
    · exact .fTuple q
    · exact .kTuple q1 q2
  | dict _ => exact (RelO.nodict h).elim
end
end Tr

set_option Elab.async false
set_option linter.all false
set_option maxRecDepth 100000
set_option maxHeartbeats 2000000
/-! enumerate of a tuple. -/
namespace Tr
open PySem PySem.Spec PyProof.Rows L2
theorem enum_new1 {v : Value} {o : Obj} {Hh : Heap → Prop} (B : PySem.Begins v o Hh) :
    Meets (Builtin.«enumerate.__new__» ⟨[.type "enumerate", v], []⟩) (fun _ R s => Hh s.heap ∧
      R (.ok (.ret (.ref (s.heap.push o).objs.size))) { s with heap := (s.heap.push o).push { cls := .type "enumerate", data := .fields #[.none, .bool false, .ref s.heap.objs.size, rawInt 0, .none, .none] } }) :=
  .of_wp fun prog w A R s h => by
    obtain ⟨hp, g, d, tk, os⟩ := s; obtain ⟨h1, h⟩ := h
    have hsub := sub_enumerate
    have q1 : ∀ {A1 : Around} {E1 : Value → Shared → Prop} {Q1 : Value → Shared → Prop}, Q1 (.ref hp.objs.size) ⟨hp.push o, g, d, tk, os⟩ → wpAny (model prog w) A1 (pyIter v) Q1 E1 ⟨hp, g, d, tk, os⟩ :=
      fun q => B.iter prog w _ _ ⟨hp, g, d, tk, os⟩ _ h1 q
    wp_walk using q1
    refine wpAny_stack_any fun st => wpAny_pure ?_
    split
    · rename_i c _ _ _ _ _
      cases (c == Value.type "enumerate") <;> (wp_walk using q1; exact ⟨_, rfl, h⟩)
    · wp_walk using q1
      exact ⟨_, rfl, h⟩
theorem enum_begin1 {prog : Program} {w : World} {A : Around} {E : Value → Shared → Prop} {s : Shared} {v : Value} {o : Obj} {Hh : Heap → Prop} {Q : Value → Shared → Prop} (B : PySem.Begins v o Hh) (h1 : Hh s.heap)
    (h : ∀ h', IsEnum h' (s.heap.objs.size + 1) s.heap.objs.size 0 .none → h'.get? s.heap.objs.size = some o → h'.objs.size = s.heap.objs.size + 2 →
      (∀ b u, s.heap.get? b = some u → h'.get? b = some u) → Q (.ref (s.heap.objs.size + 1)) { s with heap := h' }) :
    wpAny (model prog w) A (call (.type "enumerate") [v]) Q E s := by
  refine callType_new F.called_enumerate (by decide) (F.typeCall_enumerate_1 _) (F.newCall_enumerate_1 _) (fun obj => F.args_object_init_2 obj _) F.entry_enumerate_new (enum_new1 B) ⟨h1, ?_⟩
  have hz : (s.heap.push o).objs.size = s.heap.objs.size + 1 := Heap.size_push ..
  show _ ∧ _
  rw [hz]
  have he : IsEnum ((s.heap.push o).push { cls := .type "enumerate", data := .fields #[.none, .bool false, .ref s.heap.objs.size, rawInt 0, .none, .none] }) (s.heap.objs.size + 1) s.heap.objs.size 0 .none := by
    have := Heap.get?_push_size (s.heap.push o) (o := { cls := .type "enumerate", data := .fields #[.none, .bool false, .ref s.heap.objs.size, rawInt 0, .none, .none] }) rfl
    rw [hz] at this; exact this
  refine ⟨⟨_, he, rfl⟩, h _ he (Heap.get?_push_of_some _ (Heap.get?_push_size _ B.free)) (by rw [Heap.size_push, hz]) fun b u x => Heap.get?_push_of_some _ (Heap.get?_push_of_some _ x)⟩
/-- the tuple at a, each item in a new pair -/
def IteT (K : PySem.W.Frag) (a : Addr) : L2.It :=
  ⟨fun i H => ∃ (xs : List V) (x : V), SqT K H a xs ∧ xs[i]? = some x, fun i H v H' => ∃ T x, v = .ref T ∧ H T = none ∧ H' = upd H T (.tup [.int (i : Nat), x]) ∧ ∀ xs, SqT K H a xs → xs[i]? = some x, fun i H => ∃ xs : List V, SqT K H a xs ∧ xs.length = i⟩
theorem turn_enumT {P : Program} {w : World} {K : PySem.W.Frag} {elts : List Expr} {kk : Nat} {tpos : Pos} (a e it : Addr) (hai : a ≠ it) (hae : a ≠ e) :
    Turn P w K (.Tuple elts kk tpos) (IteT K a) [e, it] e (fun i h => (∃ old, IsEnum h e it ((i : Nat) : Int) old) ∧ h.IsTupleIter it a i ∧ e ≠ it) where
  mem := by simp
  obj := fun i h st b hb => by
    obtain ⟨⟨old, he⟩, ⟨o, ho, hc, hd⟩, _⟩ := st
    have e' : b = e ∨ b = it := by simpa using hb
    rcases e' with z | z
    · rw [z]; exact ⟨_, he, fun v q => nomatch q⟩
    · rw [z]; exact ⟨o, ho, fun v q => by rw [hd] at q; cases q⟩
  keep := fun i h h' st k => let ⟨⟨old, he⟩, hi, hne⟩ := st; ⟨⟨old, k e (by simp) _ he⟩, hi.at fun o q => k it (by simp) o q, hne⟩
  item := by
    intro X hP hw hK hc i pins s σ H E I hf st hg
    subst hP hw hK
    obtain ⟨⟨old, he⟩, hit, hne⟩ := st
    obtain ⟨xs, x, hq, hx⟩ := hg
    obtain ⟨its, rv, p, hz⟩ := I.tuple hq
    have hel : e < s.heap.objs.size := Heap.lt_size he
    have hil : it < s.heap.objs.size := by obtain ⟨_, q, _⟩ := hit; exact Heap.lt_size q
    have hlen := rv.length
    have hi : i < its.toArray.size := by
      have := (List.getElem?_eq_some_iff.mp hx).1
      simp only [List.size_toArray]; omega
    have hef : e ∉ [it, a] := by
      intro q
      rcases List.mem_cons.mp q with q | q
      · exact hne q
      · exact hae (List.mem_singleton.mp q).symm
    refine wpAny_pyNext_enum_itemD (Draws.tuple (A := X.A.in1) (show X.A.in1.handled = none from I.ok.hd hc) it a hai its.toArray) he ⟨hit, (show s.heap.IsTuple a its.toArray from p)⟩ hi hne hef fun u h' tk hu ho st' hT hsz hk => ?_
    obtain ⟨x', hx', ru⟩ := paired_at rv (y := u) (i := i) (by simpa using hu)
    rw [hx] at hx'
    cases hx'
    refine ⟨_, rfl, wpAny_letOwnedTupleGo_enum (s := { s with heap := h', toks := tk + 1 }) ho fun h'' he' sb => ?_⟩
    have hT2 : h''.get? s.heap.objs.size = some { cls := .type "tuple", data := .seq #[.int i tk, u] } := (sb.2 _ (Nat.ne_of_gt hel)).trans hT
    have new : ObjOk X.prog X.w (upd H s.heap.objs.size (.tup [.int (i : Nat), x])) h'' s.heap.objs.size (.tup [.int (i : Nat), x]) :=
      ⟨by show 2 ≤ sizeLine; decide, [.int i tk, u], .cons ⟨_, rfl⟩ (.cons ru .nil), ⟨_, hT2, rfl, _, rfl⟩⟩
    have I1 : Inv X pins σ (upd H s.heap.objs.size (.tup [.int (i : Nat), x])) { s with heap := h'', toks := tk + 1 } :=
      I.turnedNew (ch := [e, it]) (fun b ob hb q => (sb.2 b (fun z => hb (by simp [z]))).trans (hk b ob (fun z => hb (by simp [z])) (fun z => hb (by simp [z])) q)) hf (Nat.le_refl _) new
    refine ⟨.ref s.heap.objs.size, _, I1, rfl, ⟨_, x, rfl, I.hok.fresh (Nat.le_refl _), rfl, fun ys hy => by rw [I.tuple_inj hy hq]; exact hx⟩, ⟨⟨u, ?_⟩, st'.1.at fun o q => (sb.2 it (Ne.symm hne)).trans q, hne⟩, fun b hb => ?_⟩
    · have e1 : ((i + 1 : Nat) : Int) = (i : Int) + 1 := by omega
      rw [e1]; exact he'
    · have hb' : b < s.heap.objs.size := by
        have e' : b = e ∨ b = it := by simpa using hb
        rcases e' with z | z
        · rw [z]; exact hel
        · rw [z]; exact hil
      rw [upd_ne (Nat.ne_of_lt hb')]
      exact (hf b hb).1
  done := by
    intro X hP hw hK hc i pins s σ H E I hf st hg
    subst hP hw hK
    obtain ⟨⟨old, he⟩, hit, hne⟩ := st
    obtain ⟨xs, hq, hx⟩ := hg
    obtain ⟨its, rv, p, hz⟩ := I.tuple hq
    obtain ⟨f0, f1, f2, f3, f4, f5⟩ := hf it (by simp)
    have hl := rv.length
    have ei : i = its.toArray.size := by simp only [List.size_toArray]; omega
    refine wpAny_pyNext_enum_endD (Draws.tuple (A := X.A.in1) (show X.A.in1.handled = none from I.ok.hd hc) it a hai its.toArray) he ⟨?_, (show s.heap.IsTuple a its.toArray from p)⟩ fun h' eb => ⟨rfl, I.turned (t' := s.toks) (fun b o hb q => eb b o hb q) f0 f1 f3 f4 f5⟩
    rw [← ei]
    exact hit
  self := fun A i s Q E st h => let ⟨⟨_, he⟩, _⟩ := st; wpAny_pyIter_enum he h
def iEnumT (K : PySem.W.Frag) (ta : TA) : TI := fun σ H R => ta σ H fun vs H1 => ∃ a xs, vs = [.ref a] ∧ SqT K H1 a xs ∧ R (IteT K a) H1
theorem pi_enumT {X : Cx} {e : Expr} {ta : TA} {p pos tpos : Pos} {elts : List Expr} {kk : Nat} (hg : Gl X "enumerate") (hm : X.mg "enumerate" = none) (ha : PA X [e] ta) (hs : starEach [e] X.env = [(false, eval e X.env)]) :
    PI X (.Tuple elts kk tpos) (.Call (.Name "enumerate" p) [e] [] pos) (iEnumT X.K ta) := by
  refine ⟨fun pins s σ H R I h => ?_⟩
  refine Call_ (ld_blt I hg hm boot_enumerate (PyProof.Rows.callWith_type1 (thn (ha.run pos pins s σ H _ I h) fun us s1 ⟨vs, H1, I1, r1, q1⟩ => ?_) hs rfl))
  obtain ⟨a, xs, ex, hq, q⟩ := q1
  subst ex
  cases r1 with
  | cons r rr =>
    cases rr
    cases r
    obtain ⟨its, rv, p', hz⟩ := I1.tuple hq
    have hal : a < s1.heap.objs.size := by obtain ⟨_, q, _⟩ := id p'; exact Heap.lt_size q
    refine enum_begin1 (PySem.begins_tuple a its.toArray) (show s1.heap.IsTuple a its.toArray from p') fun h' he hit hsz hk => wpAny_pyIter_enum he ?_
    have I2 : Inv X pins σ H1 { s1 with heap := h' } := I1.kept (t' := s1.toks) hk
    refine ⟨s1.heap.objs.size + 1, [s1.heap.objs.size + 1, s1.heap.objs.size], _, _, H1, rfl, I2, turn_enumT a (s1.heap.objs.size + 1) s1.heap.objs.size (Nat.ne_of_lt hal) (Nat.ne_of_lt (Nat.lt_succ_of_lt hal)), ⟨⟨.none, he⟩, ⟨_, hit, rfl, rfl⟩, Nat.succ_ne_self _⟩, fun b hb => ?_, q⟩
    have e' : b = s1.heap.objs.size + 1 ∨ b = s1.heap.objs.size := by simpa using hb
    have hle : s1.heap.objs.size ≤ b := by
      rcases e' with z | z
      · rw [z]; exact Nat.le_add_right _ _
      · rw [z]; exact Nat.le_refl _
    exact I1.fpOk hle (I1.hok.fresh hle)
end Tr

set_option Elab.async false
set_option linter.all false
set_option maxRecDepth 100000
set_option maxHeartbeats 2000000
/-! zip of a list, a tuple, either way. -/
namespace Tr
open PySem PySem.Spec PyProof.Rows L2
/-- a tuple (true), a list by its items -/
def sqB (t : Bool) (K : PySem.W.Frag) (H : Hp) (a : Addr) (xs : List V) : Prop := match t with
  | true => SqT K H a xs
  | false => SqL K H a xs
def itB (t : Bool) (h : Heap) (i a : Addr) (k : Nat) : Prop := match t with
  | true => h.IsTupleIter i a k
  | false => h.IsListIter i a k
def isB (t : Bool) (h : Heap) (a : Addr) (its : Array Value) : Prop := match t with
  | true => h.IsTuple a its
  | false => h.IsList a its
def obB (t : Bool) (a : Addr) : Obj := match t with
  | true => { cls := .type "tuple_iterator", data := .fields #[.ref a, .int 0 0] }
  | false => { cls := .type "list_iterator", data := .fields #[.ref a, .int 0 0] }
theorem begB (t : Bool) (a : Addr) (its : Array Value) : PySem.Begins (.ref a) (obB t a) fun h => isB t h a its := by
  cases t
  · exact PySem.begins_list a its
  · exact PySem.begins_tuple a its
theorem drawB {prog : Program} {w : World} {A : Around} (hh : A.handled = none) (t : Bool) (it a : Addr) (hne : a ≠ it) (its : Array Value) :
    Draws prog w A it [it, a] its.size (fun i v => its[i]? = some v) (fun i h => itB t h it a i ∧ isB t h a its) := by
  cases t
  · exact Draws.list hh it a hne its
  · exact Draws.tuple hh it a hne its
theorem itB_keep {t : Bool} {h h' : Heap} {i a : Addr} {k : Nat} (x : itB t h i a k) (e : ∀ o, h.get? i = some o → h'.get? i = some o) : itB t h' i a k := by
  cases t
  · exact Heap.IsListIter.at x e
  · exact Heap.IsTupleIter.at x e
theorem itB_obj {t : Bool} {h : Heap} {i a : Addr} {k : Nat} (x : itB t h i a k) : ∃ o, h.get? i = some o ∧ ∀ v, o.data ≠ .cell v := by
  cases t
  · obtain ⟨o, e, _, d⟩ := x
    exact ⟨o, e, fun v q => by rw [d] at q; cases q⟩
  · obtain ⟨o, e, _, d⟩ := x
    exact ⟨o, e, fun v q => by rw [d] at q; cases q⟩
theorem itB_new {t : Bool} {h : Heap} {i a : Addr} (e : h.get? i = some (obB t a)) : itB t h i a 0 := by
  cases t
  · exact ⟨_, e, rfl, rfl⟩
  · exact ⟨_, e, rfl, rfl⟩
section
variable {X : Cx} {pins : List (Addr × Obj)} {σ : L2.St} {H : Hp} {s : Shared}
theorem sqB_get (I : Inv X pins σ H s) {t : Bool} {a : Addr} {xs : List V} (h : sqB t X.K H a xs) : ∃ its, Vals xs its ∧ isB t s.heap a its.toArray ∧ a < s.heap.objs.size := by
  cases t
  · obtain ⟨its, rv, p, _⟩ := I.list h
    exact ⟨its, rv, p.isList, p.lt⟩
  · obtain ⟨its, rv, p, _⟩ := I.tuple h
    obtain ⟨_, q, _⟩ := id p
    exact ⟨its, rv, p, Heap.lt_size q⟩
theorem sqB_inj (I : Inv X pins σ H s) {t : Bool} {a : Addr} {xs ys : List V} (h : sqB t X.K H a xs) (h2 : sqB t X.K H a ys) : xs = ys := by
  cases t
  · exact I.list_inj h h2
  · exact I.tuple_inj h h2
end
def ItzM (K : PySem.W.Frag) (t u : Bool) (a b : Addr) : L2.It :=
  ⟨fun i H => ∃ (xs ys : List V) (x y : V), sqB t K H a xs ∧ sqB u K H b ys ∧ xs[i]? = some x ∧ ys[i]? = some y,
    fun i H v H' => ∃ T x y, v = .ref T ∧ H T = none ∧ H' = upd H T (.tup [x, y]) ∧ (∀ xs, sqB t K H a xs → xs[i]? = some x) ∧ ∀ ys, sqB u K H b ys → ys[i]? = some y,
    fun i H => ∃ xs ys : List V, sqB t K H a xs ∧ sqB u K H b ys ∧ i ≤ xs.length ∧ i ≤ ys.length ∧ (xs.length = i ∨ ys.length = i)⟩
theorem turn_zipM {P : Program} {w : World} {K : PySem.W.Frag} {elts : List Expr} {kk : Nat} {tpos : Pos} (t u : Bool) {a b z TI TO i1 i2 : Addr} (S : PySem.ZipSep2 z TI TO i1 i2 [i1, a] [i2, b]) (ha : a ≠ i1) (hb : b ≠ i2) :
    Turn P w K (.Tuple elts kk tpos) (ItzM K t u a b) [z, TI, TO, i1, i2] z (fun i h => IsZip h z TI TO .none ∧ IsTupOf2 h TI (.ref i1) (.ref i2) ∧ (∃ x y, IsTupOf2 h TO x y) ∧ itB t h i1 a i ∧ itB u h i2 b i) where
  mem := by simp
  obj := fun i h st c hc => by
    obtain ⟨hz, hTI, ⟨x, y, hTO⟩, h1, h2⟩ := st
    have e' : c = z ∨ c = TI ∨ c = TO ∨ c = i1 ∨ c = i2 := by simpa using hc
    rcases e' with q | q | q | q | q
    · rw [q]; exact ⟨_, hz, fun v q => nomatch q⟩
    · rw [q]; exact ⟨_, hTI, fun v q => nomatch q⟩
    · rw [q]; exact ⟨_, hTO, fun v q => nomatch q⟩
    · rw [q]; exact itB_obj h1
    · rw [q]; exact itB_obj h2
  keep := fun i h h' st k => by
    obtain ⟨hz, hTI, ⟨x, y, hTO⟩, h1, h2⟩ := st
    exact ⟨k z (by simp) _ hz, k TI (by simp) _ hTI, ⟨x, y, k TO (by simp) _ hTO⟩, itB_keep h1 fun o q => k i1 (by simp) o q, itB_keep h2 fun o q => k i2 (by simp) o q⟩
  item := by
    intro X hP hw hK hc i pins s σ H E I hf st hg
    subst hP hw hK
    obtain ⟨hz, hTI, ⟨x0, y0, hTO⟩, h1, h2⟩ := st
    obtain ⟨xs, ys, x, y, hqx, hqy, hx, hy⟩ := hg
    obtain ⟨its, rv, p, _⟩ := sqB_get I hqx
    obtain ⟨its2, rv2, p2, _⟩ := sqB_get I hqy
    obtain ⟨v1, hu, ru⟩ := rv.get hx
    obtain ⟨v2, hu2, ru2⟩ := rv2.get hy
    have hzl : z < s.heap.objs.size := Heap.lt_size hz
    have hd : X.A.in1.handled = none := I.ok.hd hc
    have hlt1 : i < its.toArray.size := by
      have := (List.getElem?_eq_some_iff.mp hu).1
      simpa using this
    have hlt2 : i < its2.toArray.size := by
      have := (List.getElem?_eq_some_iff.mp hu2).1
      simpa using this
    refine PySem.wpAny_pyNext_zipD2_item S (drawB hd t i1 a ha its.toArray) (drawB hd u i2 b hb its2.toArray) hz hTI hTO ⟨h1, p⟩ ⟨h2, p2⟩ hlt1 hlt2 fun w1 w2 h' tk e1 e2 z' TO' st1 st2 hT hsz hk => ?_
    have ew1 : w1 = v1 := by
      have e1 : its.toArray[i]? = some w1 := e1
      rw [List.getElem?_toArray, hu] at e1
      exact (Option.some.inj e1).symm
    have ew2 : w2 = v2 := by
      have e2 : its2.toArray[i]? = some w2 := e2
      rw [List.getElem?_toArray, hu2] at e2
      exact (Option.some.inj e2).symm
    subst ew1 ew2
    refine ⟨_, rfl, wpAny_letOwnedTupleGo_zip (s := { s with heap := h', toks := tk }) z' fun h'' z'' sb => ?_⟩
    have hT2 : h''.get? s.heap.objs.size = some { cls := .type "tuple", data := .seq #[w1, w2] } := (sb.2 _ (Nat.ne_of_gt hzl)).trans hT
    have new : ObjOk X.prog X.w (upd H s.heap.objs.size (.tup [x, y])) h'' s.heap.objs.size (.tup [x, y]) :=
      ⟨by show 2 ≤ sizeLine; decide, [w1, w2], .cons ru (.cons ru2 .nil), ⟨_, hT2, rfl, _, rfl⟩⟩
    have I1 : Inv X pins σ (upd H s.heap.objs.size (.tup [x, y])) { s with heap := h'', toks := tk } :=
      I.turnedNew (t' := tk) (ch := [z, TI, TO, i1, i2]) (fun c o hb q => (sb.2 c (fun q' => hb (by simp [q']))).trans (hk c o (fun q' => hb (by simp [q'])) (fun q' => hb (by simp [q'])) (fun q' => hb (by simp [q'])) (fun q' => hb (by simp [q'])) q)) hf (Nat.le_refl _) new
    refine ⟨.ref s.heap.objs.size, _, I1, rfl, ⟨_, x, y, rfl, I.hok.fresh (Nat.le_refl _), rfl, fun l hl => by rw [sqB_inj I hl hqx]; exact hx, fun l hl => by rw [sqB_inj I hl hqy]; exact hy⟩, ⟨z'', ?_, ⟨w1, w2, ?_⟩, ?_, ?_⟩, fun c hcm => ?_⟩
    · exact (sb.2 _ S.TIz).trans (hk _ _ S.TIz S.TITO S.TIi1 S.TIi2 hTI)
    · exact (sb.2 _ S.TOz).trans TO'
    · exact itB_keep st1.1 fun o q => (sb.2 _ (Ne.symm S.zi1)).trans q
    · exact itB_keep st2.1 fun o q => (sb.2 _ (Ne.symm S.zi2)).trans q
    · have hlt : c < s.heap.objs.size := by
        have e' : c = z ∨ c = TI ∨ c = TO ∨ c = i1 ∨ c = i2 := by simpa using hcm
        rcases e' with q | q | q | q | q
        · rw [q]; exact hzl
        · rw [q]; exact Heap.lt_size hTI
        · rw [q]; exact Heap.lt_size hTO
        · rw [q]; obtain ⟨_, e1, _⟩ := itB_obj h1; exact Heap.lt_size e1
        · rw [q]; obtain ⟨_, e2, _⟩ := itB_obj h2; exact Heap.lt_size e2
      rw [upd_ne (Nat.ne_of_lt hlt)]
      exact (hf c hcm).1
  done := by
    intro X hP hw hK hc i pins s σ H E I hf st hg
    subst hP hw hK
    obtain ⟨hz, hTI, ⟨x0, y0, hTO⟩, h1, h2⟩ := st
    obtain ⟨xs, ys, hqx, hqy, g1, g2, hend⟩ := hg
    obtain ⟨its, rv, p, _⟩ := sqB_get I hqx
    obtain ⟨its2, rv2, p2, _⟩ := sqB_get I hqy
    have l1 := rv.length
    have l2 := rv2.length
    have hd : X.A.in1.handled = none := I.ok.hd hc
    have s1 : its.toArray.size = xs.length := by rw [List.size_toArray, l1]
    have s2 : its2.toArray.size = ys.length := by rw [List.size_toArray, l2]
    refine PySem.wpAny_pyNext_zipD2_end S (drawB hd t i1 a ha its.toArray) (drawB hd u i2 b hb its2.toArray) hz hTI hTO ⟨h1, p⟩ ⟨h2, p2⟩ (by omega) (by omega) (by omega) fun h' tk hk => ⟨rfl, I.turnedL (t' := tk) (ch := [z, TI, TO, i1, i2]) (fun c o hb q =>
      hk c o (fun q' => hb (by simp [q'])) (fun q' => hb (by simp [q'])) (fun q' => hb (by simp [q'])) (fun q' => hb (by simp [q'])) q) hf⟩
  self := fun A i s Q E st h => wpAny_pyIter_zip st.1 h
theorem zip_sep (n a b : Nat) (ha : a < n) (hb : b < n) : PySem.ZipSep2 (n + 4) (n + 2) (n + 3) n (n + 1) [n, a] [n + 1, b] := by
  have two : ∀ x y z : Nat, x ≠ y → x ≠ z → x ∉ [y, z] := fun x y z h1 h2 h => by
    rcases List.mem_cons.mp h with e | h
    · exact h1 e
    · rcases List.mem_cons.mp h with e | h
      · exact h2 e
      · cases h
  exact {
    TIz := (show (n + 2 : Nat) ≠ n + 4 by omega)
    TOz := (show (n + 3 : Nat) ≠ n + 4 by omega)
    TITO := (show (n + 2 : Nat) ≠ n + 3 by omega)
    TIi1 := (show (n + 2 : Nat) ≠ n by omega)
    mem1 := List.mem_cons_self
    zf1 := two _ _ _ (by omega) (by omega)
    Tf1 := two _ _ _ (by omega) (by omega)
    TIi2 := (show (n + 2 : Nat) ≠ n + 1 by omega)
    mem2 := List.mem_cons_self
    zf2 := two _ _ _ (by omega) (by omega)
    Tf2 := two _ _ _ (by omega) (by omega)
    sep1_2 := two _ _ _ (by omega) (by omega)
    sep2_1 := two _ _ _ (by omega) (by omega) }
def iZipM (K : PySem.W.Frag) (ta : TA) : TI := fun σ H R => ta σ H fun vs H1 => ∃ (t u : Bool) (a b : Addr) (xs ys : List V), vs = [.ref a, .ref b] ∧ sqB t K H1 a xs ∧ sqB u K H1 b ys ∧ R (ItzM K t u a b) H1
theorem pi_zipM {X : Cx} {e e2 : Expr} {ta : TA} {p pos tpos : Pos} {elts : List Expr} {kk : Nat} (hg : Gl X "zip") (hm : X.mg "zip" = none) (ha : PA X [e, e2] ta)
    (hs : starEach [e, e2] X.env = (false, eval e X.env) :: starEach [e2] X.env) (hpl : (backTo pos (starEach [e2] X.env)).any (·.1) = false) :
    PI X (.Tuple elts kk tpos) (.Call (.Name "zip" p) [e, e2] [] pos) (iZipM X.K ta) := by
  refine ⟨fun pins s σ H R I h => ?_⟩
  refine Call_ (ld_blt I hg hm PyProof.Rows.boot_zip (PyProof.Rows.callWith_type1 (thn (ha.run pos pins s σ H _ I h) fun us s1 ⟨vs, H1, I1, r1, q1⟩ => ?_) hs hpl))
  obtain ⟨t, u, a, b, xs, ys, ex, hqx, hqy, q⟩ := q1
  subst ex
  cases r1 with
  | cons r rr =>
    cases rr with
    | cons r' rr =>
      cases rr
      cases r
      cases r'
      have fresh5 : ∀ c, c ∈ [s1.heap.objs.size + 4, s1.heap.objs.size + 2, s1.heap.objs.size + 3, s1.heap.objs.size, s1.heap.objs.size + 1] → FpOk X pins H1 c := fun c hcm => by
        have e' : c = s1.heap.objs.size + 4 ∨ c = s1.heap.objs.size + 2 ∨ c = s1.heap.objs.size + 3 ∨ c = s1.heap.objs.size ∨ c = s1.heap.objs.size + 1 := by simpa using hcm
        have hle : s1.heap.objs.size ≤ c := by
          rcases e' with z | z | z | z | z
          · rw [z]; exact Nat.le_add_right _ _
          · rw [z]; exact Nat.le_add_right _ _
          · rw [z]; exact Nat.le_add_right _ _
          · rw [z]; exact Nat.le_refl _
          · rw [z]; exact Nat.le_add_right _ _
        exact I1.fpOk hle (I1.hok.fresh hle)
      obtain ⟨its, rv, p1, la⟩ := sqB_get I1 hqx
      obtain ⟨its2, rv2, p2, lb⟩ := sqB_get I1 hqy
      refine PySem.zip_begins2 (begB t a its.toArray) (begB u b its2.toArray) p1 p2 fun h' hz hTI hTO h1 h2 hsz hk => wpAny_pyIter_zip hz ?_
      have I2 : Inv X pins σ H1 { s1 with heap := h' } := I1.kept (t' := s1.toks) hk
      have la' : @LT.lt Nat instLTNat a s1.heap.objs.size := la
      have lb' : @LT.lt Nat instLTNat b s1.heap.objs.size := lb
      have S := zip_sep s1.heap.objs.size a b la' lb'
      exact ⟨s1.heap.objs.size + 4, [s1.heap.objs.size + 4, s1.heap.objs.size + 2, s1.heap.objs.size + 3, s1.heap.objs.size, s1.heap.objs.size + 1], _, _, H1, rfl, I2, turn_zipM t u S (Nat.ne_of_lt la') (Nat.ne_of_lt (Nat.lt_succ_of_lt lb')), ⟨hz, hTI, ⟨_, _, hTO⟩, itB_new h1, itB_new h2⟩, fresh5, q⟩
end Tr

set_option Elab.async false
set_option linter.all false
set_option maxRecDepth 100000
set_option maxHeartbeats 1000000
/-! What is walked: iterators, targets. -/
namespace Tr
open PySem PySem.Spec PyProof.Rows L2
/-- while the items A are live the iterator goes through ds -/
structure Wk (K : PySem.W.Frag) (J : L2.It) (ds : List D) (A : List (V × Vl)) : Prop where
  go : ∀ i H L, i < ds.length → Live K H (A ++ L) → J.go i H
  stop : ∀ H L, Live K H (A ++ L) → J.stop ds.length H
  yld : ∀ i H x H' L d, ds[i]? = some d → Live K H (A ++ L) → J.yld i H x H' → Live K H' ((x, .fz d) :: (A ++ L))
section
variable {K : PySem.W.Frag}
theorem zip_get {xs : List V} {ds : List D} (hl : xs.length = ds.length) {i : Nat} {d : D} (e : ds[i]? = some d) : ∃ x, xs[i]? = some x ∧ (x, Vl.fz d) ∈ xs.zip (ds.map Vl.fz) := by
  have hi : i < xs.length := by rw [hl]; exact (List.getElem?_eq_some_iff.mp e).1
  refine ⟨xs[i], List.getElem?_eq_getElem hi, ?_⟩
  refine List.mem_iff_getElem?.mpr ⟨i, ?_⟩
  rw [List.getElem?_zip_eq_some]
  exact ⟨List.getElem?_eq_getElem hi, by rw [List.getElem?_map, e]; rfl⟩
abbrev AL (a : Addr) (xs : List V) (ds : List D) : List (V × Vl) := (.ref a, .pinL xs) :: xs.zip (ds.map Vl.fz)
abbrev AT (a : Addr) (xs : List V) (ds : List D) : List (V × Vl) := (.ref a, .pinT xs) :: xs.zip (ds.map Vl.fz)
theorem al_at {a : Addr} {xs : List V} {ds : List D} {H : Hp} {L : List (V × Vl)} (l : Live K H (AL a xs ds ++ L)) : SqL K H a xs := l.pinnedL (List.mem_append_left _ List.mem_cons_self)
theorem at_at {a : Addr} {xs : List V} {ds : List D} {H : Hp} {L : List (V × Vl)} (l : Live K H (AT a xs ds ++ L)) : SqT K H a xs := l.pinnedT (List.mem_append_left _ List.mem_cons_self)
theorem wk_list {a : Addr} {xs : List V} {ds : List D} (hl : xs.length = ds.length) : Wk K (Itl K a) ds (AL a xs ds) where
  go := fun i H L hi l => ⟨xs, xs[i]'(by omega), al_at l, List.getElem?_eq_getElem (by omega)⟩
  stop := fun H L l => ⟨xs, al_at l, by omega⟩
  yld := fun i H x H' L d e l y => by
    obtain ⟨rfl, y⟩ := y
    obtain ⟨x', hx, m⟩ := zip_get hl e
    have := y xs (al_at l)
    rw [hx] at this; cases this
    exact l.again (List.mem_append_left _ (List.mem_cons_of_mem _ m))
theorem wk_tup {a : Addr} {xs : List V} {ds : List D} (hl : xs.length = ds.length) : Wk K (Itt K a) ds (AT a xs ds) where
  go := fun i H L hi l => ⟨xs, xs[i]'(by omega), at_at l, List.getElem?_eq_getElem (by omega)⟩
  stop := fun H L l => ⟨xs, at_at l, by omega⟩
  yld := fun i H x H' L d e l y => by
    obtain ⟨rfl, y⟩ := y
    obtain ⟨x', hx, m⟩ := zip_get hl e
    have := y xs (at_at l)
    rw [hx] at this; cases this
    exact l.again (List.mem_append_left _ (List.mem_cons_of_mem _ m))
theorem rangeD_len (a b : Int) : (rangeD a b).length = (b - a).toNat := by unfold rangeD; rw [List.length_map, List.length_range]
theorem wk_range {a b : Int} : Wk K (Itr a (b - a).toNat) (rangeD a b) [] where
  go := fun i H L hi l => by rw [rangeD_len] at hi; exact hi
  stop := fun H L l => by show _ ≤ _; rw [rangeD_len]; exact Nat.le_refl _
  yld := fun i H x H' L d e l y => by
    obtain ⟨rfl, rfl⟩ := y
    have hi := (List.getElem?_eq_some_iff.mp e).1
    rw [rangeD_len] at hi
    unfold rangeD at e
    rw [List.getElem?_map, List.getElem?_range hi] at e
    cases e
    exact Live.scal (L := L) l rfl
theorem live_pair {H : Hp} {L : List (V × Vl)} {T : Addr} {x y : V} {d e : D} (l : Live K H ((x, .fz d) :: (y, .fz e) :: L)) (hT : H T = none) : Live K (upd H T (.tup [x, y])) ((.ref T, .fz (.tuple [d, e])) :: L) :=
  Live.newTup (vs := [x, y]) (ds := [d, e]) rfl l hT
/-- a fresh address keeps what is live -/
theorem live_fresh {H : Hp} {L : List (V × Vl)} {T : Addr} {o : HO} (l : Live K H L) (hT : H T = none) : Live K (upd H T o) L := l.same (same_new hT)
theorem pairs_get : ∀ {xs ys : List D} {i : Nat} {d : D}, (pairs xs ys)[i]? = some d → ∃ x y, xs[i]? = some x ∧ ys[i]? = some y ∧ d = .tuple [x, y]
  | [], _, _, _, e => by simp [pairs] at e
  | _ :: _, [], _, _, e => by simp [pairs] at e
  | x :: xs, y :: ys, 0, d, e => by
    unfold pairs at e
    simp at e
    subst e
    exact ⟨x, y, rfl, rfl, rfl⟩
  | x :: xs, y :: ys, i + 1, d, e => by
    unfold pairs at e
    obtain ⟨x', y', q1, q2, q3⟩ := pairs_get (i := i) (d := d) (by simpa using e)
    exact ⟨x', y', by simpa using q1, by simpa using q2, q3⟩
theorem pairs_len : ∀ (xs ys : List D), (pairs xs ys).length = min xs.length ys.length
  | [], _ => by simp [pairs]
  | _ :: _, [] => by simp [pairs]
  | x :: xs, y :: ys => by
    unfold pairs
    rw [List.length_cons, pairs_len xs ys, List.length_cons, List.length_cons]
    omega
theorem enumD_len (ds : List D) : (enumD ds).length = ds.length := by
  unfold enumD
  rw [pairs_len, List.length_map, List.length_range, Nat.min_self]
theorem enumD_get {ds : List D} {i : Nat} {d : D} (e : (enumD ds)[i]? = some d) : ∃ y, ds[i]? = some y ∧ d = .tuple [.int (i : Nat), y] := by
  unfold enumD at e
  obtain ⟨x, y, q1, q2, q3⟩ := pairs_get e
  have hi := (List.getElem?_eq_some_iff.mp q2).1
  rw [List.getElem?_map, List.getElem?_range hi] at q1
  cases q1
  exact ⟨y, q2, q3⟩
theorem wk_enum {a : Addr} {xs : List V} {ds : List D} (hl : xs.length = ds.length) : Wk K (Ite K a) (enumD ds) (AL a xs ds) where
  go := fun i H L hi l => by rw [enumD_len] at hi; exact ⟨xs, xs[i]'(by omega), al_at l, List.getElem?_eq_getElem (by omega)⟩
  stop := fun H L l => ⟨xs, al_at l, by rw [enumD_len]; omega⟩
  yld := fun i H v H' L d e l y => by
    obtain ⟨T, x, rfl, hT, rfl, y⟩ := y
    obtain ⟨z, e1, rfl⟩ := enumD_get e
    obtain ⟨x', hx, m⟩ := zip_get hl e1
    have := y xs (al_at l)
    rw [hx] at this; cases this
    exact live_pair ((l.again (List.mem_append_left _ (List.mem_cons_of_mem _ m))).scal rfl) hT
theorem wk_enumT {a : Addr} {xs : List V} {ds : List D} (hl : xs.length = ds.length) : Wk K (IteT K a) (enumD ds) (AT a xs ds) where
  go := fun i H L hi l => by rw [enumD_len] at hi; exact ⟨xs, xs[i]'(by omega), at_at l, List.getElem?_eq_getElem (by omega)⟩
  stop := fun H L l => ⟨xs, at_at l, by rw [enumD_len]; omega⟩
  yld := fun i H v H' L d e l y => by
    obtain ⟨T, x, rfl, hT, rfl, y⟩ := y
    obtain ⟨z, e1, rfl⟩ := enumD_get e
    obtain ⟨x', hx, m⟩ := zip_get hl e1
    have := y xs (at_at l)
    rw [hx] at this; cases this
    exact live_pair ((l.again (List.mem_append_left _ (List.mem_cons_of_mem _ m))).scal rfl) hT
abbrev AB (t : Bool) (a : Addr) (xs : List V) (ds : List D) : List (V × Vl) := (.ref a, if t then .pinT xs else .pinL xs) :: xs.zip (ds.map Vl.fz)
theorem ab_at {t : Bool} {a : Addr} {xs : List V} {H : Hp} {L : List (V × Vl)} (l : Live K H L) (m : (.ref a, if t then Vl.pinT xs else Vl.pinL xs) ∈ L) : sqB t K H a xs := by
  cases t
  · exact l.pinnedL m
  · exact l.pinnedT m
theorem wk_zipM {t u : Bool} {a b : Addr} {xs ys : List V} {ds es : List D} (hl : xs.length = ds.length) (hl2 : ys.length = es.length) : Wk K (ItzM K t u a b) (pairs ds es) (AB t a xs ds ++ AB u b ys es) where
  go := fun i H L hi l => by
    rw [pairs_len] at hi
    have q1 : sqB t K H a xs := ab_at l (by simp)
    have q2 : sqB u K H b ys := ab_at l (by simp)
    exact ⟨xs, ys, xs[i]'(by omega), ys[i]'(by omega), q1, q2, List.getElem?_eq_getElem (by omega), List.getElem?_eq_getElem (by omega)⟩
  stop := fun H L l => by
    have q1 : sqB t K H a xs := ab_at l (by simp)
    have q2 : sqB u K H b ys := ab_at l (by simp)
    refine ⟨xs, ys, q1, q2, ?_⟩
    rw [pairs_len]
    omega
  yld := fun i H v H' L d e l y => by
    obtain ⟨T, x, y', rfl, hT, rfl, y1, y2⟩ := y
    have q1 : sqB t K H a xs := ab_at l (by simp)
    have q2 : sqB u K H b ys := ab_at l (by simp)
    obtain ⟨d1, d2, e1, e2, rfl⟩ := pairs_get e
    obtain ⟨x1, hx1, m1⟩ := zip_get hl e1
    obtain ⟨x2, hx2, m2⟩ := zip_get hl2 e2
    have := y1 xs q1
    rw [hx1] at this; cases this
    have := y2 ys q2
    rw [hx2] at this; cases this
    have l1 := l.again (d := d2) (List.mem_append_left _ (List.mem_append_right _ (List.mem_cons_of_mem _ m2)))
    exact live_pair (l1.again (d := d1) (List.mem_cons_of_mem _ (List.mem_append_left _ (List.mem_append_left _ (List.mem_cons_of_mem _ m1))))) hT
end

/-! ### what is walked -/
def tI (X : Cx) (G : Fs) (it : It) : TI := fun σ H R => ∃ fr L ds fr', SlOk σ fr ∧ Live X.K H (slots σ fr ++ L) ∧ its G it fr = some (ds, fr') ∧
  ∀ J H' A, SlOk σ fr' → Live X.K H' (A ++ (slots σ fr' ++ L)) → Wk X.K J ds A → R J H'
section
variable {X : Cx} {G : Fs} {tg a b e : Expr} {i j : E} {pos p : Pos}
theorem pi_mono {t t' : TI} (h : PI X tg e t) (m : ∀ σ H R, t' σ H R → t σ H R) : PI X tg e t' := ⟨fun pins s σ H R hI hq => h.run pins s σ H R hI (m σ H R hq)⟩
theorem asD {x : Vl} {H : Hp} {v : V} {L : List (V × Vl)} {K : PySem.W.Frag} (hx : x.own = true) (l : Live K H ((v, x) :: L)) : Live K H ((v, .fz x.strip) :: L) := l.freeze hx
theorem pin_list {K : PySem.W.Frag} {H : Hp} {v : V} {ds : List D} {L : List (V × Vl)} (l : Live K H ((v, .fz (.list ds)) :: L)) : ∃ a xs, v = .ref a ∧ xs.length = ds.length ∧ SqL K H a xs ∧ Live K H (AL a xs ds ++ L) := by
  obtain ⟨a, xs, rfl, h1, h2⟩ := l.pinL
  exact ⟨a, xs, rfl, h1, h2.pinnedL List.mem_cons_self, h2⟩
theorem pin_tup {K : PySem.W.Frag} {H : Hp} {v : V} {ds : List D} {L : List (V × Vl)} (l : Live K H ((v, .fz (.tuple ds)) :: L)) : ∃ a xs, v = .ref a ∧ xs.length = ds.length ∧ SqT K H a xs ∧ Live K H (AT a xs ds ++ L) := by
  obtain ⟨a, xs, rfl, h1, h2⟩ := l.pinT
  exact ⟨a, xs, rfl, h1, h2.pinnedT List.mem_cons_self, h2⟩
def seqT (t : Bool) (ds : List D) : D := if t then .tuple ds else .list ds
theorem pin_B {K : PySem.W.Frag} {H : Hp} {v : V} {t : Bool} {ds : List D} {L : List (V × Vl)} (l : Live K H ((v, .fz (seqT t ds)) :: L)) : ∃ a xs, v = .ref a ∧ xs.length = ds.length ∧ sqB t K H a xs ∧ Live K H (AB t a xs ds ++ L) := by
  cases t
  · exact pin_list l
  · exact pin_tup l
theorem i_li (he : PE X e (tE X G i)) : PI X tg e (tI X G (.li i)) := by
  refine ⟨fun pins s σ H R I h => ?_⟩
  obtain ⟨fr, L, ds, fr', ok, l, ee, q⟩ := h
  unfold its at ee
  obtain ⟨⟨p1, f1⟩, e1, ee⟩ := bnd ee
  obtain ⟨⟨x, f2⟩, e2, ee⟩ := bnd ee
  have goL : ∀ ds : List D, x.strip = .list ds → (∀ J H' A, SlOk σ f2 → Live X.K H' (A ++ (slots σ f2 ++ L)) → Wk X.K J ds A → R J H') → wpAny (model X.prog X.w) X.A (eval e X.env) (fun v s1 => wpAny (model X.prog X.w) X.A (pyIter v) (PIE X pins σ tg R) X.xe s1) X.xe s := fun ds hx q => by
    refine (pi_list he).run pins s σ H R I ⟨fr, L, p1, f1, ok, l, e1, fun v H1 ok1 o => ?_⟩
    obtain ⟨ok2, l2⟩ := o.force ok1 e2
    have l3 := asD (force_own e2) l2
    rw [hx] at l3
    obtain ⟨a, xs, rfl, hl, sq, l4⟩ := pin_list l3
    exact ⟨a, rfl, ⟨xs, sq⟩, q _ _ _ ok2 l4 (wk_list hl)⟩
  dsimp only at ee
  split at ee
  · cases ee
    exact goL _ rfl q
  · cases ee
    refine (pi_tup he).run pins s σ H R I ⟨fr, L, p1, f1, ok, l, e1, fun v H1 ok1 o => ?_⟩
    obtain ⟨ok2, l2⟩ := o.force ok1 e2
    obtain ⟨a, xs, rfl, hl, sq, l4⟩ := pin_tup l2
    exact ⟨a, rfl, ⟨xs, sq⟩, q _ _ _ ok2 l4 (wk_tup hl)⟩
  · cases ee
    exact goL _ rfl q
  · cases ee
/-- one operand, handed on -/
theorem one_as {σ : St} {H : Hp} {Q : List V → Hp → Prop} {fr f1 f2 : Fm} {L : List (V × Vl)} {p : Pd} {x : Vl} (ok : SlOk σ fr) (l : Live X.K H (slots σ fr ++ L)) (e1 : ev G i fr = some (p, f1)) (e2 : force p f1 = some (x, f2))
    (q : ∀ v H', SlOk σ f2 → Live X.K H' ((v, x) :: (slots σ f2 ++ L)) → Q [v] H') : tAs X G [i] σ H Q := by
  refine ⟨fr, L, [p], f1, ok, l, ?_, fun vs H1 ok1 o => ?_⟩
  · unfold evs evs
    rw [e1]
    rfl
  · obtain ⟨pk, lv⟩ := o
    cases pk with
    | cons k1 k2 =>
      cases k2
      have o1 : Hold X.K σ f1 H1 _ [p] L := ⟨.cons k1 .nil, lv⟩
      obtain ⟨ok2, l2⟩ := o1.force ok1 e2
      exact q _ H1 ok2 l2
theorem smallI_iff {n : Int} (h : smallI n = true) : -(2 ^ 62) ≤ n ∧ n < 2 ^ 62 := by
  unfold smallI at h
  simp only [Bool.and_eq_true, decide_eq_true_eq] at h
  exact h
theorem i_rg1 (hg : Gl X "range") (hm : X.mg "range" = none) (ha : PE X a (tE X G i)) (hs : starEach [a] X.env = [(false, eval a X.env)]) : PI X tg (.Call (.Name "range" p) [a] [] pos) (tI X G (.rg1 i)) := by
  refine ⟨fun pins s σ H R I h => ?_⟩
  obtain ⟨fr, L, ds, fr', ok, l, ee, q⟩ := h
  unfold its at ee
  obtain ⟨⟨p1, f1⟩, e1, ee⟩ := bnd ee
  refine (pi_range1 hg hm (a_cons ha a_nil hs) hs).run pins s σ H R I ⟨fr, L, [p1], f1, ok, l, by unfold evs evs; rw [e1]; rfl, fun vs H1 ok1 o => ?_⟩
  dsimp only at ee
  split at ee
  · rename_i n hn
    obtain ⟨c, ee⟩ := ite_some ee
    cases ee
    obtain ⟨pk, lv⟩ := o
    cases pk with
    | cons k1 k2 =>
      cases k2
      obtain ⟨F, h1⟩ := (Hold.look1 ⟨.cons k1 .nil, lv⟩ hn).one
      obtain ⟨c1, c2⟩ := smallI_iff c
      refine ⟨n, by rw [h1.int], c1, c2, ?_⟩
      have wk := wk_range (K := X.K) (a := 0) (b := n)
      rw [Int.sub_zero] at wk
      exact q _ H1 [] ok1 (Hold.live ⟨.cons k1 .nil, lv⟩) wk
  · cases ee
theorem evs_two {fr f1 f2 : Fm} {p1 p2 : Pd} (e1 : ev G i fr = some (p1, f1)) (e2 : ev G j f1 = some (p2, f2)) : evs G [i, j] fr = some ([p1, p2], f2) := by
  unfold evs evs evs
  rw [e1]
  show ((ev G j f1).bind _).map _ = _
  rw [e2]
  rfl
theorem i_rg2 (hg : Gl X "range") (hm : X.mg "range" = none) (ha : PE X a (tE X G i)) (hb : PE X b (tE X G j)) (hs : starEach [a, b] X.env = [(false, eval a X.env), (false, eval b X.env)]) (hs2 : starEach [b] X.env = [(false, eval b X.env)]) :
    PI X tg (.Call (.Name "range" p) [a, b] [] pos) (tI X G (.rg2 i j)) := by
  refine ⟨fun pins s σ H R I h => ?_⟩
  obtain ⟨fr, L, ds, fr', ok, l, ee, q⟩ := h
  unfold its at ee
  obtain ⟨⟨p1, f1⟩, e1, ee⟩ := bnd ee
  obtain ⟨⟨p2, f2⟩, e2, ee⟩ := bnd ee
  refine (pi_range2 hg hm (a_cons ha (a_cons hb a_nil hs2) (by rw [hs, hs2])) hs hs2).run pins s σ H R I ⟨fr, L, [p1, p2], f2, ok, l, evs_two e1 e2, fun vs H1 ok1 o => ?_⟩
  dsimp only at ee
  split at ee
  · rename_i m n hn1 hn2
    obtain ⟨c, ee⟩ := ite_some ee
    cases ee
    simp only [Bool.and_eq_true] at c
    obtain ⟨pk, lv⟩ := o
    cases pk with
    | cons k1 k2 =>
      cases k2 with
      | cons k2 k3 =>
        cases k3
        have o' : Hold X.K σ fr' H1 _ [p1, p2] L := ⟨.cons k1 (.cons k2 .nil), lv⟩
        obtain ⟨F, h1, h2⟩ := (o'.look2 hn1 hn2).pair
        obtain ⟨c1, c2⟩ := smallI_iff c.1
        obtain ⟨c3, c4⟩ := smallI_iff c.2
        exact ⟨m, n, by rw [h1.int, h2.int], ⟨c1, c2, c3, c4⟩, q _ H1 [] ok1 o'.live wk_range⟩
  · cases ee
theorem i_en {elts : List Expr} {kk : Nat} {tpos : Pos} (hg : Gl X "enumerate") (hm : X.mg "enumerate" = none) (ha : PE X a (tE X G i)) (hs : starEach [a] X.env = [(false, eval a X.env)]) : PI X (.Tuple elts kk tpos) (.Call (.Name "enumerate" p) [a] [] pos) (tI X G (.en i)) := by
  refine ⟨fun pins s σ H R I h => ?_⟩
  obtain ⟨fr, L, ds, fr', ok, l, ee, q⟩ := h
  unfold its at ee
  obtain ⟨⟨p1, f1⟩, e1, ee⟩ := bnd ee
  obtain ⟨⟨x, f2⟩, e2, ee⟩ := bnd ee
  have goL : ∀ es : List D, x.strip = .list es → (∀ J H' A, SlOk σ f2 → Live X.K H' (A ++ (slots σ f2 ++ L)) → Wk X.K J (enumD es) A → R J H') →
      wpAny (model X.prog X.w) X.A (eval (.Call (.Name "enumerate" p) [a] [] pos) X.env) (fun v s1 => wpAny (model X.prog X.w) X.A (pyIter v) (PIE X pins σ (.Tuple elts kk tpos) R) X.xe s1) X.xe s := fun es hx q => by
    refine (pi_enum hg hm (a_cons ha a_nil hs) hs).run pins s σ H R I (one_as ok l e1 e2 fun v H1 ok1 l1 => ?_)
    have l3 := asD (force_own e2) l1
    rw [hx] at l3
    obtain ⟨b, xs, rfl, hl, sq, l4⟩ := pin_list l3
    exact ⟨b, xs, rfl, sq, q _ _ _ ok1 l4 (wk_enum hl)⟩
  dsimp only at ee
  split at ee
  · cases ee
    exact goL _ rfl q
  · cases ee
    refine (pi_enumT hg hm (a_cons ha a_nil hs) hs).run pins s σ H R I (one_as ok l e1 e2 fun v H1 ok1 l1 => ?_)
    obtain ⟨b, xs, rfl, hl, sq, l4⟩ := pin_tup l1
    exact ⟨b, xs, rfl, sq, q _ _ _ ok1 l4 (wk_enumT hl)⟩
  · cases ee
    exact goL _ rfl q
  · cases ee
theorem i_zp {elts : List Expr} {kk : Nat} {tpos : Pos} (hg : Gl X "zip") (hm : X.mg "zip" = none) (ha : PE X a (tE X G i)) (hb : PE X b (tE X G j)) (hs : starEach [a, b] X.env = (false, eval a X.env) :: starEach [b] X.env) (hs2 : starEach [b] X.env = [(false, eval b X.env)])
    (hpl : (backTo pos (starEach [b] X.env)).any (·.1) = false) : PI X (.Tuple elts kk tpos) (.Call (.Name "zip" p) [a, b] [] pos) (tI X G (.zp i j)) := by
  refine pi_mono (pi_zipM hg hm (g_cons ha (g_cons hb g_nil hs2) hs) hs hpl) fun σ H R h => ?_
  obtain ⟨fr, L, ds, fr', ok, l, ee, q⟩ := h
  unfold its at ee
  obtain ⟨⟨p1, f1⟩, e1, ee⟩ := bnd ee
  obtain ⟨⟨x, f2⟩, e2, ee⟩ := bnd ee
  obtain ⟨⟨p2, f3⟩, e3, ee⟩ := bnd ee
  obtain ⟨⟨y, f4⟩, e4, ee⟩ := bnd ee
  refine ⟨fr, L, [x, y], f4, ok, l, ?_, fun vs H1 ok1 hl l1 => ?_⟩
  · unfold gens
    rw [e1]
    show ((force p1 f1).bind _) = _
    rw [e2]
    show ((gens G [j] f2).map _) = _
    unfold gens gens
    rw [e3]
    show (((force p2 f3).bind _)).map _ = _
    rw [e4]
    rfl
  · match vs, hl with
    | [v, w], _ =>
      have l1 : Live X.K H1 ((v, x) :: (w, y) :: (slots σ f4 ++ L)) := l1
      have l2 := l1.freeze (force_own e2)
      have l3 : Live X.K H1 ((w, y) :: (v, .fz x.strip) :: (slots σ f4 ++ L)) := l2.perm (List.Perm.swap _ _ _)
      have l4 := l3.freeze (force_own e4)
      have key : ∀ (t u : Bool) (xs ys : List D), x.strip = seqT t xs → y.strip = seqT u ys → ds = pairs xs ys → fr' = f4 → ∃ (t u : Bool) (a b : Addr) (zs ws : List V), [v, w] = [.ref a, .ref b] ∧ sqB t X.K H1 a zs ∧ sqB u X.K H1 b ws ∧ R (ItzM X.K t u a b) H1 := by
        intro t u xs ys hx hy hd hf
        subst hd hf
        rw [hx, hy] at l4
        obtain ⟨b1, ws, rfl, hl1, sq1, l5⟩ := pin_B l4
        have l6 : Live X.K H1 ((v, .fz (seqT t xs)) :: (AB u b1 ws ys ++ (slots σ fr' ++ L))) := l5.perm (zip_perm_mid _ _ _).symm
        obtain ⟨a1, zs, rfl, hl2, sq2, l7⟩ := pin_B l6
        refine ⟨t, u, a1, b1, zs, ws, rfl, sq2, sq1, q _ _ _ ok1 ?_ (wk_zipM hl2 hl1)⟩
        rw [List.append_assoc]
        exact l7
      dsimp only at ee
      split at ee
      · rename_i xs ys hx hy
        cases ee
        exact key false false xs ys hx hy rfl rfl
      · rename_i xs ys hx hy
        cases ee
        exact key true true xs ys hx hy rfl rfl
      · rename_i xs ys hx hy
        cases ee
        exact key true false xs ys hx hy rfl rfl
      · rename_i xs ys hx hy
        cases ee
        exact key false true xs ys hx hy rfl rfl
      · cases ee
end
end Tr

set_option Elab.async false
set_option linter.all false
set_option maxRecDepth 100000
set_option maxHeartbeats 1000000
/-! Targets, comprehensions. -/
namespace Tr
open PySem PySem.Spec PyProof.Rows L2
mutual
def Tg.ixs : Tg → List Nat
  | .n i => [i]
  | .t ts => ixsL ts
def ixsL : List Tg → List Nat
  | [] => []
  | t :: ts => t.ixs ++ ixsL ts
end
/-- what a store leaves as it was -/
def Keep (lk ix : List Nat) (σ σ' : St) : Prop := (∀ i, i ∉ ix → σ'[i]? = σ[i]?) ∧ ∀ i ∈ lk, σ'[i]? = σ[i]?
theorem Keep.refl {lk ix : List Nat} {σ : St} : Keep lk ix σ σ := ⟨fun _ _ => rfl, fun _ _ => rfl⟩
theorem Keep.trans {lk ix ix2 : List Nat} {σ σ1 σ2 : St} (h : Keep lk ix σ σ1) (h2 : Keep lk ix2 σ1 σ2) : Keep lk (ix ++ ix2) σ σ2 :=
  ⟨fun i hi => by rw [List.mem_append, not_or] at hi; exact (h2.1 i hi.2).trans (h.1 i hi.1), fun i hi => (h2.2 i hi).trans (h.2 i hi)⟩
def gT (K : PySem.W.Frag) (lk : List Nat) (t : Tg) : TG := fun v σ H Q => ∃ fr L x fr', SlOk σ fr ∧ Live K H ((v, x) :: (slots σ fr ++ L)) ∧ putTg lk t x fr = some fr' ∧
  ∀ σ', SlOk σ' fr' → Keep lk t.ixs σ σ' → Live K H (slots σ' fr' ++ L) → Q σ' H
def gTs (K : PySem.W.Frag) (lk : List Nat) (ts : List Tg) : TGs := fun vs σ H Q => ∃ fr L ds fr', vs.length = ds.length ∧ SlOk σ fr ∧ Live K H (vs.zip (ds.map Vl.fz) ++ (slots σ fr ++ L)) ∧ putTgs lk ts ds fr = some fr' ∧
  ∀ σ', SlOk σ' fr' → Keep lk (ixsL ts) σ σ' → Live K H (slots σ' fr' ++ L) → Q σ' H
section
variable {X : Cx} {G : Fs} {tg : Expr} {es : List Expr} {pos : Pos} {lk : List Nat}
theorem pg_mono {t t' : TG} (h : PG X tg t) (m : ∀ v σ H Q, t' v σ H Q → t v σ H Q) : PG X tg t' := ⟨fun pins s σ H v u Q hI r hq => h.run pins s σ H v u Q hI r (m v σ H Q hq)⟩
theorem pgs_mono {t t' : TGs} (h : PGs X es t) (m : ∀ v σ H Q, t' v σ H Q → t v σ H Q) : PGs X es t' := ⟨fun pins s σ H v u Q hI r hq => h.run pins s σ H v u Q hI r (m v σ H Q hq)⟩
theorem putTg_len {lk : List Nat} {i : Nat} {x : Vl} {fr fr' : Fm} (h : putTg lk (.n i) x fr = some fr') : i ∉ lk ∧ i < fr.length ∧ fr' = fr.set i (some x) := by
  unfold putTg at h
  split at h
  · cases h
  · rename_i c
    cases h
    simp only [Bool.or_eq_true, decide_eq_true_eq, not_or, List.contains_iff_mem] at c
    exact ⟨c.1, by omega, rfl⟩
theorem set_slots {K : PySem.W.Frag} {σ : St} {fr : Fm} {H : Hp} {L : List (V × Vl)} {v : V} {x : Vl} {i : Nat} (ok : SlOk σ fr) (hi : i < fr.length) (l : Live K H ((v, x) :: (slots σ fr ++ L))) : Live K H (slots (σ.set i (some v)) (fr.set i (some x)) ++ L) := by
  have h2 : Live K H ((v, x) :: (slots σ (fr.set i none) ++ L)) := by
    by_cases e : ∃ y, fr[i]? = some (some y)
    · obtain ⟨y, hy⟩ := e
      obtain ⟨w, hw⟩ := ok.has i y hy
      have l1 : Live K H ((w, y) :: ((v, x) :: (slots σ (fr.set i none) ++ L))) := by
        refine l.perm ?_
        refine (List.Perm.cons _ (List.Perm.append_right L (slots_at hw hy))).trans ?_
        exact List.Perm.swap _ _ _
      exact l1.tail
    · have hn : fr[i]? = some none := by
        have hg := List.getElem?_eq_getElem hi
        cases hc : fr[i] with
        | none => rw [hg, hc]
        | some y => exact (e ⟨y, by rw [hg, hc]⟩).elim
      rw [slots_none hn]
      exact l
  refine h2.perm ?_
  have := slots_set (σ := σ) (fr := fr) (v := v) (x := x) ok.len hi
  exact (List.Perm.append_right L this).symm
theorem g_n {i : Nat} (h : PG X tg (gName i)) : PG X tg (gT X.K lk (.n i)) := by
  refine pg_mono h fun v σ H Q q => ?_
  obtain ⟨fr, L, x, fr', ok, l, e, q⟩ := q
  obtain ⟨h1, h2, rfl⟩ := putTg_len e
  refine q _ (ok.set h2) ⟨fun j hj => ?_, fun j hj => ?_⟩ (set_slots ok h2 l)
  · have : i ≠ j := fun z => hj (by subst z; unfold Tg.ixs; exact List.mem_cons_self)
    rw [List.getElem?_set_ne this]
  · have : i ≠ j := fun z => h1 (z ▸ hj)
    rw [List.getElem?_set_ne this]
theorem gs_nil : PGs X [] (gTs X.K lk []) := by
  refine pgs_mono pgs_nil fun vs σ H Q q => ?_
  obtain ⟨fr, L, ds, fr', hl, ok, l, e, q⟩ := q
  cases ds with
  | nil =>
    cases vs with
    | nil =>
      unfold putTgs at e
      cases e
      exact ⟨rfl, q σ ok Keep.refl l⟩
    | cons _ _ => cases hl
  | cons _ _ => unfold putTgs at e; cases e
theorem gs_cons {t : Tg} {ts : List Tg} (h1 : PG X tg (gT X.K lk t)) (h2 : PGs X es (gTs X.K lk ts)) (hs : (assignEach (tg :: es) X.env).map (·.2) = assign tg X.env :: (assignEach es X.env).map (·.2)) : PGs X (tg :: es) (gTs X.K lk (t :: ts)) := by
  refine pgs_mono (pgs_cons h1 h2 hs) fun vs σ H Q q => ?_
  obtain ⟨fr, L, ds, fr', hl, ok, l, e, q⟩ := q
  cases ds with
  | nil => unfold putTgs at e; cases e
  | cons d ds =>
    cases vs with
    | nil => cases hl
    | cons v vs =>
      unfold putTgs at e
      obtain ⟨f1, e1, e2⟩ := bnd e
      refine ⟨v, vs, rfl, ?_⟩
      refine ⟨fr, vs.zip (ds.map Vl.fz) ++ L, .fz d, f1, ok, ?_, e1, fun σ1 ok1 k1 l1 => ?_⟩
      · have l0 : Live X.K H ((v, .fz d) :: (vs.zip (ds.map Vl.fz) ++ (slots σ fr ++ L))) := l
        exact l0.perm (List.Perm.cons _ (perm_mid _ _ _))
      · refine ⟨f1, L, ds, fr', by simpa using hl, ok1, l1.perm (perm_mid _ _ _), e2, fun σ2 ok2 k2 l2 => q σ2 ok2 ?_ l2⟩
        have := k1.trans k2
        unfold ixsL
        exact this
theorem g_t {ts : List Tg} {k : Nat} (hc : X.calm = true) (h : PGs X es (gTs X.K lk ts)) (hlen : es.length = ts.length) (hn : (assignEach es X.env).length = es.length) (hst : (assignEach es X.env).findIdx? (·.1) = none) : PG X (.Tuple es k pos) (gT X.K lk (.t ts)) := by
  refine pg_mono (pg_tup hc h hn hst) fun v σ H Q q => ?_
  obtain ⟨fr, L, x, fr', ok, l, e, q⟩ := q
  have e' : ∃ ds, x = .fz (.tuple ds) ∧ putTgs lk ts ds fr = some fr' := by
    cases x with
    | fz d =>
      cases d with
      | tuple ds => exact ⟨ds, rfl, by unfold putTg at e; exact e⟩
      | _ => unfold putTg at e; cases e
    | _ => unfold putTg at e; cases e
  obtain ⟨ds, rfl, e⟩ := e'
  obtain ⟨a, xs, rfl, hl, sq, l1⟩ := pin_tup l
  have plen : ∀ {ts : List Tg} {ds : List D} {fr fr' : Fm}, putTgs lk ts ds fr = some fr' → ts.length = ds.length := by
    intro ts
    induction ts with
    | nil =>
      intro ds fr fr' h
      cases ds with
      | nil => rfl
      | cons _ _ => unfold putTgs at h; cases h
    | cons t ts ih =>
      intro ds fr fr' h
      cases ds with
      | nil => unfold putTgs at h; cases h
      | cons d ds =>
        unfold putTgs at h
        obtain ⟨f1, e1, e2⟩ := bnd h
        rw [List.length_cons, List.length_cons, ih e2]
  refine ⟨a, xs, rfl, sq, by rw [hl, hlen, plen e], ?_⟩
  exact ⟨fr, L, ds, fr', hl, ok, l1.tail, e, fun σ' ok' k' l' => q σ' ok' (by unfold Tg.ixs at *; exact k') l'⟩

/-! ### the block's slots -/
theorem wipe_at {σ : St} {vs : List Nat} {i : Nat} : (L2.wipe σ vs)[i]? = if vs.contains i then σ[i]?.map (fun _ => none) else σ[i]? := by
  induction vs with
  | nil => simp [L2.wipe]
  | cons v vs ih =>
    unfold L2.wipe
    by_cases e : v = i
    · subst e
      have hc : (v :: vs).contains v = true := by simp
      rw [hc, if_pos rfl]
      by_cases hv : v < σ.length
      · rw [List.getElem?_set_self (by rw [wipe_length]; exact hv), List.getElem?_eq_getElem hv]
        rfl
      · rw [List.getElem?_eq_none (by rw [List.length_set, wipe_length]; omega), List.getElem?_eq_none (by omega)]
        rfl
    · rw [List.getElem?_set_ne e, ih]
      have : (v :: vs).contains i = vs.contains i := by
        rw [List.contains_cons]
        have : (i == v) = false := by simp; exact fun z => e z.symm
        rw [this, Bool.false_or]
      rw [this]
theorem wipeP_at {α : Type} {ws : List Nat} : ∀ {xs : List (Option α)} {k i : Nat}, (wipeP ws k xs)[i]? = if ws.contains (k + i) then xs[i]?.map (fun _ => none) else xs[i]?
  | [], k, i => by simp [wipeP]
  | x :: xs, k, 0 => by
    unfold wipeP
    simp only [List.getElem?_cons_zero, Nat.add_zero]
    cases ws.contains k <;> rfl
  | x :: xs, k, i + 1 => by
    unfold wipeP
    simp only [List.getElem?_cons_succ]
    rw [wipeP_at (xs := xs) (k := k + 1) (i := i)]
    have : k + 1 + i = k + (i + 1) := by omega
    rw [this]
theorem wipe_eq {σ : St} {vs : List Nat} : L2.wipe σ vs = wipeP vs 0 σ := by
  refine List.ext_getElem? fun i => ?_
  rw [wipe_at, wipeP_at, Nat.zero_add]
theorem mix_self {α : Type} {ws : List Nat} : ∀ {xs : List (Option α)} {k : Nat}, mixP ws k xs xs = xs
  | [], _ => rfl
  | x :: xs, k => by
    unfold mixP
    rw [mix_self]
    split <;> rfl
theorem slots_mix {ws : List Nat} : ∀ {σ : St} {old g : Fm} {k : Nat}, old.length = g.length → (slots σ (mixP ws k old g)).Perm (slots σ (keepP ws k old) ++ slots (wipeP ws k σ) (wipeP ws k g))
  | [], old, g, k, _ => by
    cases old <;> cases g <;> simp [slots, mixP, keepP, wipeP]
  | s :: σ, [], [], k, _ => by simp [slots, mixP, keepP, wipeP]
  | s :: σ, [], _ :: _, k, e => by cases e
  | s :: σ, _ :: _, [], k, e => by cases e
  | s :: σ, a :: old, b :: g, k, e => by
    have ih := slots_mix (ws := ws) (σ := σ) (old := old) (g := g) (k := k + 1) (by simpa using e)
    unfold mixP keepP wipeP
    cases ws.contains k with
    | true =>
      cases s with
      | none =>
        cases a <;> cases b <;> simpa [slots] using ih
      | some v =>
        cases a with
        | none => cases b <;> simpa [slots] using ih
        | some x => cases b <;> simpa [slots] using ih.cons (v, x)
    | false =>
      cases s with
      | none => cases a <;> cases b <;> simpa [slots] using ih
      | some v =>
        cases b with
        | none => cases a <;> simpa [slots] using ih
        | some y =>
          have := (ih.cons (v, y)).trans List.perm_middle.symm
          cases a <;> simpa [slots] using this
theorem wipeP_len {α : Type} {ws : List Nat} : ∀ {xs : List (Option α)} {k : Nat}, (wipeP ws k xs).length = xs.length
  | [], _ => rfl
  | x :: xs, k => by unfold wipeP; rw [List.length_cons, List.length_cons, wipeP_len]
theorem mixP_len {α : Type} {ws : List Nat} : ∀ {xs ys : List (Option α)} {k : Nat}, xs.length = ys.length → (mixP ws k xs ys).length = ys.length
  | [], [], _, _ => rfl
  | [], _ :: _, _, e => by cases e
  | _ :: _, [], _, e => by cases e
  | x :: xs, y :: ys, k, e => by unfold mixP; rw [List.length_cons, List.length_cons, mixP_len (by simpa using e)]
theorem mixP_at {α : Type} {ws : List Nat} : ∀ {xs ys : List (Option α)} {k i : Nat}, xs.length = ys.length → (mixP ws k xs ys)[i]? = if ws.contains (k + i) then xs[i]? else ys[i]?
  | [], [], k, i, _ => by simp [mixP]
  | [], _ :: _, _, _, e => by cases e
  | _ :: _, [], _, _, e => by cases e
  | x :: xs, y :: ys, k, 0, e => by
    unfold mixP
    simp only [List.getElem?_cons_zero, Nat.add_zero]
    cases ws.contains k <;> rfl
  | x :: xs, y :: ys, k, i + 1, e => by
    unfold mixP
    simp only [List.getElem?_cons_succ]
    rw [mixP_at (by simpa using e)]
    have : k + 1 + i = k + (i + 1) := by omega
    rw [this]
theorem SlOk.wipe {σ : St} {fr : Fm} (h : SlOk σ fr) (ws : List Nat) : SlOk (L2.wipe σ ws) (wipeF fr ws) := by
  rw [wipe_eq]
  refine ⟨by unfold wipeF; rw [wipeP_len, wipeP_len]; exact h.len, fun i x e => ?_⟩
  unfold wipeF at e
  rw [wipeP_at] at e ⊢
  split at e
  · rename_i hc
    rw [Option.map_eq_some_iff] at e
    obtain ⟨_, _, e⟩ := e
    cases e
  · rename_i hc
    rw [if_neg hc]
    exact h.has i x e
theorem SlOk.unwipe {σ : St} {fr g : Fm} {ws : List Nat} (h : SlOk σ fr) (h2 : SlOk (L2.wipe σ ws) (wipeF g ws)) (hl : fr.length = g.length) : SlOk σ (Tr.unwipe fr g ws) := by
  rw [wipe_eq] at h2
  refine ⟨by unfold Tr.unwipe; rw [mixP_len hl, h.len, hl], fun i x e => ?_⟩
  unfold Tr.unwipe at e
  rw [mixP_at hl, Nat.zero_add] at e
  split at e
  · exact h.has i x e
  · rename_i hc
    have := h2.has i x (by unfold wipeF; rw [wipeP_at, Nat.zero_add, if_neg hc]; exact e)
    obtain ⟨v, hv⟩ := this
    rw [wipeP_at, Nat.zero_add, if_neg hc] at hv
    exact ⟨v, hv⟩
theorem slots_split {σ : St} {fr : Fm} (ws : List Nat) : (slots σ fr).Perm (slots σ (keepP ws 0 fr) ++ slots (L2.wipe σ ws) (wipeF fr ws)) := by
  have := slots_mix (ws := ws) (σ := σ) (old := fr) (g := fr) (k := 0) rfl
  rw [mix_self] at this
  rw [wipe_eq]
  exact this
theorem slots_unwipe {σ : St} {fr g : Fm} (ws : List Nat) (hl : fr.length = g.length) : (slots σ (Tr.unwipe fr g ws)).Perm (slots σ (keepP ws 0 fr) ++ slots (L2.wipe σ ws) (wipeF g ws)) := by
  rw [wipe_eq]
  exact slots_mix hl
end
end Tr

set_option Elab.async false
set_option linter.all false
set_option maxRecDepth 100000
set_option maxHeartbeats 1000000
/-! Comprehensions. -/
namespace Tr
open PySem PySem.Spec PyProof.Rows L2
theorem putTg_flen : ∀ {n : Nat} {lk : List Nat}, (∀ {t : Tg} {x : Vl} {fr fr' : Fm}, sizeOf t ≤ n → putTg lk t x fr = some fr' → fr'.length = fr.length) ∧ (∀ {ts : List Tg} {ds : List D} {fr fr' : Fm}, sizeOf ts ≤ n → putTgs lk ts ds fr = some fr' → fr'.length = fr.length) := by
  intro n lk
  induction n with
  | zero =>
    refine ⟨fun {t x fr fr'} hs h => ?_, fun {ts ds fr fr'} hs h => ?_⟩
    · cases t <;> simp at hs
    · cases ts <;> simp at hs
  | succ n ih =>
    obtain ⟨ih1, ih2⟩ := ih
    refine ⟨fun {t x fr fr'} hs h => ?_, fun {ts ds fr fr'} hs h => ?_⟩
    · cases t with
      | n i =>
        obtain ⟨_, _, rfl⟩ := putTg_len h
        exact List.length_set
      | t ts =>
        simp at hs
        cases x with
        | fz d =>
          cases d with
          | tuple ds => unfold putTg at h; exact ih2 (by omega) h
          | _ => unfold putTg at h; cases h
        | _ => unfold putTg at h; cases h
    · cases ts with
      | nil =>
        cases ds with
        | nil => unfold putTgs at h; cases h; rfl
        | cons _ _ => unfold putTgs at h; cases h
      | cons t ts =>
        simp at hs
        cases ds with
        | nil => unfold putTgs at h; cases h
        | cons d ds =>
          unfold putTgs at h
          obtain ⟨f1, e1, e2⟩ := bnd h
          rw [ih2 (by omega) e2, ih1 (by omega) e1]
def turnC (G : Fs) (elt : E) (tg : Tg) (cond : Option E) (ws : List Nat) : D → Fm → R (Option Vl) := fun d fr1 =>
  (putTg [] tg (.fz d) (wipeF fr1 ws)).bind fun fr2 => (truO G cond fr2).bind fun t => if t.1 then (ev G elt t.2).bind fun p => (force p.1 p.2).map fun x => (some x.1, x.2) else some (none, t.2)
theorem ev_comp {G : Fs} {elt : E} {tg : Tg} {it : It} {cond : Option E} {ws : List Nat} {fr fr' : Fm} {p : Pd} (h : ev G (.comp elt tg it cond ws false) fr = some (p, fr')) :
    ∃ ds f1 xs f2, its G it fr = some (ds, f1) ∧ compN (turnC G elt tg cond ws) ds f1 = some (xs, f2) ∧ okSz xs.length = true ∧ p = .st (.ol (froz xs)) ∧ fr' = unwipe f1 f2 ws := by
  unfold ev at h
  obtain ⟨⟨ds, f1⟩, e1, h⟩ := bnd h
  obtain ⟨⟨xs, f2⟩, e2, h⟩ := bnd h
  obtain ⟨c, h⟩ := ite_o h
  rw [if_neg (by decide)] at h
  cases h
  exact ⟨ds, f1, xs, f2, e1, e2, c, rfl, rfl⟩
section
variable {X : Cx} {G : Fs} {e' : E} {tg' : Tg} {it : It} {cond : Option E} {ws : List Nat}
theorem comp_core {σ : St} {H : Hp} {Q : VK} (hws : ∀ i ∈ tg'.ixs, i ∈ ws) (h : tE X G (.comp e' tg' it cond ws false) σ H Q) : tLc (tI X G it) (gT X.K [] tg') (tB' X.K (truO G cond)) (tP X.K (ev G e')) ws σ H Q := by
  obtain ⟨fr, L, p, fr', ok, l, ee, q⟩ := h
  obtain ⟨ds, f1, xs, f2, e1, e2, sz, rfl, rfl⟩ := ev_comp ee
  refine ⟨fr, L, ds, f1, ok, l, e1, fun J H1 A ok1 l1 wk D hD => ?_⟩
  let SW : Fm → List (V × Vl) := fun g => slots (L2.wipe σ ws) (wipeF g ws)
  let W0 := slots σ (keepP ws 0 f1)
  let Pv : Nat → Hp → Prop := fun i H => ∃ (fi : Fm) (acc rest : List Vl), fi.length = f1.length ∧ SlOk (L2.wipe σ ws) (wipeF fi ws) ∧ Live X.K H ((.ref D, .ol (froz acc)) :: (A ++ (SW fi ++ (W0 ++ L)))) ∧
    compN (turnC G e' tg' cond ws) (ds.drop i) fi = some (rest, f2) ∧ xs = acc ++ rest
  refine ⟨fun i m H => m = ds.length - i ∧ i ≤ ds.length ∧ Pv i H, ⟨ds.length, by simp, Nat.zero_le _, f1, [], xs, rfl, ok1.wipe ws, ?_, e2, rfl⟩, ?_⟩
  · refine Live.newLst (vs := []) (ds := []) rfl (l1.perm ?_) hD
    refine List.Perm.append_left A ?_
    refine (List.Perm.append_right L (slots_split ws)).trans ?_
    show (W0 ++ SW f1 ++ L).Perm (SW f1 ++ (W0 ++ L))
    rw [List.append_assoc]
    exact perm_mid _ _ _
  · rintro i m H ⟨rfl, hi, fi, acc, rest, hlen, okw, lv, ec, ex⟩
    have lvA : Live X.K H (A ++ ((.ref D, .ol (froz acc)) :: (SW fi ++ (W0 ++ L)))) := lv.perm (zip_perm_mid _ _ _)
    by_cases hlt : i < ds.length
    · have hd : ds[i]? = some ds[i] := List.getElem?_eq_getElem hlt
      have hdrop : ds.drop i = ds[i] :: ds.drop (i + 1) := List.drop_eq_getElem_cons hlt
      rw [hdrop] at ec
      unfold compN at ec
      obtain ⟨⟨o, f3⟩, e3, ec⟩ := bnd ec
      obtain ⟨⟨rest', f4⟩, e4, ec⟩ := mpd ec
      have eff := (Prod.mk.inj ec).2
      have ers := (Prod.mk.inj ec).1
      dsimp only at eff ers
      subst eff
      unfold turnC at e3
      obtain ⟨g1, e5, e3⟩ := bnd e3
      obtain ⟨⟨b, g2⟩, e6, e3⟩ := bnd e3
      refine .inr ⟨wk.go i H _ hlt lvA, Pv (i + 1), fun H' p' => ⟨ds.length - (i + 1), by omega, rfl, hlt, p'⟩, fun x H' y => ?_⟩
      have l2 := wk.yld i H x H' _ _ hd lvA y
      let Rest := A ++ ((.ref D, .ol (froz acc)) :: (W0 ++ L))
      have l3 : Live X.K H' ((x, .fz ds[i]) :: (slots (L2.wipe σ ws) (wipeF fi ws) ++ Rest)) := by
        refine l2.perm (List.Perm.cons _ ?_)
        show (A ++ ((.ref D, .ol (froz acc)) :: (SW fi ++ (W0 ++ L)))).Perm (SW fi ++ (A ++ ((.ref D, .ol (froz acc)) :: (W0 ++ L))))
        refine List.Perm.trans ?_ (perm_mid A (SW fi) _)
        exact List.Perm.append_left A (zip_perm_mid _ _ _)
      refine ⟨wipeF fi ws, Rest, .fz ds[i], g1, okw, l3, e5, fun σ2 ok2 kp l4 => ?_⟩
      have len2 : σ2.length = σ.length := by
        rw [ok2.len, (putTg_flen (n := sizeOf tg') (lk := [])).1 (Nat.le_refl _) e5]
        unfold wipeF
        rw [wipeP_len, hlen, ← ok1.len]
      have wsame : L2.wipe σ2 ws = L2.wipe σ ws := by
        refine List.ext_getElem? fun j => ?_
        rw [wipe_at, wipe_at]
        cases hj : ws.contains j with
        | true =>
          rw [if_pos rfl, if_pos rfl]
          by_cases hjl : j < σ.length
          · rw [List.getElem?_eq_getElem hjl, List.getElem?_eq_getElem (by omega)]
            rfl
          · rw [List.getElem?_eq_none (by omega), List.getElem?_eq_none (by omega)]
        | false =>
          rw [if_neg (by decide), if_neg (by decide)]
          have hn : j ∉ tg'.ixs := fun z => by
            have := hws j z
            rw [← List.contains_iff_mem] at this
            rw [hj] at this; cases this
          rw [kp.1 j hn, wipe_at, hj, if_neg (by decide)]
      have again : ∀ {g : Fm} {acc' : List Vl} {H4 : Hp}, SlOk σ2 g → Live X.K H4 ((.ref D, .ol (froz acc')) :: (slots σ2 g ++ (A ++ (W0 ++ L)))) → compN (turnC G e' tg' cond ws) (ds.drop (i + 1)) g = some (rest', f4) → xs = acc' ++ rest' → Pv (i + 1) H4 := fun {g acc' H4} okg lg eg exx => by
        refine ⟨g, acc', rest', ?_, ?_, ?_, eg, exx⟩
        · rw [← okg.len, len2, ok1.len]
        · rw [← wsame]; exact okg.wipe ws
        · have lk : Live X.K H4 (slots σ2 (keepP ws 0 g) ++ ((.ref D, .ol (froz acc')) :: (A ++ (SW g ++ (W0 ++ L))))) := by
            refine lg.perm ?_
            refine (List.Perm.cons _ (List.Perm.append_right _ (slots_split ws))).trans ?_
            rw [wsame]
            show ((.ref D, .ol (froz acc')) :: ((slots σ2 (keepP ws 0 g) ++ SW g) ++ (A ++ (W0 ++ L)))).Perm _
            rw [List.append_assoc]
            refine List.Perm.trans ?_ (zip_perm_mid _ _ _)
            exact List.Perm.cons _ (List.Perm.append_left _ (perm_mid _ _ _))
          exact lk.right
      refine ⟨wsame, g1, Rest, b, g2, ok2, l4, e6, fun H3 ok3 l5 => ?_⟩
      cases b with
      | false =>
        rw [if_neg Bool.false_ne_true] at e3 ⊢
        cases e3
        refine again ok3 (l5.perm ?_) e4 (by rw [ex, ← ers])
        show (slots σ2 g2 ++ (A ++ ((.ref D, .ol (froz acc)) :: (W0 ++ L)))).Perm _
        refine (List.Perm.append_left _ (zip_perm_mid _ _ _).symm).trans (zip_perm_mid _ _ _).symm
      | true =>
        rw [if_pos rfl] at e3 ⊢
        obtain ⟨⟨p2, g3⟩, e7, e3⟩ := bnd e3
        obtain ⟨⟨x', g4⟩, e8, e3⟩ := mpd e3
        cases e3
        refine ⟨g2, Rest, p2, g3, ok3, l5, e7, fun y H4 ok4 o4 => ?_⟩
        obtain ⟨ok5, l6⟩ := o4.force ok4 e8
        have l7 := l6.freeze (force_own e8)
        have l8 : Live X.K H4 ((.ref D, .ol (froz acc)) :: ([y].zip ([x'.strip].map Vl.fz) ++ (slots σ2 g4 ++ (A ++ (W0 ++ L))))) := by
          refine l7.perm ?_
          show ((y, .fz x'.strip) :: (slots σ2 g4 ++ (A ++ ((.ref D, .ol (froz acc)) :: (W0 ++ L))))).Perm ((.ref D, .ol (froz acc)) :: (y, .fz x'.strip) :: (slots σ2 g4 ++ (A ++ (W0 ++ L))))
          refine (List.Perm.cons _ ?_).trans (List.Perm.swap _ _ _)
          exact (List.Perm.append_left _ (zip_perm_mid _ _ _).symm).trans (zip_perm_mid _ _ _).symm
        obtain ⟨xd, hH, hxl, wr⟩ := l8.write (ds' := froz (acc ++ [x'])) rfl
        have ers' : x' :: rest' = rest := ers
        refine ⟨xd, hH, ?_, ?_⟩
        · rw [hxl, froz_len]
          have z := szOk sz
          rw [ex, ← ers', List.length_append, List.length_cons] at z
          omega
        · refine again ok5 (wr (xd ++ [y]) fun F r1 r2 => ?_) e4 (by rw [ex, ← ers', List.append_assoc, List.singleton_append])
          have : froz (acc ++ [x']) = froz acc ++ [x'.strip] := by unfold froz; rw [List.map_append]; rfl
          rw [this]
          exact r1.append r2
    · have ei : i = ds.length := by omega
      subst ei
      rw [List.drop_length] at ec
      unfold compN at ec
      cases ec
      rw [List.append_nil] at ex
      subst ex
      refine .inl ⟨wk.stop H _ lvA, q _ H (ok1.unwipe okw hlen.symm) (hold1 (lvA.right.perm (List.Perm.cons _ ?_)))⟩
      refine List.Perm.trans ?_ (List.Perm.append_right L (slots_unwipe ws hlen.symm)).symm
      show (SW f2 ++ (W0 ++ L)).Perm (W0 ++ SW f2 ++ L)
      rw [List.append_assoc]
      exact perm_mid _ _ _
end
end Tr

set_option Elab.async false
set_option linter.all false
set_option maxRecDepth 100000
set_option maxHeartbeats 1000000
/-! Statements. -/
namespace Tr
open PySem PySem.Spec PyProof.Rows L2
def KeepL (lk : List Nat) (σ σ' : St) : Prop := ∀ i ∈ lk, σ'[i]? = σ[i]?
theorem KeepL.refl {lk : List Nat} {σ : St} : KeepL lk σ σ := fun _ _ => rfl
theorem KeepL.trans {lk : List Nat} {σ σ1 σ2 : St} (h : KeepL lk σ σ1) (h2 : KeepL lk σ1 σ2) : KeepL lk σ σ2 := fun i hi => (h2 i hi).trans (h i hi)
theorem KeepL.set {lk : List Nat} {σ : St} {i : Nat} {o : Option V} (h : i ∉ lk) : KeepL lk σ (σ.set i o) := fun j hj => by
  have : i ≠ j := fun z => h (z ▸ hj)
  rw [List.getElem?_set_ne this]
def endS (K : PySem.W.Frag) (lk : List Nat) (D : Ends) (σ : St) (L : List (V × Vl)) (r : Sg) (fr' : Fm) : Prop := ∀ σ' H', SlOk σ' fr' → KeepL lk σ σ' → (match r with
  | .nx => Live K H' (slots σ' fr' ++ L) → D.nx σ' H'
  | .rt x => ∀ v, Live K H' ((v, x) :: (slots σ' fr' ++ L)) → D.rt v H')
def tS (K : PySem.W.Frag) (lk : List Nat) (f : Fm → R Sg) : TS := fun D σ H => ∃ fr L r fr', SlOk σ fr ∧ Live K H (slots σ fr ++ L) ∧ f fr = some (r, fr') ∧ endS K lk D σ L r fr'
section
variable {X : Cx} {G : Fs} {lk : List Nat} {st : Stmt} {sts : List Stmt} {c e : Expr} {i j : E} {s : S} {ss : List S} {pos : Pos}
abbrev tSt (X : Cx) (G : Fs) (lk : List Nat) (s : S) : TS := tS X.K lk (Tr.exec G lk s)
abbrev tSs (X : Cx) (G : Fs) (lk : List Nat) (ss : List S) : TS := tS X.K lk (Tr.execs G lk ss)
theorem x_nop (h : PS X st tNext) : PS X st (tSt X G lk .nop) := by
  refine ps_mono h fun D σ H q => ?_
  obtain ⟨fr, L, r, fr', ok, l, ee, q⟩ := q
  unfold Tr.exec at ee
  cases ee
  exact q σ H ok KeepL.refl l
theorem x_stop : PS X st (tSt X G lk .stop) := by
  refine ps_mono ps_never fun D σ H q => ?_
  obtain ⟨fr, L, r, fr', ok, l, ee, q⟩ := q
  unfold Tr.exec at ee
  cases ee
theorem xs_nil : PSs X [] (tSs X G lk []) := by
  refine pss_mono pss_nil fun D σ H q => ?_
  obtain ⟨fr, L, r, fr', ok, l, ee, q⟩ := q
  unfold Tr.execs at ee
  cases ee
  exact q σ H ok KeepL.refl l
theorem xs_cons (h1 : PS X st (tSt X G lk s)) (h2 : PSs X sts (tSs X G lk ss)) : PSs X (st :: sts) (tSs X G lk (s :: ss)) := by
  refine pss_mono (pss_cons h1 h2) fun D σ H q => ?_
  obtain ⟨fr, L, r, fr', ok, l, ee, q⟩ := q
  unfold Tr.execs at ee
  obtain ⟨⟨r1, f1⟩, e1, ee⟩ := bnd ee
  refine ⟨fr, L, r1, f1, ok, l, e1, fun σ1 H1 ok1 k1 => ?_⟩
  cases r1 with
  | nx => exact fun l1 => ⟨f1, L, r, fr', ok1, l1, ee, fun σ2 H2 ok2 k2 => q σ2 H2 ok2 (k1.trans k2)⟩
  | rt x =>
    cases ee
    exact fun v l1 => q σ1 H1 ok1 k1 v l1
theorem x_exp (he : PE X e (tE X G i)) (hs : swapsWith e none pos.line X.env = pure false) : PS X (.Expr e pos) (tSt X G lk (.exp i)) := by
  refine ps_mono (ps_expr he hs) fun D σ H q => ?_
  obtain ⟨fr, L, r, fr', ok, l, ee, q⟩ := q
  unfold Tr.exec at ee
  obtain ⟨⟨p1, f1⟩, e1, ee⟩ := mpd ee
  cases ee
  exact ⟨fr, L, p1, f1, ok, l, e1, fun v H1 ok1 o => q σ H1 ok1 KeepL.refl o.live⟩
theorem x_ret (he : PE X e (tE X G i)) : PS X (.Return (some e) pos) (tSt X G lk (.ret i)) := by
  refine ps_mono (ps_ret he) fun D σ H q => ?_
  obtain ⟨fr, L, r, fr', ok, l, ee, q⟩ := q
  unfold Tr.exec at ee
  obtain ⟨⟨p1, f1⟩, e1, ee⟩ := bnd ee
  obtain ⟨⟨x, f2⟩, e2, ee⟩ := mpd ee
  cases ee
  refine ⟨fr, L, p1, f1, ok, l, e1, fun v H1 ok1 o => ?_⟩
  obtain ⟨ok2, l2⟩ := o.force ok1 e2
  exact q σ H1 ok2 KeepL.refl v l2
theorem x_retv {n : Nat} (he : PE X e (tVar n)) : PS X (.Return (some e) pos) (tSt X G lk (.retv n)) := by
  refine ps_mono (ps_ret he) fun D σ H q => ?_
  obtain ⟨fr, L, r, fr', ok, l, ee, q⟩ := q
  unfold Tr.exec at ee
  split at ee
  · rename_i x hx
    split at ee
    · cases ee
    · cases ee
      obtain ⟨v, hv⟩ := ok.has _ _ hx
      exact ⟨v, hv, q σ H (ok.drop n) KeepL.refl v (l.perm (List.Perm.append_right L (slots_at hv hx)))⟩
  · cases ee
theorem x_retN : PS X (.Return none pos) (tSt X G lk .retN) := by
  refine ps_mono ps_retN fun D σ H q => ?_
  obtain ⟨fr, L, r, fr', ok, l, ee, q⟩ := q
  unfold Tr.exec at ee
  cases ee
  exact q σ H ok KeepL.refl .non (l.scal rfl)
theorem x_iff {a b : List Stmt} {sa sb : List S} (hc : PT X c (tT X G i)) (ha : PSs X a (tSs X G lk sa)) (hb : PSs X b (tSs X G lk sb)) : PS X (.If c a b pos) (tSt X G lk (.iff i sa sb)) := by
  refine ps_mono (ps_if hc ha hb) fun D σ H q => ?_
  obtain ⟨fr, L, r, fr', ok, l, ee, q⟩ := q
  unfold Tr.exec at ee
  obtain ⟨⟨b1, f1⟩, e1, ee⟩ := bnd ee
  refine ⟨fr, L, b1, f1, ok, l, e1, fun H1 ok1 l1 => ?_⟩
  cases b1 with
  | true => exact ⟨f1, L, r, fr', ok1, l1, ee, q⟩
  | false => exact ⟨f1, L, r, fr', ok1, l1, ee, q⟩
/-- target = value, by readings -/
theorem asg_core {t : Tg} {te : TE} {D : Ends} {σ : St} {H : Hp} (hte : ∀ Q, tE X G i σ H Q → te σ H Q) (h : tSt X G lk (.asg t i) D σ H) : tAsg te (gT X.K lk t) D σ H := by
  obtain ⟨fr, L, r, fr', ok, l, ee, q⟩ := h
  unfold Tr.exec at ee
  obtain ⟨⟨p1, f1⟩, e1, ee⟩ := bnd ee
  obtain ⟨⟨x, f2⟩, e2, ee⟩ := bnd ee
  obtain ⟨f3, e3, ee⟩ := mpd ee
  cases ee
  refine hte _ ⟨fr, L, p1, f1, ok, l, e1, fun v H1 ok1 o => ?_⟩
  obtain ⟨ok2, l2⟩ := o.force ok1 e2
  exact ⟨f2, L, x, fr', ok2, l2, e3, fun σ' ok' k' l' => q σ' H1 ok' k'.2 l'⟩
theorem x_asg {tg : Expr} {t : Tg} (he : PE X e (tE X G i)) (hg : PG X tg (gT X.K lk t)) (hs : swapsWithSole [tg] e pos.line X.env = pure false) (hw : swappedStores [tg] e X.env = pure none) (h1 : (assignEach [tg] X.env).map (·.2) = [assign tg X.env]) :
    PS X (.Assign [tg] e pos) (tSt X G lk (.asg t i)) := ps_mono (ps_asg he hg hs hw h1) fun D σ H q => asg_core (fun Q z => z) q
/-! several names at once -/
def setAll : St → List Nat → List V → St
  | σ, i :: is, v :: vs => setAll (σ.set i (some v)) is vs
  | σ, _, _ => σ
def tParN (ix : List Nat) (ta : TA) : TS := fun D σ H => ta σ H fun vs H1 => vs.length = ix.length ∧ ∀ H2, Same H1 H2 → D.nx (setAll σ ix vs) H2
theorem putV_ok {K : PySem.W.Frag} {L : List (V × Vl)} {H : Hp} : ∀ {ix : List Nat} {vs : List V} {xs : List Vl} {fr fr' : Fm} {σ : St}, vs.length = xs.length → SlOk σ fr → Live K H (vs.zip xs ++ (slots σ fr ++ L)) → putTgsV lk ix xs fr = some fr' →
    vs.length = ix.length ∧ SlOk (setAll σ ix vs) fr' ∧ KeepL lk σ (setAll σ ix vs) ∧ Live K H (slots (setAll σ ix vs) fr' ++ L)
  | [], vs, [], fr, fr', σ, hl, ok, l, e => by
    unfold putTgsV at e
    cases e
    cases vs with
    | nil => exact ⟨rfl, ok, KeepL.refl, l⟩
    | cons _ _ => cases hl
  | [], vs, _ :: _, fr, fr', σ, hl, ok, l, e => by unfold putTgsV at e; cases e
  | _ :: _, vs, [], fr, fr', σ, hl, ok, l, e => by unfold putTgsV at e; cases e
  | n :: ix, [], x :: xs, fr, fr', σ, hl, ok, l, e => by cases hl
  | n :: ix, v :: vs, x :: xs, fr, fr', σ, hl, ok, l, e => by
    unfold putTgsV at e
    obtain ⟨f1, e1, e2⟩ := bnd e
    obtain ⟨h1, h2, rfl⟩ := putTg_len e1
    have l0 : Live K H ((v, x) :: (slots σ fr ++ (vs.zip xs ++ L))) := by
      have l : Live K H ((v, x) :: (vs.zip xs ++ (slots σ fr ++ L))) := l
      exact l.perm (List.Perm.cons _ (perm_mid _ _ _))
    have l1 := set_slots ok h2 l0
    obtain ⟨q1, q2, q3, q4⟩ := putV_ok (by simpa using hl) (ok.set (v := v) h2) (l1.perm (perm_mid _ _ _)) e2
    exact ⟨by simp [q1], q2, (KeepL.set h1).trans q3, q4⟩
theorem x_par {ix : List Nat} {is : List E} (h : PS X st (tParN ix (tGs X G is))) : PS X st (tSt X G lk (.par ix is)) := by
  refine ps_mono h fun D σ H q => ?_
  obtain ⟨fr, L, r, fr', ok, l, ee, q⟩ := q
  unfold Tr.exec at ee
  obtain ⟨⟨xs, f1⟩, e1, ee⟩ := bnd ee
  obtain ⟨c, ee⟩ := ite_o ee
  obtain ⟨f2, e2, ee⟩ := mpd ee
  cases ee
  refine ⟨fr, L, xs, f1, ok, l, e1, fun vs H1 ok1 hl l1 => ?_⟩
  obtain ⟨q1, q2, q3, q4⟩ := putV_ok (lk := lk) hl ok1 l1 e2
  exact ⟨q1, fun H2 sm => q _ H2 q2 q3 (q4.same sm)⟩
/-- xs[i] = v -/
theorem x_sidx {n : Nat} {a b : Expr} {p : Pos} (ho : PE X a (tVar n)) (hi : PE X b (tE X G i)) (he : PE X e (tE X G j))
    (ha : ∀ v, assign (.Subscript a b p) X.env v = (do
      let ov ← holding [v] (eval a X.env)
      let iv ← holding [v, ov] (eval b X.env)
      standAt p
      holding [v, ov, iv] (setItem ov iv v)
      release [v, ov, iv] []))
    (hs : swapsWithSole [.Subscript a b p] e pos.line X.env = pure false) (hw : swappedStores [.Subscript a b p] e X.env = pure none) (h1 : (assignEach [.Subscript a b p] X.env).map (·.2) = [assign (.Subscript a b p) X.env]) :
    PS X (.Assign [.Subscript a b p] e pos) (tSt X G lk (.sidx n i j)) := by
  refine ps_mono (ps_asg he (pg_sub ho hi set_list ha) hs hw h1) fun D σ H q => ?_
  obtain ⟨fr, L, r, fr', ok, l, ee, q⟩ := q
  unfold Tr.exec at ee
  obtain ⟨⟨p1, f1⟩, e1, ee⟩ := bnd ee
  obtain ⟨⟨x, f2⟩, e2, ee⟩ := bnd ee
  dsimp only at ee
  split at ee
  · rename_i ds0 h0
    obtain ⟨⟨p2, f3⟩, e3, ee⟩ := bnd ee
    dsimp only at ee
    split at ee
    · rename_i k ds hk hd
      obtain ⟨m, e4, ee⟩ := mpd ee
      cases ee
      refine ⟨fr, L, p1, f1, ok, l, e1, fun v H1 ok1 o => ?_⟩
      obtain ⟨ok2, l2⟩ := o.force ok1 e2
      obtain ⟨w, hw'⟩ := ok2.has _ _ h0
      have l3 := l2.freeze (force_own e2)
      refine ⟨w, hw', f2, (v, .fz x.strip) :: L, p2, f3, ok2, l3.perm (zip_perm_mid _ _ _), e3, fun iv H3 ok3 o3 => ?_⟩
      have o4 := o3.look1 hk
      obtain ⟨F, r1⟩ := o4.one
      have := r1.int
      subst this
      have l4 : Live X.K H3 ((w, .ol ds) :: (([v].zip ([x.strip].map Vl.fz)) ++ (slots σ (f3.set n none) ++ L))) := by
        refine o3.live.perm ?_
        refine (List.Perm.append_right _ (slots_at hw' hd)).trans ?_
        exact List.Perm.cons _ (zip_perm_mid _ _ _).symm
      obtain ⟨aa, rfl⟩ : ∃ aa, w = .ref aa := by
        obtain ⟨fs, nd, rr⟩ := l4
        cases rr with
        | cons z _ => cases z; exact ⟨_, rfl⟩
      obtain ⟨xd, hH, hxl, wr⟩ := l4.write (ds' := ds.set m x.strip) rfl
      refine ⟨aa, xd, k, m, rfl, rfl, hH, by rw [hxl]; exact e4, ?_⟩
      have hn : n < f3.length := (List.getElem?_eq_some_iff.mp hd).1
      refine q σ _ (ok3.put hw') KeepL.refl ?_
      refine (wr (xd.set m v) fun F r1 r2 => ?_).perm ?_
      · cases r2 with
        | cons r3 _ => exact r1.set r3 m
      · exact (List.Perm.append_right L (slots_put hw' hn)).symm
    · cases ee
  · cases ee
end
end Tr

set_option Elab.async false
set_option linter.all false
set_option maxRecDepth 100000
set_option maxHeartbeats 1000000
/-! Loops, appends, several names, list(range(n)), isinstance. -/
namespace Tr
open PySem PySem.Spec PyProof.Rows L2
section
variable {X : Cx} {G : Fs} {lk : List Nat} {st : Stmt} {sts : List Stmt} {a c e tg iter : Expr} {i j : E} {s : S} {ss : List S} {pos : Pos}
theorem x_app {n : Nat} {apos cpos pos : Pos} (ho : PE X a (tVar n)) (he : PE X e (tE X G i))
    (hb : attributeBase a "append" X.env (eval a X.env) = eval a X.env)
    (hfew : ((backTo cpos (starEach [e] X.env)).all (fun x => !x.1) && (backToKw cpos (keywordEach [] X.env)).all (fun x => x.1.isSome)
      && decide ([e].length + ([] : List Keyword).length + (if ([] : List Keyword).isEmpty then 0 else 1) < 30)) = true)
    (hline : (apos.endLine == cpos.line) = true) (hs : starEach [e] X.env = (false, eval e X.env) :: starEach [] X.env)
    (hsw : swapsWith (.Call (.Attribute a "append" apos) [e] [] cpos) none pos.line X.env = pure false) :
    PS X (.Expr (.Call (.Attribute a "append" apos) [e] [] cpos) pos) (tSt X G lk (.app n i)) := by
  refine ps_mono (ps_expr (pe_bm PySem.F.plainAttrs_list PySem.F.slot_list_append PySem.F.type_list_append mt_append ho (pa_cons he pa_nil hs) hb hfew hline hs rfl) hsw) fun D σ H q => ?_
  obtain ⟨fr, L, r, fr', ok, l, ee, q⟩ := q
  unfold Tr.exec at ee
  split at ee
  · rename_i ds0 h0
    obtain ⟨⟨p1, f1⟩, e1, ee⟩ := bnd ee
    obtain ⟨⟨x, f2⟩, e2, ee⟩ := bnd ee
    dsimp only at ee
    split at ee
    · rename_i ds hd
      obtain ⟨cz, ee⟩ := ite_some ee
      cases ee
      obtain ⟨w, hw⟩ := ok.has _ _ h0
      have lw : Live X.K H ((w, .ol ds0) :: (slots σ (fr.set n none) ++ L)) := l.perm (List.Perm.append_right L (slots_at hw h0))
      obtain ⟨aa, xs0, rfl, h1⟩ : ∃ aa xs0, w = .ref aa ∧ H aa = some (.lst xs0) := by
        obtain ⟨fs, nd, rr⟩ := lw
        cases rr with
        | cons z _ => cases z with
          | ol z1 z2 => exact ⟨_, _, rfl, z1⟩
      refine ⟨.ref aa, hw, .inl ⟨rfl, xs0, SqL.of h1⟩, ?_⟩
      refine ⟨fr, L, p1, f1, ok, l, e1, fun v H1 ok1 o => ?_⟩
      obtain ⟨ok2, l2⟩ := o.force ok1 e2
      have l3 := l2.freeze (force_own e2)
      have l4 : Live X.K H1 ((.ref aa, .ol ds) :: (([v].zip ([x.strip].map Vl.fz)) ++ (slots σ (f2.set n none) ++ L))) := by
        refine l3.perm ?_
        refine (List.Perm.cons _ (List.Perm.append_right _ (slots_at hw hd))).trans ?_
        exact List.Perm.swap _ _ _
      obtain ⟨xd, hH, hxl, wr⟩ := l4.write (ds' := ds ++ [x.strip]) rfl
      have hn : n < f2.length := (List.getElem?_eq_some_iff.mp hd).1
      refine ⟨aa, xd, v, rfl, rfl, hH, ?_, ?_⟩
      · rw [hxl, sizeLine_eq]; exact of_decide_eq_true cz
      · refine q σ _ (ok2.put hw) KeepL.refl ?_
        refine (wr (xd ++ [v]) fun F r1 r2 => r1.append r2).perm ?_
        exact (List.Perm.append_right L (slots_put hw hn)).symm
    · cases ee
  · cases ee
def turnF (G : Fs) (lk : List Nat) (t : Tg) (body : List S) : D → Fm → R Sg := fun d fr1 => (putTg lk t (.fz d) fr1).bind fun fr2 => Tr.execs G lk body fr2
theorem x_for {t : Tg} {it : It} {body : List S} (hx : X.xe = fun _ _ => False) (hc : X.calm = true) (hi : PI X tg iter (tI X G it)) (hg : PG X tg (gT X.K lk t)) (hb : PSs X sts (tSs X G lk body)) (hs : ∀ x, foldedSetIterable iter X.env x = pure x) :
    PS X (.For tg iter sts [] pos) (tSt X G lk (.for t it body)) := by
  have hp : PassesOwn (model X.prog X.w) X.A X.env X.xe := by rw [hx]; exact PassesOwn.never
  refine ps_mono (ps_for hp hc hi hg hb hs) fun D σ H q => ?_
  obtain ⟨fr, L, r, fr', ok, l, ee, q⟩ := q
  unfold Tr.exec at ee
  obtain ⟨⟨ds, f1⟩, e1, ee⟩ := bnd ee
  replace ee : forN (turnF G lk t body) ds f1 = some (r, fr') := ee
  refine ⟨fr, L, ds, f1, ok, l, e1, fun J H1 A ok1 l1 wk => ?_⟩
  let Pv : Nat → St → Hp → Prop := fun i σi H => ∃ fi, SlOk σi fi ∧ KeepL lk σ σi ∧ Live X.K H (A ++ (slots σi fi ++ L)) ∧ forN (turnF G lk t body) (ds.drop i) fi = some (r, fr')
  refine ⟨fun i m σi H => m = ds.length - i ∧ i ≤ ds.length ∧ Pv i σi H, ⟨ds.length, by simp, Nat.zero_le _, f1, ok1, KeepL.refl, l1, ee⟩, ?_⟩
  rintro i m σi H ⟨rfl, hi', fi, oki, ki, li, ei⟩
  by_cases hlt : i < ds.length
  · have hd : ds[i]? = some ds[i] := List.getElem?_eq_getElem hlt
    rw [List.drop_eq_getElem_cons hlt] at ei
    unfold forN at ei
    obtain ⟨⟨r1, f3⟩, e3, ei⟩ := bnd ei
    unfold turnF at e3
    obtain ⟨g1, e4, e3⟩ := bnd e3
    refine .inr ⟨wk.go i H _ hlt li, Pv (i + 1), fun σ' H' p' => ⟨ds.length - (i + 1), by omega, rfl, hlt, p'⟩, fun x H' y => ?_⟩
    have l2 := wk.yld i H x H' _ _ hd li y
    refine ⟨fi, A ++ L, .fz ds[i], g1, oki, l2.perm (List.Perm.cons _ (perm_mid _ _ _)), e4, fun σ2 ok2 k2 l3 => ?_⟩
    refine ⟨g1, A ++ L, r1, f3, ok2, l3, e3, fun σ3 H3 ok3 k3 => ?_⟩
    have kk : KeepL lk σ σ3 := (ki.trans k2.2).trans k3
    cases r1 with
    | nx => exact fun l4 => ⟨f3, ok3, kk, l4.perm (perm_mid _ _ _), ei⟩
    | rt x =>
      cases ei
      exact fun v l4 => q σ3 H3 ok3 kk v ((l4.perm ((zip_perm_mid _ _ _).trans ((List.Perm.append_left _ (zip_perm_mid _ _ _)).trans (perm_mid _ _ _)))).right.perm (zip_perm_mid _ _ _).symm)
  · have e : i = ds.length := by omega
    subst e
    rw [List.drop_length] at ei
    unfold forN at ei
    cases ei
    exact .inl ⟨wk.stop H _ li, q σi H oki ki li.right⟩
theorem x_whl {body : List S} (hx : X.xe = fun _ _ => False) (hc : PT X c (tT X G i)) (hb : PSs X sts (tSs X G lk body)) : PS X (.While c sts [] pos) (tSt X G lk (.whl i body)) := by
  have hp : PassesOwn (model X.prog X.w) X.A X.env X.xe := by rw [hx]; exact PassesOwn.never
  refine ps_mono (ps_while hp hc hb) fun D σ H q => ?_
  obtain ⟨fr, L, r, fr', ok, l, ee, q⟩ := q
  unfold Tr.exec at ee
  generalize fuel = n at ee
  refine ⟨fun m σi H => ∃ fi, SlOk σi fi ∧ KeepL lk σ σi ∧ Live X.K H (slots σi fi ++ L) ∧ whileN (fun fr => tru G i fr) (fun fr => Tr.execs G lk body fr) m fi = some (r, fr'), ⟨n, fr, ok, KeepL.refl, l, ee⟩, ?_⟩
  rintro m σi H ⟨fi, oki, ki, li, ei⟩
  cases m with
  | zero => unfold whileN at ei; cases ei
  | succ m =>
    unfold whileN at ei
    obtain ⟨⟨b, f2⟩, e2, ei⟩ := bnd ei
    refine ⟨fi, L, b, f2, oki, li, e2, fun H2 ok2 l2 => ?_⟩
    cases b with
    | false =>
      rw [if_neg Bool.false_ne_true] at ei ⊢
      cases ei
      exact q σi H2 ok2 ki l2
    | true =>
      rw [if_pos rfl] at ei ⊢
      obtain ⟨⟨r1, f3⟩, e3, ei⟩ := bnd ei
      refine ⟨fun σ' H' => ∃ fi, SlOk σ' fi ∧ KeepL lk σ σ' ∧ Live X.K H' (slots σ' fi ++ L) ∧ whileN (fun fr => tru G i fr) (fun fr => Tr.execs G lk body fr) m fi = some (r, fr'), fun σ' H' p' => ⟨m, Nat.lt_succ_self _, p'⟩, ?_⟩
      refine ⟨f2, L, r1, f3, ok2, l2, e3, fun σ3 H3 ok3 k3 => ?_⟩
      cases r1 with
      | nx => exact fun l4 => ⟨f3, ok3, ki.trans k3, l4, ei⟩
      | rt x =>
        cases ei
        exact fun v l4 => q σ3 H3 ok3 (ki.trans k3) v l4
/-! several names -/
def gSet (ix : List Nat) : TGs := fun vs σ H Q => vs.length = ix.length ∧ Q (setAll σ ix vs) H
theorem gset_nil : PGs X [] (gSet []) := pgs_mono pgs_nil fun vs σ H Q q => by
  obtain ⟨hl, q⟩ := q
  cases vs with
  | nil => exact ⟨rfl, q⟩
  | cons _ _ => cases hl
theorem gset_cons {n : Nat} {ix : List Nat} {es : List Expr} (h1 : PG X tg (gName n)) (h2 : PGs X es (gSet ix)) (hs : (assignEach (tg :: es) X.env).map (·.2) = assign tg X.env :: (assignEach es X.env).map (·.2)) : PGs X (tg :: es) (gSet (n :: ix)) := pgs_mono (pgs_cons h1 h2 hs) fun vs σ H Q q => by
  obtain ⟨hl, q⟩ := q
  cases vs with
  | nil => cases hl
  | cons v vs => exact ⟨v, vs, rfl, by simpa using hl, q⟩
theorem tXs_imp {K : PySem.W.Frag} {f : Fm → R (List Vl)} {σ : St} {H : Hp} {Q Q' : List V → Hp → Prop} (h : tXs K f σ H Q) (m : ∀ v H', Q v H' → Q' v H') : tXs K f σ H Q' := by
  obtain ⟨fr, L, p, fr', ok, l, ee, q⟩ := h
  exact ⟨fr, L, p, fr', ok, l, ee, fun v H' ok' hl h' => m _ _ (q v H' ok' hl h')⟩
theorem par_any {es ts : List Expr} {ix : List Nat} {is : List E} {k k2 : Nat} {p p2 : Pos} (hc : X.calm = true) (ha : PA X es (tGs X G is)) (hg : PGs X ts (gSet ix)) (hlen : ts.length = ix.length) (hn : (assignEach ts X.env).length = ts.length) (hst : (assignEach ts X.env).findIdx? (·.1) = none)
    (hsz : es.length = ix.length) (hle : ix.length ≤ sizeLine) (hs : swapsWithSole [.Tuple ts k p] (.Tuple es k2 p2) pos.line X.env = pure false) (hw : swappedStores [.Tuple ts k p] (.Tuple es k2 p2) X.env = pure none) (h1 : (assignEach [.Tuple ts k p] X.env).map (·.2) = [assign (.Tuple ts k p) X.env]) :
    PS X (.Assign [.Tuple ts k p] (.Tuple es k2 p2) pos) (tParN ix (tGs X G is)) := by
  refine ps_mono (ps_asg (pe_tup ha) (pg_tup hc hg hn hst) hs hw h1) fun D σ H q => ?_
  refine tXs_imp q fun vs H1 ⟨hl, q⟩ => ⟨by rw [hl]; exact hle, fun p hp => ⟨p, vs, rfl, SqT.of upd_same, by rw [hl, hlen], hl, q _ (same_new hp)⟩⟩
theorem par_2 {a b : Expr} {x y : Str} {n m : Nat} {is : List E} {px py p p2 : Pos} {k k2 : Nat} (hc : X.calm = true) (hN : X.N.Nodup) (hi : X.N[n]? = some x) (hj : X.N[m]? = some y) (hij : n ≠ m) (hx : X.env.scope.names.lookup x = some .local) (hy : X.env.scope.names.lookup y = some .local)
    (ha : PA X [a, b] (tGs X G is)) (hw : swappedStores [.Tuple [.Name x px, .Name y py] k p] (.Tuple [a, b] k2 p2) X.env = pure (some [x, y])) (hs : swapsWithSole [.Tuple [.Name x px, .Name y py] k p] (.Tuple [a, b] k2 p2) pos.line X.env = pure false) :
    PS X (.Assign [.Tuple [.Name x px, .Name y py] k p] (.Tuple [a, b] k2 p2) pos) (tParN [n, m] (tGs X G is)) := by
  refine ps_mono (ps_par hc hN hi hj hij hx hy ha hw hs) fun D σ H q => tXs_imp q fun vs H1 ⟨hl, q⟩ => ?_
  match vs, hl with
  | [v, w], _ => exact ⟨v, w, rfl, q H1 fun _ _ e => e⟩
theorem par_3 {a b c : Expr} {x y z : Str} {n m o : Nat} {is : List E} {px py pz p p2 : Pos} {k k2 : Nat} (hc : X.calm = true) (hN : X.N.Nodup) (hi : X.N[n]? = some x) (hj : X.N[m]? = some y) (hl : X.N[o]? = some z) (hij : n ≠ m) (hil : n ≠ o) (hjl : m ≠ o) (hx : X.env.scope.names.lookup x = some .local) (hy : X.env.scope.names.lookup y = some .local) (hz : X.env.scope.names.lookup z = some .local)
    (ha : PA X [a, b, c] (tGs X G is)) (hw : swappedStores [.Tuple [.Name x px, .Name y py, .Name z pz] k p] (.Tuple [a, b, c] k2 p2) X.env = pure (some [x, y, z])) (hs : swapsWithSole [.Tuple [.Name x px, .Name y py, .Name z pz] k p] (.Tuple [a, b, c] k2 p2) pos.line X.env = pure false) :
    PS X (.Assign [.Tuple [.Name x px, .Name y py, .Name z pz] k p] (.Tuple [a, b, c] k2 p2) pos) (tParN [n, m, o] (tGs X G is)) := by
  refine ps_mono (ps_par3 hc hN hi hj hl hij hil hjl hx hy hz ha hw hs) fun D σ H q => tXs_imp q fun vs H1 ⟨hl, q⟩ => ?_
  match vs, hl with
  | [u, v, w], _ => exact ⟨u, v, w, rfl, q H1 fun _ _ e => e⟩
theorem rel_range {K : PySem.W.Frag} {F : Addr → Prop} {H : Hp} : ∀ l : List Nat, RelDs K F H (l.map fun i => V.int (0 + (i : Nat))) (l.map fun (i : Nat) => PyData.int (i : Int))
  | [] => .nil
  | n :: l => by
    rw [List.map_cons, List.map_cons, Int.zero_add]
    exact .cons (.int _) (rel_range l)
/-- list(range(n)) -/
theorem s_lrange {p p2 pos2 : Pos} (hc : X.calm = true) (hg : Gl X "list") (hm : X.mg "list" = none) (hg2 : Gl X "range") (hm2 : X.mg "range" = none) (ha : PE X a (tE X G i)) (na : starEach [a] X.env = (false, eval a X.env) :: starEach [] X.env)
    (nr : starEach [.Call (.Name "range" p2) [a] [] pos2] X.env = (false, eval (.Call (.Name "range" p2) [a] [] pos2) X.env) :: starEach [] X.env) : PE X (.Call (.Name "list" p) [.Call (.Name "range" p2) [a] [] pos2] [] pos) (tE X G (.bi .lrange [i])) := by
  refine pe_mono (pe_listRg hc hg hm (prg_1 hg2 hm2 ha na) nr) fun σ H Q q => ?_
  obtain ⟨fr, L, p, fr', ok, l, ee, q⟩ := q
  unfold ev at ee
  obtain ⟨⟨ps, f1⟩, e1, ee⟩ := bnd ee
  obtain ⟨ds, e2, ee⟩ := bnd ee
  obtain ⟨z, e3, ee⟩ := mpd ee
  cases ee
  unfold evs evs at e1
  obtain ⟨⟨p1, f2⟩, e4, e1⟩ := bnd e1
  obtain ⟨r, e5, e1⟩ := mpd e1
  cases e5
  cases e1
  refine ⟨fr, L, p1, f2, ok, l, e4, fun v H1 ok1 o => ?_⟩
  have o2 := o.looks e2
  match ds, e3 with
  | [.int n], e3 =>
    simp only [biD] at e3
    obtain ⟨c, rfl⟩ := ite_some e3
    simp only [Bool.and_eq_true, decide_eq_true_eq] at c
    obtain ⟨F, h1⟩ := o2.one
    refine ⟨n, h1.int, ⟨by omega, by omega, by omega, by omega, by omega⟩, fun p hp => q _ _ ok1 (hold1 (o2.lst hp fun F' _ => ?_))⟩
    unfold rgV
    rw [Int.sub_zero]
    exact rel_range _
/-- isinstance(x, T) -/
theorem kit_tab (K : PySem.W.Frag) (t : Ty) (d : D) : PySem.W.kitOne K (.type (tyD d)) (.type (tyS t)) = some (isTy t d) := by
  cases t <;> cases d <;> rfl
theorem s_isi {t : Ty} {p p2 : Pos} {x : Str} (hg : Gl X "isinstance") (hm : X.mg "isinstance" = none) (ha : PE X a (tE X G i)) (hT : PE X (.Name x p2) (tC (.ty (tyS t)))) (hs : starEach [a, .Name x p2] X.env = (false, eval a X.env) :: starEach [.Name x p2] X.env)
    (hs2 : starEach [.Name x p2] X.env = (false, eval (.Name x p2) X.env) :: starEach [] X.env) (hpl : (backTo pos (starEach [.Name x p2] X.env)).any (·.1) = false) : PE X (.Call (.Name "isinstance" p) [a, .Name x p2] [] pos) (tE X G (.bi (.isinst t) [i])) := by
  refine pe_mono (pe_callB call_isi hg hm PyProof.Rows.boot_isinstance (pa_cons ha (pa_cons hT pa_nil hs2) hs) (by decide) (by decide) hs hpl) fun σ H Q q => ?_
  obtain ⟨fr, L, p, fr', ok, l, ee, q⟩ := q
  unfold ev at ee
  obtain ⟨⟨ps, f1⟩, e1, ee⟩ := bnd ee
  obtain ⟨ds, e2, ee⟩ := bnd ee
  obtain ⟨z, e3, ee⟩ := mpd ee
  cases ee
  unfold evs evs at e1
  obtain ⟨⟨p1, f2⟩, e4, e1⟩ := bnd e1
  obtain ⟨r, e5, e1⟩ := mpd e1
  cases e5
  cases e1
  refine ⟨fr, L, p1, f2, ok, l, e4, fun v H1 ok1 o => ?_⟩
  have o2 := o.looks e2
  match ds, e3 with
  | [d], e3 =>
    cases e3
    obtain ⟨F, h1⟩ := o2.one
    exact ⟨v, .ty (tyS t), .type (tyD d), .type (tyS t), isTy t d, rfl, .ty _, ty_of h1, kit_tab X.K t d, q _ H1 ok1 (hold1 (o2.sc rfl))⟩
end
end Tr

set_option Elab.async false
set_option linter.all false
set_option maxRecDepth 100000
set_option maxHeartbeats 1000000
/-! Lists of lists of one's own; two clauses; calls by names. -/
namespace Tr
open PySem PySem.Spec PyProof.Rows L2
section
variable {K : PySem.W.Frag} {F : Addr → Prop} {H H' : Hp} {L : List (V × Vl)}
theorem Live.oo_nil {a : Addr} (l : Live K H ((.ref a, .ol []) :: L)) : Live K H ((.ref a, .oo []) :: L) := by
  obtain ⟨fs, nd, r⟩ := l
  cases r with
  | cons h1 h2 =>
    cases h1 with
    | ol e1 e2 =>
      cases e2
      exact ⟨_, nd, .cons (f := [a]) (.oo e1 .nil) h2⟩
theorem RelOs.len {vs : List V} {dss : List (List D)} {fs : List Addr} (h : RelOs K F H vs dss fs) : vs.length = dss.length := by
  induction h with
  | nil => rfl
  | cons _ _ _ ih => simp [ih]
theorem RelOs.snoc {vs : List V} {dss : List (List D)} {fs : List Addr} (h : RelOs K F H vs dss fs) {b : Addr} {xs : List V} {ds : List D} (e : H b = some (.lst xs)) (r : RelDs K F H xs ds) : RelOs K F H (vs ++ [.ref b]) (dss ++ [ds]) (fs ++ [b]) := by
  induction h with
  | nil => exact .cons e r .nil
  | cons h1 h2 _ ih => exact .cons h1 h2 ih
theorem RelOs.at_ {vs : List V} {dss : List (List D)} {fs : List Addr} (h : RelOs K F H vs dss fs) : ∀ {k : Nat} {ds : List D}, dss[k]? = some ds → ∃ b zs, vs[k]? = some (.ref b) ∧ H b = some (.lst zs) ∧ RelDs K F H zs ds ∧ b ∈ fs := by
  induction h with
  | nil => intro k ds e; simp at e
  | @cons a xs ds0 vs dss fs h1 h2 h3 ih =>
    intro k ds e
    cases k with
    | zero =>
      simp at e
      subst e
      exact ⟨a, xs, rfl, h1, h2, List.mem_cons_self⟩
    | succ k =>
      obtain ⟨b, zs, e1, e2, e3, e4⟩ := ih (k := k) (by simpa using e)
      exact ⟨b, zs, by simpa using e1, e2, e3, List.mem_cons_of_mem _ e4⟩
theorem RelOs.put {F' : Addr → Prop} {vs : List V} {dss : List (List D)} {fs : List Addr} (h : RelOs K F H vs dss fs) (kp : Kp F F' H H') (nd : fs.Nodup) : ∀ {k : Nat} {b : Addr} {ds' : List D} {zs' : List V}, vs[k]? = some (.ref b) → H' b = some (.lst zs') → RelDs K F' H' zs' ds' → (∀ a ∈ fs, a ≠ b → H' a = H a) → (k < dss.length) → (∀ j, vs[j]? = some (.ref b) → j = k) → RelOs K F' H' vs (dss.set k ds') fs := by
  induction h with
  | nil => intro k b ds' zs' e _ _ _ hk _; simp at hk
  | @cons a xs ds0 vs dss fs h1 h2 h3 ih =>
    intro k b ds' zs' e hb r hne hk hu
    obtain ⟨na, nd2⟩ := List.nodup_cons.mp nd
    cases k with
    | zero =>
      simp at e
      subst e
      refine .cons hb r (h3.kp kp fun c hc => hne c (List.mem_cons_of_mem _ hc) fun z => na (z ▸ hc))
    | succ k =>
      have ab : a ≠ b := fun z => by
        have := hu 0 (by simp [z])
        omega
      refine .cons ((hne a List.mem_cons_self ab).trans h1) (RelDs.kp kp _ _ h2) (ih nd2 (by simpa using e) hb r (fun c hc => hne c (List.mem_cons_of_mem _ hc)) (by simpa using hk) fun j hj => ?_)
      have := hu (j + 1) (by simpa using hj)
      omega
/-- one more inner list -/
theorem Live.oo_app {a : Addr} {acc : List (List D)} {y : V} {ds : List D} (l : Live K H ((.ref a, .oo acc) :: (y, .ol ds) :: L)) : ∃ xs, H a = some (.lst xs) ∧ xs.length = acc.length ∧ Live K (upd H a (.lst (xs ++ [y]))) ((.ref a, .oo (acc ++ [ds])) :: L) := by
  obtain ⟨fs, nd, r⟩ := l
  cases r with
  | @cons _ _ _ f gs h1 h2 =>
    cases h1 with
    | @oo _ xs _ g e1 e2 =>
      cases h2 with
      | @cons _ _ _ f2 gs2 h3 h4 =>
        cases h3 with
        | @ol b zs _ e3 e4 =>
          refine ⟨xs, e1, e2.len, ?_⟩
          have nd' : (a :: (g ++ ([b] ++ gs2))).Nodup := nd
          obtain ⟨na, nd1⟩ := List.nodup_cons.mp nd'
          have kp : Kp (· ∈ (a :: g) ++ ([b] ++ gs2)) (· ∈ (a :: (g ++ [b])) ++ gs2) H (upd H a (.lst (xs ++ [.ref b]))) := Kp.write (by simp) fun c q => by
            simp only [List.mem_append, List.mem_cons, List.not_mem_nil, or_false] at q ⊢
            rcases q with (q | q | q) | q
            · exact .inl (.inl q)
            · exact .inl (.inr q)
            · exact .inr (.inl q)
            · exact .inr (.inr q)
          have nb : b ≠ a := fun z => na (by simp [z])
          refine ⟨(a :: (g ++ [b])) ++ gs2, ?_, .cons (f := a :: (g ++ [b])) (.oo upd_same ?_) (h4.kp kp fun c q => upd_ne fun z => na (by simp [← z, q]))⟩
          · have e : (a :: (g ++ [b])) ++ gs2 = a :: (g ++ ([b] ++ gs2)) := by simp
            rw [e]
            exact nd'
          · have s := RelOs.snoc (F := (· ∈ (a :: g) ++ ([b] ++ gs2))) e2 e3 e4
            exact s.kp kp fun c q => upd_ne fun z => na (by
              rw [← z]
              simp only [List.mem_append, List.mem_cons, List.not_mem_nil, or_false] at q ⊢
              rcases q with q | q
              · exact .inl q
              · exact .inr (.inl q))
/-- an inner list, looked at and written -/
theorem Live.oo_at {a : Addr} {xss : List (List D)} {k : Nat} {ys : List D} (l : Live K H ((.ref a, .oo xss) :: L)) (hk : xss[k]? = some ys) : ∃ xs b zs, H a = some (.lst xs) ∧ xs.length = xss.length ∧ xs[k]? = some (.ref b) ∧ H b = some (.lst zs) ∧ zs.length = ys.length ∧
    (∀ (n : Nat) (z : Int), ys[n]? = some (.int z) → zs[n]? = some (.int z)) ∧ ∀ (m : Nat) (n : Int), Live K (upd H b (.lst (zs.set m (.int n)))) ((.ref a, .oo (xss.set k (ys.set m (.int n)))) :: L) := by
  obtain ⟨fs, nd, r⟩ := l
  cases r with
  | @cons _ _ _ f gs h1 h2 =>
    cases h1 with
    | @oo _ xs _ g e1 e2 =>
      obtain ⟨b, zs, q1, q2, q3, q4⟩ := e2.at_ hk
      have nd' : (a :: (g ++ gs)).Nodup := nd
      obtain ⟨na, nd1⟩ := List.nodup_cons.mp nd'
      have ndg := (List.nodup_append.mp nd1).1
      have nb : a ≠ b := fun z => na (by simp [z, q4])
      refine ⟨xs, b, zs, e1, e2.len, q1, q2, q3.length, fun n z hz => ?_, fun m n => ?_⟩
      · obtain ⟨v, w1, w2⟩ := q3.getD hz
        cases w2
        exact w1
      · have kp : Kp (· ∈ (a :: g) ++ gs) (· ∈ (a :: g) ++ gs) H (upd H b (.lst (zs.set m (.int n)))) := Kp.write (by simp [q4]) fun c q => q
        have uniq : ∀ {vs : List V} {dss : List (List D)} {fs : List Addr}, RelOs K (· ∈ (a :: g) ++ gs) H vs dss fs → fs.Nodup → ∀ i j : Nat, vs[i]? = some (.ref b) → vs[j]? = some (.ref b) → i = j := by
          intro vs dss fs h
          induction h with
          | nil => intro _ i j e; simp at e
          | @cons c _ _ vs dss fs _ _ h3 ih =>
            intro nd i j e1 e2
            obtain ⟨nc, nd2⟩ := List.nodup_cons.mp nd
            have mem : ∀ i : Nat, vs[i]? = some (V.ref b) → b ∈ fs := by
              intro i hi
              clear e1 e2 ih nd nc nd2
              induction h3 generalizing i with
              | nil => simp at hi
              | cons _ _ _ ih3 =>
                cases i with
                | zero => simp at hi; rw [hi]; exact List.mem_cons_self
                | succ i => exact List.mem_cons_of_mem _ (ih3 i (by simpa using hi))
            cases i with
            | zero =>
              cases j with
              | zero => rfl
              | succ j =>
                simp at e1
                exact absurd (mem j (by simpa using e2)) (e1 ▸ nc)
            | succ i =>
              cases j with
              | zero =>
                simp at e2
                exact absurd (mem i (by simpa using e1)) (e2 ▸ nc)
              | succ j => rw [ih nd2 i j (by simpa using e1) (by simpa using e2)]
        have hkl : k < xss.length := (List.getElem?_eq_some_iff.mp hk).1
        refine ⟨(a :: g) ++ gs, nd, .cons (f := a :: g) (.oo ((upd_ne nb).trans e1) ?_) (h2.kp kp fun c q => upd_ne fun z => ?_)⟩
        · refine e2.put kp ndg q1 upd_same ((RelDs.kp kp _ _ q3).set (.int n) m) (fun c _ hc => upd_ne hc) hkl fun j hj => (uniq e2 ndg j k hj q1)
        · exact (List.nodup_append.mp nd1).2.2 b q4 c q (z ▸ rfl)
end
section
variable {X : Cx} {G : Fs} {i v : E} {lk : List Nat}
theorem atI_of {xs : List V} {n : Nat} {k : Int} {j : Nat} {x : V} (hl : xs.length = n) (hp : placeD n k = some j) (hx : xs[j]? = some x) : atI xs k = some x := by
  unfold atI
  rw [hl]
  unfold placeD at hp
  rw [hp]
  exact hx
theorem idx_int {ys : List D} {b z : Int} (h : idxD (.list ys) (.int b) = some (.int z)) : ∃ m, placeD ys.length b = some m ∧ ys[m]? = some (.int z) := by
  have h : ((placeD ys.length b).bind fun j => ys[j]?) = some (.int z) := h
  obtain ⟨m, h1, h2⟩ := bnd h
  exact ⟨m, h1, h2⟩
theorem int_of {K : PySem.W.Frag} {H : Hp} {v : V} {z : Int} {L : List (V × Vl)} (l : Live K H ((v, .fz (.int z)) :: L)) : v = .int z := by
  obtain ⟨fs, nd, r⟩ := l
  cases r with
  | cons h1 h2 =>
    cases h1 with
    | fz h1 => cases h1; rfl
theorem oo_ref {K : PySem.W.Frag} {H : Hp} {v : V} {xss : List (List D)} {L : List (V × Vl)} (l : Live K H ((v, .oo xss) :: L)) : ∃ a, v = .ref a := by
  obtain ⟨fs, nd, r⟩ := l
  cases r with
  | cons h1 h2 =>
    cases h1 with
    | oo _ _ => exact ⟨_, rfl⟩
theorem s_idx2 {s j : Nat} {a ji : Expr} {e : Expr} {p1 p2 : Pos} (ho : PE X a (tVar s)) (hi : PE X e (tE X G i)) (hj : PE X ji (tVar j)) (n1 : PlainIx e) (n2 : PlainIx ji) : PE X (.Subscript (.Subscript a e p1) ji p2) (tE X G (.idx2 s i j)) := by
  refine pe_mono (pe_ix ix_seq (pe_ix ix_seq ho hi n1) hj n2) fun σ H Q q => ?_
  obtain ⟨fr, L, p, fr', ok, l, ee, q⟩ := q
  unfold ev at ee
  split at ee
  · rename_i xs0 h0
    obtain ⟨⟨p1, f1⟩, e1, ee⟩ := bnd ee
    dsimp only at ee
    split at ee
    · rename_i av xss bv h1 h2 h3
      obtain ⟨k, e2, ee⟩ := bnd ee
      obtain ⟨ys, e3, ee⟩ := bnd ee
      split at ee
      · rename_i z e4
        cases ee
        obtain ⟨w, hw⟩ := ok.has _ _ h0
        refine ⟨w, hw, fr, L, p1, fr', ok, l, e1, fun y H1 ok1 o => ?_⟩
        obtain ⟨F, r1⟩ := (o.look1 h1).one
        have := r1.int
        subst this
        have l1 : Live X.K H1 ((w, .oo xss) :: (slots σ (fr'.set s none) ++ L)) := o.live.perm (List.Perm.append_right L (slots_at hw h2))
        obtain ⟨aa, rfl⟩ := oo_ref l1
        obtain ⟨xs, b, zs, q1, q2, q3, q4, q5, q6, _⟩ := l1.oo_at e3
        obtain ⟨wj, hwj⟩ := ok1.has _ _ h3
        have l2 : Live X.K H1 ((wj, .fz (.int bv)) :: (slots σ (fr'.set j none) ++ L)) := o.live.perm (List.Perm.append_right L (slots_at hwj h3))
        have := int_of l2
        subst this
        obtain ⟨m, m1, m2⟩ := idx_int e4
        refine .inl ⟨aa, xs, av, .ref b, rfl, rfl, SqL.of q1, atI_of q2 e2 q3, _, hwj, .inl ⟨b, zs, bv, .int z, rfl, rfl, SqL.of q4, atI_of q5 m1 (q6 _ _ m2), q _ _ ok1 (hold1 (o.live.scal rfl))⟩⟩
      · cases ee
    · cases ee
  · cases ee
theorem x_sidx2 {s j : Nat} {a ji e ve : Expr} {p1 p2 pos : Pos} (ho : PE X a (tVar s)) (hi : PE X e (tE X G i)) (hj : PE X ji (tVar j)) (hv : PE X ve (tE X G v)) (n1 : PlainIx e)
    (ha : ∀ v, assign (.Subscript (.Subscript a e p1) ji p2) X.env v = (do
      let ov ← holding [v] (eval (.Subscript a e p1) X.env)
      let iv ← holding [v, ov] (eval ji X.env)
      standAt p2
      holding [v, ov, iv] (setItem ov iv v)
      release [v, ov, iv] []))
    (hs : swapsWithSole [.Subscript (.Subscript a e p1) ji p2] ve pos.line X.env = pure false) (hw : swappedStores [.Subscript (.Subscript a e p1) ji p2] ve X.env = pure none) (h1 : (assignEach [.Subscript (.Subscript a e p1) ji p2] X.env).map (·.2) = [assign (.Subscript (.Subscript a e p1) ji p2) X.env]) :
    PS X (.Assign [.Subscript (.Subscript a e p1) ji p2] ve pos) (tSt X G lk (.sidx2 s i j v)) := by
  refine ps_mono (ps_asg hv (pg_sub (pe_ix ix_seq ho hi n1) hj set_list ha) hs hw h1) fun D σ H q => ?_
  obtain ⟨fr, L, r, fr', ok, l, ee, q⟩ := q
  unfold Tr.exec at ee
  obtain ⟨⟨p1', f1⟩, e1, ee⟩ := bnd ee
  obtain ⟨⟨x, f2⟩, e2, ee⟩ := bnd ee
  dsimp only at ee
  split at ee
  · rename_i n xs0 h0
    obtain ⟨⟨p2', f3⟩, e3, ee⟩ := bnd ee
    dsimp only at ee
    split at ee
    · rename_i av xss bv h1 h2 h3
      obtain ⟨k, e4, ee⟩ := bnd ee
      obtain ⟨ys, e5, ee⟩ := bnd ee
      obtain ⟨m, e6, ee⟩ := mpd ee
      cases ee
      refine ⟨fr, L, p1', f1, ok, l, e1, fun vv H1 ok1 o => ?_⟩
      obtain ⟨ok2, l2⟩ := o.force ok1 e2
      have := int_of l2
      subst this
      obtain ⟨w, hw'⟩ := ok2.has _ _ h0
      refine ⟨w, hw', f2, L, p2', f3, ok2, l2.tail, e3, fun y H3 ok3 o3 => ?_⟩
      obtain ⟨F, r1⟩ := (o3.look1 h1).one
      have := r1.int
      subst this
      have l3 : Live X.K H3 ((w, .oo xss) :: (slots σ (f3.set s none) ++ L)) := o3.live.perm (List.Perm.append_right L (slots_at hw' h2))
      obtain ⟨aa, rfl⟩ := oo_ref l3
      obtain ⟨xs, b, zs, q1, q2, q3, q4, q5, _, q7⟩ := l3.oo_at e5
      obtain ⟨wj, hwj⟩ := ok3.has _ _ h3
      have l4 : Live X.K H3 ((wj, .fz (.int bv)) :: (slots σ (f3.set j none) ++ L)) := o3.live.perm (List.Perm.append_right L (slots_at hwj h3))
      have := int_of l4
      subst this
      refine .inl ⟨aa, xs, av, .ref b, rfl, rfl, SqL.of q1, atI_of q2 e4 q3, _, hwj, b, zs, bv, m, rfl, rfl, q4, by rw [q5]; exact e6, ?_⟩
      have hn : s < f3.length := (List.getElem?_eq_some_iff.mp h2).1
      refine q σ _ (ok3.put hw') KeepL.refl ?_
      refine (q7 m n).perm ?_
      exact (List.Perm.append_right L (slots_put hw' hn)).symm
    · cases ee
  · cases ee
end
end Tr

set_option Elab.async false
set_option linter.all false
set_option maxRecDepth 100000
set_option maxHeartbeats 1000000
/-! Comprehensions that make lists of one's own lists; of two clauses. -/
namespace Tr
open PySem PySem.Spec PyProof.Rows L2
theorem ols_len : ∀ {xs : List Vl} {xss : List (List D)}, olsOf xs = some xss → xss.length = xs.length
  | [], _, h => by unfold olsOf at h; cases h; rfl
  | x :: xs, xss, h => by
    cases x with
    | ol ds =>
      unfold olsOf at h
      obtain ⟨m, h1, rfl⟩ := mpd h
      simp [ols_len h1]
    | _ => unfold olsOf at h; cases h
theorem ev_compO {G : Fs} {elt : E} {tg : Tg} {it : It} {cond : Option E} {ws : List Nat} {fr fr' : Fm} {p : Pd} (h : ev G (.comp elt tg it cond ws true) fr = some (p, fr')) :
    ∃ ds f1 xs xss f2, its G it fr = some (ds, f1) ∧ compN (turnC G elt tg cond ws) ds f1 = some (xs, f2) ∧ okSz xs.length = true ∧ olsOf xs = some xss ∧ p = .st (.oo xss) ∧ fr' = unwipe f1 f2 ws := by
  unfold ev at h
  obtain ⟨⟨ds, f1⟩, e1, h⟩ := bnd h
  obtain ⟨⟨xs, f2⟩, e2, h⟩ := bnd h
  obtain ⟨c, h⟩ := ite_o h
  rw [if_pos rfl] at h
  obtain ⟨xss, e3, h⟩ := mpd h
  cases h
  exact ⟨ds, f1, xs, xss, f2, e1, e2, c, e3, rfl, rfl⟩
section
variable {X : Cx} {G : Fs} {e' : E} {tg' : Tg} {it : It} {cond : Option E} {ws : List Nat}
theorem comp_coreO {σ : St} {H : Hp} {Q : VK} (hws : ∀ i ∈ tg'.ixs, i ∈ ws) (h : tE X G (.comp e' tg' it cond ws true) σ H Q) : tLc (tI X G it) (gT X.K [] tg') (tB' X.K (truO G cond)) (tP X.K (ev G e')) ws σ H Q := by
  obtain ⟨fr, L, p, fr', ok, l, ee, q⟩ := h
  obtain ⟨ds, f1, xs, xss, f2, e1, e2, sz, eo, rfl, rfl⟩ := ev_compO ee
  refine ⟨fr, L, ds, f1, ok, l, e1, fun J H1 A ok1 l1 wk D hD => ?_⟩
  let SW : Fm → List (V × Vl) := fun g => slots (L2.wipe σ ws) (wipeF g ws)
  let W0 := slots σ (keepP ws 0 f1)
  let Pv : Nat → Hp → Prop := fun i H => ∃ (fi : Fm) (acc more : List (List Tr.D)) (rest : List Vl), fi.length = f1.length ∧ SlOk (L2.wipe σ ws) (wipeF fi ws) ∧ Live X.K H ((.ref D, .oo acc) :: (A ++ (SW fi ++ (W0 ++ L)))) ∧
    compN (turnC G e' tg' cond ws) (ds.drop i) fi = some (rest, f2) ∧ olsOf rest = some more ∧ xss = acc ++ more
  refine ⟨fun i m H => m = ds.length - i ∧ i ≤ ds.length ∧ Pv i H, ⟨ds.length, by simp, Nat.zero_le _, f1, [], xss, xs, rfl, ok1.wipe ws, ?_, e2, eo, rfl⟩, ?_⟩
  · refine Live.oo_nil (Live.newLst (vs := []) (ds := []) rfl (l1.perm ?_) hD)
    refine List.Perm.append_left A ?_
    refine (List.Perm.append_right L (slots_split ws)).trans ?_
    show (W0 ++ SW f1 ++ L).Perm (SW f1 ++ (W0 ++ L))
    rw [List.append_assoc]
    exact perm_mid _ _ _
  · rintro i m H ⟨rfl, hi, fi, acc, more, rest, hlen, okw, lv, ec, er, ex⟩
    have lvA : Live X.K H (A ++ ((.ref D, .oo acc) :: (SW fi ++ (W0 ++ L)))) := lv.perm (zip_perm_mid _ _ _)
    by_cases hlt : i < ds.length
    · have hd : ds[i]? = some ds[i] := List.getElem?_eq_getElem hlt
      have hdrop : ds.drop i = ds[i] :: ds.drop (i + 1) := List.drop_eq_getElem_cons hlt
      rw [hdrop] at ec
      unfold compN at ec
      obtain ⟨⟨o, f3⟩, e3, ec⟩ := bnd ec
      obtain ⟨⟨rest', f4⟩, e4, ec⟩ := mpd ec
      have eff := (Prod.mk.inj ec).2
      have ers := (Prod.mk.inj ec).1
      dsimp only at eff ers
      subst eff
      unfold turnC at e3
      obtain ⟨g1, e5, e3⟩ := bnd e3
      obtain ⟨⟨b, g2⟩, e6, e3⟩ := bnd e3
      refine .inr ⟨wk.go i H _ hlt lvA, Pv (i + 1), fun H' p' => ⟨ds.length - (i + 1), by omega, rfl, hlt, p'⟩, fun x H' y => ?_⟩
      have l2 := wk.yld i H x H' _ _ hd lvA y
      let Rest := A ++ ((.ref D, .oo acc) :: (W0 ++ L))
      have l3 : Live X.K H' ((x, .fz ds[i]) :: (slots (L2.wipe σ ws) (wipeF fi ws) ++ Rest)) := by
        refine l2.perm (List.Perm.cons _ ?_)
        show (A ++ ((.ref D, .oo acc) :: (SW fi ++ (W0 ++ L)))).Perm (SW fi ++ (A ++ ((.ref D, .oo acc) :: (W0 ++ L))))
        refine List.Perm.trans ?_ (perm_mid A (SW fi) _)
        exact List.Perm.append_left A (zip_perm_mid _ _ _)
      refine ⟨wipeF fi ws, Rest, .fz ds[i], g1, okw, l3, e5, fun σ2 ok2 kp l4 => ?_⟩
      have len2 : σ2.length = σ.length := by
        rw [ok2.len, (putTg_flen (n := sizeOf tg') (lk := [])).1 (Nat.le_refl _) e5]
        unfold wipeF
        rw [wipeP_len, hlen, ← ok1.len]
      have wsame : L2.wipe σ2 ws = L2.wipe σ ws := by
        refine List.ext_getElem? fun j => ?_
        rw [wipe_at, wipe_at]
        cases hj : ws.contains j with
        | true =>
          rw [if_pos rfl, if_pos rfl]
          by_cases hjl : j < σ.length
          · rw [List.getElem?_eq_getElem hjl, List.getElem?_eq_getElem (by omega)]
            rfl
          · rw [List.getElem?_eq_none (by omega), List.getElem?_eq_none (by omega)]
        | false =>
          rw [if_neg (by decide), if_neg (by decide)]
          have hn : j ∉ tg'.ixs := fun z => by
            have := hws j z
            rw [← List.contains_iff_mem] at this
            rw [hj] at this; cases this
          rw [kp.1 j hn, wipe_at, hj, if_neg (by decide)]
      have again : ∀ {g : Fm} {acc' more' : List (List Tr.D)} {H4 : Hp}, SlOk σ2 g → Live X.K H4 ((.ref D, .oo acc') :: (slots σ2 g ++ (A ++ (W0 ++ L)))) → compN (turnC G e' tg' cond ws) (ds.drop (i + 1)) g = some (rest', f4) → olsOf rest' = some more' → xss = acc' ++ more' → Pv (i + 1) H4 := fun {g acc' more' H4} okg lg eg eo2 exx => by
        refine ⟨g, acc', more', rest', ?_, ?_, ?_, eg, eo2, exx⟩
        · rw [← okg.len, len2, ok1.len]
        · rw [← wsame]; exact okg.wipe ws
        · have lk : Live X.K H4 (slots σ2 (keepP ws 0 g) ++ ((.ref D, .oo acc') :: (A ++ (SW g ++ (W0 ++ L))))) := by
            refine lg.perm ?_
            refine (List.Perm.cons _ (List.Perm.append_right _ (slots_split ws))).trans ?_
            rw [wsame]
            show ((.ref D, .oo acc') :: ((slots σ2 (keepP ws 0 g) ++ SW g) ++ (A ++ (W0 ++ L)))).Perm _
            rw [List.append_assoc]
            refine List.Perm.trans ?_ (zip_perm_mid _ _ _)
            exact List.Perm.cons _ (List.Perm.append_left _ (perm_mid _ _ _))
          exact lk.right
      refine ⟨wsame, g1, Rest, b, g2, ok2, l4, e6, fun H3 ok3 l5 => ?_⟩
      cases b with
      | false =>
        rw [if_neg Bool.false_ne_true] at e3 ⊢
        cases e3
        have ers : rest' = rest := ers
        refine again ok3 (l5.perm ?_) e4 (by rw [ers]; exact er) ex
        show (slots σ2 g2 ++ (A ++ ((.ref D, .oo acc) :: (W0 ++ L)))).Perm _
        refine (List.Perm.append_left _ (zip_perm_mid _ _ _).symm).trans (zip_perm_mid _ _ _).symm
      | true =>
        rw [if_pos rfl] at e3 ⊢
        obtain ⟨⟨p2, g3⟩, e7, e3⟩ := bnd e3
        obtain ⟨⟨x', g4⟩, e8, e3⟩ := mpd e3
        cases e3
        have ers' : x' :: rest' = rest := ers
        rw [← ers'] at er
        obtain ⟨ds0, more', rfl, er2, rfl⟩ : ∃ ds0 more', x' = .ol ds0 ∧ olsOf rest' = some more' ∧ more = ds0 :: more' := by
          cases x' with
          | ol ds0 =>
            unfold olsOf at er
            obtain ⟨m', h1, h2⟩ := mpd er
            exact ⟨ds0, m', rfl, h1, h2.symm⟩
          | _ => unfold olsOf at er; cases er
        refine ⟨g2, Rest, p2, g3, ok3, l5, e7, fun y H4 ok4 o4 => ?_⟩
        obtain ⟨ok5, l6⟩ := o4.force ok4 e8
        have l8 : Live X.K H4 ((.ref D, .oo acc) :: (y, .ol ds0) :: (slots σ2 g4 ++ (A ++ (W0 ++ L)))) := by
          refine l6.perm ?_
          show ((y, .ol ds0) :: (slots σ2 g4 ++ (A ++ ((.ref D, .oo acc) :: (W0 ++ L))))).Perm ((.ref D, .oo acc) :: (y, .ol ds0) :: (slots σ2 g4 ++ (A ++ (W0 ++ L))))
          refine (List.Perm.cons _ ?_).trans (List.Perm.swap _ _ _)
          exact (List.Perm.append_left _ (zip_perm_mid _ _ _).symm).trans (zip_perm_mid _ _ _).symm
        obtain ⟨xd, hH, hxl, lw⟩ := l8.oo_app
        refine ⟨xd, hH, ?_, ?_⟩
        · rw [hxl]
          have z := szOk sz
          have z2 := ols_len eo
          rw [ex, List.length_append, List.length_cons] at z2
          omega
        · exact again ok5 lw e4 er2 (by rw [ex, List.append_assoc, List.singleton_append])
    · have ei : i = ds.length := by omega
      subst ei
      rw [List.drop_length] at ec
      unfold compN at ec
      cases ec
      unfold olsOf at er
      cases er
      rw [List.append_nil] at ex
      subst ex
      refine .inl ⟨wk.stop H _ lvA, q _ H (ok1.unwipe okw hlen.symm) (hold1 (lvA.right.perm (List.Perm.cons _ ?_)))⟩
      refine List.Perm.trans ?_ (List.Perm.append_right L (slots_unwipe ws hlen.symm)).symm
      show (SW f2 ++ (W0 ++ L)).Perm (W0 ++ SW f2 ++ L)
      rw [List.append_assoc]
      exact perm_mid _ _ _
theorem inner_core {σ : L2.St} {H : Hp} {g0 : Fm} {L : List (V × Vl)} {D : Addr} {acc0 xs0 : List Vl} {ds : List Tr.D} {f1 f2 : Fm} {Nx : Hp → Prop} (hws : ∀ i ∈ tg'.ixs, i ∈ ws) (ok : SlOk σ g0) (l : Live X.K H ((.ref D, .ol (froz acc0)) :: (slots σ g0 ++ L)))
    (e1 : its G it g0 = some (ds, f1)) (e2 : compN (turnC G e' tg' cond ws) ds f1 = some (xs0, f2)) (sz : acc0.length + xs0.length ≤ 16777216)
    (fin : ∀ H, f2.length = f1.length → SlOk (L2.wipe σ ws) (wipeF f2 ws) → Live X.K H ((.ref D, .ol (froz (acc0 ++ xs0))) :: (slots (L2.wipe σ ws) (wipeF f2 ws) ++ L)) → Nx H) :
    tI X G it σ H fun J1 H4 => ∃ W1 : Nat → Nat → Hp → Prop, (∃ m, W1 0 m H4) ∧ ∀ j k H, W1 j k H → (J1.stop j H ∧ Nx H) ∨ (J1.go j H ∧ ∃ Nx1 : Hp → Prop, (∀ H', Nx1 H' → ∃ k', k' < k ∧ W1 (j + 1) k' H') ∧ ∀ x H', J1.yld j H x H' →
      gT X.K [] tg' x (L2.wipe σ ws) H' fun σ3 H5 => L2.wipe σ3 ws = L2.wipe σ ws ∧ tB' X.K (truO G cond) σ3 H5 fun b H6 => if b = true then tP X.K (ev G e') σ3 H6 fun y H7 => ∃ acc, H7 D = some (.lst acc) ∧ acc.length < sizeLine ∧ Nx1 (upd H7 D (.lst (acc ++ [y]))) else Nx1 H6) := by
  refine ⟨g0, (.ref D, .ol (froz acc0)) :: L, ds, f1, ok, l.perm (zip_perm_mid _ _ _), e1, fun J H1 A ok1 l1 wk => ?_⟩
  generalize hx : acc0 ++ xs0 = xs at *
  have sz : xs.length ≤ 16777216 := by rw [← hx, List.length_append]; exact sz
  let SW : Fm → List (V × Vl) := fun g => slots (L2.wipe σ ws) (wipeF g ws)
  let W0 := slots σ (keepP ws 0 f1)
  let Pv : Nat → Hp → Prop := fun i H => ∃ (fi : Fm) (acc rest : List Vl), fi.length = f1.length ∧ SlOk (L2.wipe σ ws) (wipeF fi ws) ∧ Live X.K H ((.ref D, .ol (froz acc)) :: (A ++ (SW fi ++ (W0 ++ L)))) ∧
    compN (turnC G e' tg' cond ws) (ds.drop i) fi = some (rest, f2) ∧ xs = acc ++ rest
  refine ⟨fun i m H => m = ds.length - i ∧ i ≤ ds.length ∧ Pv i H, ⟨ds.length, by simp, Nat.zero_le _, f1, acc0, xs0, rfl, ok1.wipe ws, ?_, e2, hx.symm⟩, ?_⟩
  · have l2 : Live X.K H1 ((.ref D, .ol (froz acc0)) :: (A ++ (slots σ f1 ++ L))) := l1.perm ((List.Perm.append_left A (zip_perm_mid _ _ _).symm).trans (zip_perm_mid _ _ _).symm)
    refine l2.perm (List.Perm.cons _ (List.Perm.append_left A ?_))
    refine (List.Perm.append_right L (slots_split ws)).trans ?_
    show (W0 ++ SW f1 ++ L).Perm (SW f1 ++ (W0 ++ L))
    rw [List.append_assoc]
    exact perm_mid _ _ _
  · rintro i m H ⟨rfl, hi, fi, acc, rest, hlen, okw, lv, ec, ex⟩
    have lvA : Live X.K H (A ++ ((.ref D, .ol (froz acc)) :: (SW fi ++ (W0 ++ L)))) := lv.perm (zip_perm_mid _ _ _)
    by_cases hlt : i < ds.length
    · have hd : ds[i]? = some ds[i] := List.getElem?_eq_getElem hlt
      have hdrop : ds.drop i = ds[i] :: ds.drop (i + 1) := List.drop_eq_getElem_cons hlt
      rw [hdrop] at ec
      unfold compN at ec
      obtain ⟨⟨o, f3⟩, e3, ec⟩ := bnd ec
      obtain ⟨⟨rest', f4⟩, e4, ec⟩ := mpd ec
      have eff := (Prod.mk.inj ec).2
      have ers := (Prod.mk.inj ec).1
      dsimp only at eff ers
      subst eff
      unfold turnC at e3
      obtain ⟨g1, e5, e3⟩ := bnd e3
      obtain ⟨⟨b, g2⟩, e6, e3⟩ := bnd e3
      refine .inr ⟨wk.go i H _ hlt lvA, Pv (i + 1), fun H' p' => ⟨ds.length - (i + 1), by omega, rfl, hlt, p'⟩, fun x H' y => ?_⟩
      have l2 := wk.yld i H x H' _ _ hd lvA y
      let Rest := A ++ ((.ref D, .ol (froz acc)) :: (W0 ++ L))
      have l3 : Live X.K H' ((x, .fz ds[i]) :: (slots (L2.wipe σ ws) (wipeF fi ws) ++ Rest)) := by
        refine l2.perm (List.Perm.cons _ ?_)
        show (A ++ ((.ref D, .ol (froz acc)) :: (SW fi ++ (W0 ++ L)))).Perm (SW fi ++ (A ++ ((.ref D, .ol (froz acc)) :: (W0 ++ L))))
        refine List.Perm.trans ?_ (perm_mid A (SW fi) _)
        exact List.Perm.append_left A (zip_perm_mid _ _ _)
      refine ⟨wipeF fi ws, Rest, .fz ds[i], g1, okw, l3, e5, fun σ2 ok2 kp l4 => ?_⟩
      have len2 : σ2.length = σ.length := by
        rw [ok2.len, (putTg_flen (n := sizeOf tg') (lk := [])).1 (Nat.le_refl _) e5]
        unfold wipeF
        rw [wipeP_len, hlen, ← ok1.len]
      have wsame : L2.wipe σ2 ws = L2.wipe σ ws := by
        refine List.ext_getElem? fun j => ?_
        rw [wipe_at, wipe_at]
        cases hj : ws.contains j with
        | true =>
          rw [if_pos rfl, if_pos rfl]
          by_cases hjl : j < σ.length
          · rw [List.getElem?_eq_getElem hjl, List.getElem?_eq_getElem (by omega)]
            rfl
          · rw [List.getElem?_eq_none (by omega), List.getElem?_eq_none (by omega)]
        | false =>
          rw [if_neg (by decide), if_neg (by decide)]
          have hn : j ∉ tg'.ixs := fun z => by
            have := hws j z
            rw [← List.contains_iff_mem] at this
            rw [hj] at this; cases this
          rw [kp.1 j hn, wipe_at, hj, if_neg (by decide)]
      have again : ∀ {g : Fm} {acc' : List Vl} {H4 : Hp}, SlOk σ2 g → Live X.K H4 ((.ref D, .ol (froz acc')) :: (slots σ2 g ++ (A ++ (W0 ++ L)))) → compN (turnC G e' tg' cond ws) (ds.drop (i + 1)) g = some (rest', f4) → xs = acc' ++ rest' → Pv (i + 1) H4 := fun {g acc' H4} okg lg eg exx => by
        refine ⟨g, acc', rest', ?_, ?_, ?_, eg, exx⟩
        · rw [← okg.len, len2, ok1.len]
        · rw [← wsame]; exact okg.wipe ws
        · have lk : Live X.K H4 (slots σ2 (keepP ws 0 g) ++ ((.ref D, .ol (froz acc')) :: (A ++ (SW g ++ (W0 ++ L))))) := by
            refine lg.perm ?_
            refine (List.Perm.cons _ (List.Perm.append_right _ (slots_split ws))).trans ?_
            rw [wsame]
            show ((.ref D, .ol (froz acc')) :: ((slots σ2 (keepP ws 0 g) ++ SW g) ++ (A ++ (W0 ++ L)))).Perm _
            rw [List.append_assoc]
            refine List.Perm.trans ?_ (zip_perm_mid _ _ _)
            exact List.Perm.cons _ (List.Perm.append_left _ (perm_mid _ _ _))
          exact lk.right
      refine ⟨wsame, g1, Rest, b, g2, ok2, l4, e6, fun H3 ok3 l5 => ?_⟩
      cases b with
      | false =>
        rw [if_neg Bool.false_ne_true] at e3 ⊢
        cases e3
        refine again ok3 (l5.perm ?_) e4 (by rw [ex, ← ers])
        show (slots σ2 g2 ++ (A ++ ((.ref D, .ol (froz acc)) :: (W0 ++ L)))).Perm _
        refine (List.Perm.append_left _ (zip_perm_mid _ _ _).symm).trans (zip_perm_mid _ _ _).symm
      | true =>
        rw [if_pos rfl] at e3 ⊢
        obtain ⟨⟨p2, g3⟩, e7, e3⟩ := bnd e3
        obtain ⟨⟨x', g4⟩, e8, e3⟩ := mpd e3
        cases e3
        refine ⟨g2, Rest, p2, g3, ok3, l5, e7, fun y H4 ok4 o4 => ?_⟩
        obtain ⟨ok5, l6⟩ := o4.force ok4 e8
        have l7 := l6.freeze (force_own e8)
        have l8 : Live X.K H4 ((.ref D, .ol (froz acc)) :: ([y].zip ([x'.strip].map Vl.fz) ++ (slots σ2 g4 ++ (A ++ (W0 ++ L))))) := by
          refine l7.perm ?_
          show ((y, .fz x'.strip) :: (slots σ2 g4 ++ (A ++ ((.ref D, .ol (froz acc)) :: (W0 ++ L))))).Perm ((.ref D, .ol (froz acc)) :: (y, .fz x'.strip) :: (slots σ2 g4 ++ (A ++ (W0 ++ L))))
          refine (List.Perm.cons _ ?_).trans (List.Perm.swap _ _ _)
          exact (List.Perm.append_left _ (zip_perm_mid _ _ _).symm).trans (zip_perm_mid _ _ _).symm
        obtain ⟨xd, hH, hxl, wr⟩ := l8.write (ds' := froz (acc ++ [x'])) rfl
        have ers' : x' :: rest' = rest := ers
        refine ⟨xd, hH, ?_, ?_⟩
        · rw [hxl, froz_len]
          have z := sz
          rw [sizeLine_eq]
          rw [ex, ← ers', List.length_append, List.length_cons] at z
          omega
        · refine again ok5 (wr (xd ++ [y]) fun F r1 r2 => ?_) e4 (by rw [ex, ← ers', List.append_assoc, List.singleton_append])
          have : froz (acc ++ [x']) = froz acc ++ [x'.strip] := by unfold froz; rw [List.map_append]; rfl
          rw [this]
          exact r1.append r2
    · have ei : i = ds.length := by omega
      subst ei
      rw [List.drop_length] at ec
      unfold compN at ec
      cases ec
      rw [List.append_nil] at ex
      subst ex
      refine .inl ⟨wk.stop H _ lvA, fin H hlen okw ?_⟩
      have l9 : Live X.K H (A ++ (W0 ++ ((.ref D, .ol (froz xs)) :: (SW f2 ++ L)))) := by
        refine lvA.perm (List.Perm.append_left A ?_)
        show ((.ref D, .ol (froz xs)) :: (SW f2 ++ (W0 ++ L))).Perm (W0 ++ ((.ref D, .ol (froz xs)) :: (SW f2 ++ L)))
        refine (List.Perm.cons _ (perm_mid _ _ _)).trans (zip_perm_mid _ _ _)
      exact l9.right.right
end
theorem wipe_wipe {σ : L2.St} {ws ws1 : List Nat} (h : ∀ i ∈ ws1, i ∈ ws) : L2.wipe (L2.wipe σ ws1) ws = L2.wipe σ ws := by
  refine List.ext_getElem? fun j => ?_
  rw [wipe_at, wipe_at, wipe_at]
  cases hj : ws.contains j with
  | true =>
    rw [if_pos rfl, if_pos rfl]
    split
    · rw [Option.map_map]; rfl
    · rfl
  | false =>
    have : ws1.contains j = false := by
      refine Bool.eq_false_iff.mpr fun z => ?_
      have := h j (List.contains_iff_mem.mp z)
      rw [← List.contains_iff_mem, hj] at this
      cases this
    rw [this]
    rfl
theorem wipeF_wipe {f : Fm} {ws ws1 : List Nat} (h : ∀ i ∈ ws1, i ∈ ws) : wipeF (wipeF f ws1) ws = wipeF f ws := by
  unfold wipeF
  refine List.ext_getElem? fun j => ?_
  rw [wipeP_at, wipeP_at, wipeP_at]
  simp only [Nat.zero_add]
  cases hj : ws.contains j with
  | true =>
    rw [if_pos rfl, if_pos rfl]
    split
    · rw [Option.map_map]; rfl
    · rfl
  | false =>
    have : ws1.contains j = false := by
      refine Bool.eq_false_iff.mpr fun z => ?_
      have := h j (List.contains_iff_mem.mp z)
      rw [← List.contains_iff_mem, hj] at this
      cases this
    rw [this]
    rfl
def turn2 (G : Fs) (elt : E) (tg : Tg) (cond : Option E) (tg1 : Tg) (it1 : It) (cond1 : Option E) (ws ws1 : List Nat) : Tr.D → Fm → R (List Vl) := fun d fr1 =>
  (putTg [] tg (.fz d) (wipeF fr1 ws)).bind fun fr2 => (truO G cond fr2).bind fun t => if t.1 then (its G it1 t.2).bind fun q1 => compN (turnC G elt tg1 cond1 ws1) q1.1 q1.2 else some ([], t.2)
theorem ev_comp2 {G : Fs} {elt : E} {tg : Tg} {it : It} {cond : Option E} {tg1 : Tg} {it1 : It} {cond1 : Option E} {ws ws1 : List Nat} {fr fr' : Fm} {p : Pd} (h : ev G (.comp2 elt tg it cond tg1 it1 cond1 ws ws1) fr = some (p, fr')) :
    ∃ ds f1 xs f2, its G it fr = some (ds, f1) ∧ compFl (turn2 G elt tg cond tg1 it1 cond1 ws ws1) ds f1 = some (xs, f2) ∧ okSz xs.length = true ∧ p = .st (.ol (froz xs)) ∧ fr' = unwipe f1 f2 ws := by
  unfold ev at h
  obtain ⟨⟨ds, f1⟩, e1, h⟩ := bnd h
  obtain ⟨⟨xs, f2⟩, e2, h⟩ := bnd h
  obtain ⟨c, h⟩ := ite_o h
  cases h
  exact ⟨ds, f1, xs, f2, e1, e2, c, rfl, rfl⟩
theorem compN_len {turn : Tr.D → Fm → R (Option Vl)} (ht : ∀ d f r f', turn d f = some (r, f') → f'.length = f.length) : ∀ {ds : List Tr.D} {f : Fm} {xs : List Vl} {f' : Fm}, compN turn ds f = some (xs, f') → f'.length = f.length
  | [], f, xs, f', h => by unfold compN at h; cases h; rfl
  | d :: ds, f, xs, f', h => by
    unfold compN at h
    obtain ⟨⟨r, f1⟩, e1, h⟩ := bnd h
    obtain ⟨⟨q, f2⟩, e2, h⟩ := mpd h
    cases h
    rw [compN_len ht e2, ht _ _ _ _ e1]
section
variable {X : Cx} {G : Fs} {e' : E} {tg' : Tg} {it : It} {cond : Option E} {ws : List Nat}
theorem comp2_core {σ : St} {H : Hp} {Q : VK} {tg1 : Tg} {it1 : It} {cond1 : Option E} {ws1 : List Nat} (hws : ∀ i ∈ tg'.ixs, i ∈ ws) (hws1 : ∀ i ∈ tg1.ixs, i ∈ ws1) (hsub : ∀ i ∈ ws1, i ∈ ws) (h : tE X G (.comp2 e' tg' it cond tg1 it1 cond1 ws ws1) σ H Q) : tLc2 (tI X G it) (gT X.K [] tg') (tB' X.K (truO G cond)) (tI X G it1) (gT X.K [] tg1) (tB' X.K (truO G cond1)) (tP X.K (ev G e')) ws ws1 σ H Q := by
  obtain ⟨fr, L, p, fr', ok, l, ee, q⟩ := h
  obtain ⟨ds, f1, xs, f2, e1, e2, sz, rfl, rfl⟩ := ev_comp2 ee
  refine ⟨fr, L, ds, f1, ok, l, e1, fun J H1 A ok1 l1 wk D hD => ?_⟩
  let SW : Fm → List (V × Vl) := fun g => slots (L2.wipe σ ws) (wipeF g ws)
  let W0 := slots σ (keepP ws 0 f1)
  let Pv : Nat → Hp → Prop := fun i H => ∃ (fi : Fm) (acc rest : List Vl), fi.length = f1.length ∧ SlOk (L2.wipe σ ws) (wipeF fi ws) ∧ Live X.K H ((.ref D, .ol (froz acc)) :: (A ++ (SW fi ++ (W0 ++ L)))) ∧
    compFl (turn2 G e' tg' cond tg1 it1 cond1 ws ws1) (ds.drop i) fi = some (rest, f2) ∧ xs = acc ++ rest
  refine ⟨fun i m H => m = ds.length - i ∧ i ≤ ds.length ∧ Pv i H, ⟨ds.length, by simp, Nat.zero_le _, f1, [], xs, rfl, ok1.wipe ws, ?_, e2, rfl⟩, ?_⟩
  · refine Live.newLst (vs := []) (ds := []) rfl (l1.perm ?_) hD
    refine List.Perm.append_left A ?_
    refine (List.Perm.append_right L (slots_split ws)).trans ?_
    show (W0 ++ SW f1 ++ L).Perm (SW f1 ++ (W0 ++ L))
    rw [List.append_assoc]
    exact perm_mid _ _ _
  · rintro i m H ⟨rfl, hi, fi, acc, rest, hlen, okw, lv, ec, ex⟩
    have lvA : Live X.K H (A ++ ((.ref D, .ol (froz acc)) :: (SW fi ++ (W0 ++ L)))) := lv.perm (zip_perm_mid _ _ _)
    by_cases hlt : i < ds.length
    · have hd : ds[i]? = some ds[i] := List.getElem?_eq_getElem hlt
      have hdrop : ds.drop i = ds[i] :: ds.drop (i + 1) := List.drop_eq_getElem_cons hlt
      rw [hdrop] at ec
      unfold compFl at ec
      obtain ⟨⟨o, f3⟩, e3, ec⟩ := bnd ec
      obtain ⟨⟨rest', f4⟩, e4, ec⟩ := mpd ec
      have eff := (Prod.mk.inj ec).2
      have ers := (Prod.mk.inj ec).1
      dsimp only at eff ers
      subst eff
      unfold turn2 at e3
      obtain ⟨g1, e5, e3⟩ := bnd e3
      obtain ⟨⟨b, g2⟩, e6, e3⟩ := bnd e3
      refine .inr ⟨wk.go i H _ hlt lvA, Pv (i + 1), fun H' p' => ⟨ds.length - (i + 1), by omega, rfl, hlt, p'⟩, fun x H' y => ?_⟩
      have l2 := wk.yld i H x H' _ _ hd lvA y
      let Rest := A ++ ((.ref D, .ol (froz acc)) :: (W0 ++ L))
      have l3 : Live X.K H' ((x, .fz ds[i]) :: (slots (L2.wipe σ ws) (wipeF fi ws) ++ Rest)) := by
        refine l2.perm (List.Perm.cons _ ?_)
        show (A ++ ((.ref D, .ol (froz acc)) :: (SW fi ++ (W0 ++ L)))).Perm (SW fi ++ (A ++ ((.ref D, .ol (froz acc)) :: (W0 ++ L))))
        refine List.Perm.trans ?_ (perm_mid A (SW fi) _)
        exact List.Perm.append_left A (zip_perm_mid _ _ _)
      refine ⟨wipeF fi ws, Rest, .fz ds[i], g1, okw, l3, e5, fun σ2 ok2 kp l4 => ?_⟩
      have len2 : σ2.length = σ.length := by
        rw [ok2.len, (putTg_flen (n := sizeOf tg') (lk := [])).1 (Nat.le_refl _) e5]
        unfold wipeF
        rw [wipeP_len, hlen, ← ok1.len]
      have wsame : L2.wipe σ2 ws = L2.wipe σ ws := by
        refine List.ext_getElem? fun j => ?_
        rw [wipe_at, wipe_at]
        cases hj : ws.contains j with
        | true =>
          rw [if_pos rfl, if_pos rfl]
          by_cases hjl : j < σ.length
          · rw [List.getElem?_eq_getElem hjl, List.getElem?_eq_getElem (by omega)]
            rfl
          · rw [List.getElem?_eq_none (by omega), List.getElem?_eq_none (by omega)]
        | false =>
          rw [if_neg (by decide), if_neg (by decide)]
          have hn : j ∉ tg'.ixs := fun z => by
            have := hws j z
            rw [← List.contains_iff_mem] at this
            rw [hj] at this; cases this
          rw [kp.1 j hn, wipe_at, hj, if_neg (by decide)]
      have again : ∀ {g : Fm} {acc' : List Vl} {H4 : Hp}, SlOk σ2 g → Live X.K H4 ((.ref D, .ol (froz acc')) :: (slots σ2 g ++ (A ++ (W0 ++ L)))) → compFl (turn2 G e' tg' cond tg1 it1 cond1 ws ws1) (ds.drop (i + 1)) g = some (rest', f4) → xs = acc' ++ rest' → Pv (i + 1) H4 := fun {g acc' H4} okg lg eg exx => by
        refine ⟨g, acc', rest', ?_, ?_, ?_, eg, exx⟩
        · rw [← okg.len, len2, ok1.len]
        · rw [← wsame]; exact okg.wipe ws
        · have lk : Live X.K H4 (slots σ2 (keepP ws 0 g) ++ ((.ref D, .ol (froz acc')) :: (A ++ (SW g ++ (W0 ++ L))))) := by
            refine lg.perm ?_
            refine (List.Perm.cons _ (List.Perm.append_right _ (slots_split ws))).trans ?_
            rw [wsame]
            show ((.ref D, .ol (froz acc')) :: ((slots σ2 (keepP ws 0 g) ++ SW g) ++ (A ++ (W0 ++ L)))).Perm _
            rw [List.append_assoc]
            refine List.Perm.trans ?_ (zip_perm_mid _ _ _)
            exact List.Perm.cons _ (List.Perm.append_left _ (perm_mid _ _ _))
          exact lk.right
      refine ⟨wsame, g1, Rest, b, g2, ok2, l4, e6, fun H3 ok3 l5 => ?_⟩
      cases b with
      | false =>
        rw [if_neg Bool.false_ne_true] at e3 ⊢
        cases e3
        refine again ok3 (l5.perm ?_) e4 (by rw [ex, ← ers]; rfl)
        show (slots σ2 g2 ++ (A ++ ((.ref D, .ol (froz acc)) :: (W0 ++ L)))).Perm _
        refine (List.Perm.append_left _ (zip_perm_mid _ _ _).symm).trans (zip_perm_mid _ _ _).symm
      | true =>
        rw [if_pos rfl] at e3 ⊢
        obtain ⟨⟨ds1, g3⟩, e7, e3⟩ := bnd e3
        have ers' : o ++ rest' = rest := ers
        have l6 : Live X.K H3 ((.ref D, .ol (froz acc)) :: (slots σ2 g2 ++ (A ++ (W0 ++ L)))) := by
          refine l5.perm ?_
          show (slots σ2 g2 ++ (A ++ ((.ref D, .ol (froz acc)) :: (W0 ++ L)))).Perm _
          exact (List.Perm.append_left _ (zip_perm_mid _ _ _).symm).trans (zip_perm_mid _ _ _).symm
        have zz : acc.length + o.length ≤ 16777216 := by
          have z := szOk sz
          rw [sizeLine_eq] at z
          rw [ex, ← ers', List.length_append, List.length_append] at z
          omega
        refine inner_core hws1 ok3 l6 e7 e3 zz fun H5 hl5 ok5 l7 => ?_
        have e9 : L2.wipe (L2.wipe σ2 ws1) ws = L2.wipe σ ws := (wipe_wipe hsub).trans wsame
        have ok6 := ok5.wipe ws
        rw [e9, wipeF_wipe hsub] at ok6
        refine ⟨f3, acc ++ o, rest', ?_, ok6, ?_, e4, by rw [ex, ← ers', List.append_assoc]⟩
        · have h1 := ok5.len
          unfold wipeF at h1
          rw [wipeP_len] at h1
          have h2 : (L2.wipe σ2 ws1).length = σ2.length := by rw [wipe_eq, wipeP_len]
          rw [← h1, h2, len2, ok1.len]
        · have lk : Live X.K H5 (slots (L2.wipe σ2 ws1) (keepP ws 0 (wipeF f3 ws1)) ++ ((.ref D, .ol (froz (acc ++ o))) :: (A ++ (SW f3 ++ (W0 ++ L))))) := by
            refine l7.perm ?_
            refine (List.Perm.cons _ (List.Perm.append_right _ (slots_split ws))).trans ?_
            rw [e9, wipeF_wipe hsub]
            show ((.ref D, .ol (froz (acc ++ o))) :: ((slots (L2.wipe σ2 ws1) (keepP ws 0 (wipeF f3 ws1)) ++ SW f3) ++ (A ++ (W0 ++ L)))).Perm _
            rw [List.append_assoc]
            refine List.Perm.trans ?_ (zip_perm_mid _ _ _)
            exact List.Perm.cons _ (List.Perm.append_left _ (perm_mid _ _ _))
          exact lk.right
    · have ei : i = ds.length := by omega
      subst ei
      rw [List.drop_length] at ec
      unfold compFl at ec
      cases ec
      rw [List.append_nil] at ex
      subst ex
      refine .inl ⟨wk.stop H _ lvA, q _ H (ok1.unwipe okw hlen.symm) (hold1 (lvA.right.perm (List.Perm.cons _ ?_)))⟩
      refine List.Perm.trans ?_ (List.Perm.append_right L (slots_unwipe ws hlen.symm)).symm
      show (SW f2 ++ (W0 ++ L)).Perm (W0 ++ SW f2 ++ L)
      rw [List.append_assoc]
      exact perm_mid _ _ _
end
end Tr

set_option Elab.async false
set_option linter.all false
set_option maxRecDepth 100000
set_option maxHeartbeats 1000000
/-! Calls by names. -/
namespace Tr
open PySem PySem.Spec PyProof.Rows L2
theorem pickP_map {α β : Type} (f : α → β) (xs : List α) : ∀ (perm : List Nat) {ys : List α}, pickP xs perm = some ys → pickP (xs.map f) perm = some (ys.map f)
  | [], ys, h => by unfold pickP at h; cases h; rfl
  | i :: is, ys, h => by
    unfold pickP at h
    obtain ⟨x, e1, h⟩ := bnd h
    obtain ⟨zs, e2, rfl⟩ := mpd h
    unfold pickP
    rw [List.getElem?_map, e1]
    simp only [Option.map_some, Option.bind_some, pickP_map f xs is e2]
    rfl
theorem pickP_len {α : Type} {xs : List α} : ∀ {perm : List Nat} {ys : List α}, pickP xs perm = some ys → ys.length = perm.length
  | [], ys, h => by unfold pickP at h; cases h; rfl
  | i :: is, ys, h => by
    unfold pickP at h
    obtain ⟨x, e1, h⟩ := bnd h
    obtain ⟨zs, e2, rfl⟩ := mpd h
    simp [pickP_len e2]
theorem pickP_is {α : Type} {xs : List α} : ∀ {perm : List Nat}, (∀ i ∈ perm, i < xs.length) → ∃ ys, pickP xs perm = some ys
  | [], _ => ⟨[], rfl⟩
  | i :: is, h => by
    obtain ⟨ys, e⟩ := pickP_is (xs := xs) (perm := is) fun j hj => h j (List.mem_cons_of_mem _ hj)
    refine ⟨xs[i]'(h i List.mem_cons_self) :: ys, ?_⟩
    unfold pickP
    rw [List.getElem?_eq_getElem (h i List.mem_cons_self), e]
    rfl
theorem pickP_fmap {α β : Type} (f : α → Option β) (xs : List α) : ∀ (perm : List Nat) {ys : List α}, pickP xs perm = some ys → ys.filterMap f = perm.filterMap fun i => (xs[i]?).bind f
  | [], ys, h => by unfold pickP at h; cases h; rfl
  | i :: is, ys, h => by
    unfold pickP at h
    obtain ⟨x, e1, h⟩ := bnd h
    obtain ⟨zs, e2, rfl⟩ := mpd h
    rw [List.filterMap_cons, List.filterMap_cons, e1, pickP_fmap f xs is e2]
    rfl
def permOk (perm : List Nat) (n : Nat) : Bool := perm.isPerm (List.range n)
theorem permOk_perm {perm : List Nat} {n : Nat} (h : permOk perm n = true) : perm.Perm (List.range n) ∧ ∀ i ∈ perm, i < n := by
  have p := List.isPerm_iff.mp h
  exact ⟨p, fun i hi => List.mem_range.mp (p.mem_iff.mp hi)⟩
theorem range_fmap {α β : Type} (f : α → Option β) : ∀ (xs : List α), (List.range xs.length).filterMap (fun i => (xs[i]?).bind f) = xs.filterMap f := by
  intro xs
  induction xs with
  | nil => rfl
  | cons x xs ih =>
    rw [List.length_cons, List.range_succ_eq_map, List.filterMap_cons, List.filterMap_map, List.filterMap_cons]
    have e : ((fun i => ((x :: xs)[i]?).bind f) ∘ Nat.succ) = fun i => (xs[i]?).bind f := by
      funext i
      simp
    rw [e, ih]
    rfl
theorem pick_perm {α β : Type} (f : α → Option β) {xs ys : List α} {perm : List Nat} (hp : permOk perm xs.length = true) (h : pickP xs perm = some ys) : (ys.filterMap f).Perm (xs.filterMap f) := by
  rw [pickP_fmap f xs perm h, ← range_fmap f xs]
  exact (permOk_perm hp).1.filterMap _
theorem pit_fmap : ∀ {vs : List V} {ps : List Pd}, pit vs ps = (vs.zip ps).filterMap fun q => match q.2 with
    | .st x => some (q.1, x)
    | .sl _ => none
  | [], _ => by simp [pit]
  | _ :: _, [] => by simp [pit]
  | v :: vs, p :: ps => by
    have ih := pit_fmap (vs := vs) (ps := ps)
    cases p <;> simp [pit, ih]
theorem pickP_zip {α β : Type} : ∀ {xs : List α} {ys : List β} {perm : List Nat} {us : List α} {ws : List β}, pickP xs perm = some us → pickP ys perm = some ws → pickP (xs.zip ys) perm = some (us.zip ws)
  | xs, ys, [], us, ws, h1, h2 => by unfold pickP at h1 h2; cases h1; cases h2; rfl
  | xs, ys, i :: is, us, ws, h1, h2 => by
    unfold pickP at h1 h2
    obtain ⟨x, e1, h1⟩ := bnd h1
    obtain ⟨us', e2, rfl⟩ := mpd h1
    obtain ⟨y, e3, h2⟩ := bnd h2
    obtain ⟨ws', e4, rfl⟩ := mpd h2
    unfold pickP
    rw [(List.getElem?_zip_eq_some (z := (x, y))).mpr ⟨e1, e3⟩, pickP_zip e2 e4]
    rfl
theorem paired_get {α β : Type} {R : α → β → Prop} : ∀ {xs : List α} {ys : List β} {i : Nat} {x : α} {y : β}, Paired R xs ys → xs[i]? = some x → ys[i]? = some y → R x y
  | _, _, _, _, _, .nil, e, _ => by simp at e
  | _, _, 0, _, _, .cons r _, e1, e2 => by simp at e1 e2; rw [← e1, ← e2]; exact r
  | _, _, i + 1, _, _, .cons _ t, e1, e2 => paired_get (i := i) t (by simpa using e1) (by simpa using e2)
theorem pickP_paired {α β : Type} {R : α → β → Prop} : ∀ {xs : List α} {ys : List β} {perm : List Nat} {us : List α} {ws : List β}, Paired R xs ys → pickP xs perm = some us → pickP ys perm = some ws → Paired R us ws
  | xs, ys, [], us, ws, _, h1, h2 => by unfold pickP at h1 h2; cases h1; cases h2; exact .nil
  | xs, ys, i :: is, us, ws, hp, h1, h2 => by
    unfold pickP at h1 h2
    obtain ⟨x, e1, h1⟩ := bnd h1
    obtain ⟨us', e2, rfl⟩ := mpd h1
    obtain ⟨y, e3, h2⟩ := bnd h2
    obtain ⟨ws', e4, rfl⟩ := mpd h2
    exact .cons (paired_get hp e1 e3) (pickP_paired hp e2 e4)
theorem Hold.pick {K : PySem.W.Frag} {σ : St} {fr : Fm} {H : Hp} {vs us : List V} {ps qs : List Pd} {perm : List Nat} {L : List (V × Vl)} (o : Hold K σ fr H vs ps L) (hp : permOk perm vs.length = true) (h1 : pickP vs perm = some us) (h2 : pickP ps perm = some qs) : Hold K σ fr H us qs L := by
  obtain ⟨o1, o2⟩ := o
  refine ⟨pickP_paired o1 h1 h2, o2.perm (List.Perm.append_right _ ?_)⟩
  rw [pit_fmap, pit_fmap]
  have hl := pok_length o1
  have hz : (vs.zip ps).length = vs.length := by rw [List.length_zip, hl]; omega
  exact (pick_perm _ (by rw [hz]; exact hp) (pickP_zip h1 h2)).symm
/-- how a call by names binds -/
def KwB (fd : FuncData) (ps ks : List Str) (perm : List Nat) : Prop := ∀ (s : Shared) (ws : List Value), ws.length = ks.length → ∃ us, pickP ws perm = some us ∧ us.length = ps.length ∧ BindsTo s fd ⟨[], ks.zip ws⟩ (ps.zip us)
def tCallGK (sp : SpG) (perm : List Nat) (t : TA) : TE := fun σ H Q => t σ H fun zs H1 => ∃ vs, pickP zs perm = some vs ∧ sp vs H1 Q
section
variable {X : Cx} {G : Fs} {k : Nat} {f : Addr} {fd : FuncData} {ps ks : List Str} {perm : List Nat} {sp : SpG} {x : Str} {p pos kp : Pos} {a : Expr} {i : E} {is : List E} {kws : List Keyword} {t t' : TA} {nm : Option Str}
theorem pk_mono (h : PK X kws t) (m : ∀ σ H Q, t' σ H Q → t σ H Q) : PK X kws t' := ⟨fun pos pins s σ H Q hI hq => h.run pos pins s σ H Q hI (m σ H Q hq)⟩
theorem k_nil : PK X [] (tAs X G []) := by
  refine pk_mono pk_nil fun σ H Q q => ?_
  obtain ⟨fr, L, ps, fr', ok, l, ee, q⟩ := q
  unfold evs at ee
  cases ee
  exact q [] H ok ⟨.nil, l⟩
theorem k_cons (ha : PE X a (tE X G i)) (hr : PK X kws (tAs X G is)) : PK X (⟨nm, a, kp⟩ :: kws) (tAs X G (i :: is)) := by
  refine pk_mono (pk_cons ha hr) fun σ H Q q => ?_
  obtain ⟨fr, L, ps, fr', ok, l, ee, q⟩ := q
  unfold evs at ee
  obtain ⟨⟨p1, f1⟩, e1, ee⟩ := bnd ee
  obtain ⟨⟨ps2, f2⟩, e2, ee⟩ := mpd ee
  cases ee
  refine ⟨fr, L, p1, f1, ok, l, e1, fun v H1 ok1 o => ⟨f1, pit [v] [p1] ++ L, ps2, f2, ok1, o.aside, e2, fun vs H2 ok2 o2 => q (v :: vs) H2 ok2 ?_⟩⟩
  exact Hold.more (vs := [v]) (ps := [p1]) o.1 o2
theorem pe_callGK (F : FnG X.prog X.w X.K X.mg X.base k f fd ps sp) (hr : Room k X.A) (hgu : X.A.guards = some []) (hg : Gl X x) (hm : X.mg x = some (.ref f)) (hk : PySem.W.keepIn X.K (.ref f) = true) (hb : KwB fd ps ks perm)
    (hkw : PK X kws t) (hall : (backToKw pos (keywordEach kws X.env)).all (·.1.isSome) = true) (hks : (backToKw pos (keywordEach kws X.env)).filterMap (·.1) = ks) (hlen : ∀ σ H Q, t σ H Q → t σ H fun zs H' => zs.length = ks.length ∧ Q zs H') (hdb : (x == ("__debug__" : Str)) = false)
    (hpl : ((backTo pos (starEach [] X.env)).any (·.1) || (backToKw pos (keywordEach kws X.env)).any (·.1.isNone)) = false) :
    PE X (.Call (.Name x p) [] kws pos) (tCallGK sp perm t) := by
  refine ⟨fun pins s σ H Q I h => ?_⟩
  refine wpAny_Call_Name_kw (ld_glob I hg hm ?_ hdb)
  refine PySem.W.callWith_KW0 (h₀ := X.base) I.ok.mod.kin hk hall (thn (hkw.run pos pins s σ H _ I (hlen σ H _ h)) fun ws s1 ⟨zs, H1, I1, rz, hl, q⟩ => ⟨I1.kIn, ?_⟩) hpl
  rw [hks]
  obtain ⟨vs, e1, q⟩ := q
  have hwl : ws.length = ks.length := by rw [← rz.length]; exact hl
  obtain ⟨us, e2, e3, hb'⟩ := hb s1 ws hwl
  have rv : Vals vs us := pickP_paired rz e1 e2
  refine wpAny_call (codeAny_mono (F.run X.A X.stack s1 H1 ⟨[], ks.zip ws⟩ us vs Q hr hgu I1.env0 hb' rv q) fun r s' hq => ?_)
  cases r with
  | error e => exact False.elim hq
  | ok fl =>
    cases fl with
    | next => exact False.elim hq
    | ret u => exact I1.after hq
    | brk => exact False.elim hq
    | cont => exact False.elim hq
theorem evs_len : ∀ {is : List E} {fr fr' : Fm} {ps : List Pd}, evs G is fr = some (ps, fr') → ps.length = is.length
  | [], _, _, _, h => by unfold evs at h; cases h; rfl
  | i :: is, fr, fr', ps, h => by
    unfold evs at h
    obtain ⟨⟨p1, f1⟩, e1, h⟩ := bnd h
    obtain ⟨⟨ps2, f2⟩, e2, h⟩ := mpd h
    cases h
    simp [evs_len e2]
theorem tAs_len {σ : St} {H : Hp} {Q : List V → Hp → Prop} (h : tAs X G is σ H Q) : tAs X G is σ H fun zs H' => zs.length = is.length ∧ Q zs H' := by
  obtain ⟨fr, L, ps, fr', ok, l, ee, q⟩ := h
  refine ⟨fr, L, ps, fr', ok, l, ee, fun vs H' ok' o => ⟨?_, q vs H' ok' o⟩⟩
  rw [pok_length o.1, evs_len ee]
theorem callk_core {f : Nat} {e : Expr} (hp : permOk perm is.length = true) (h : PE X e (tCallGK (spOf X.K (G f)) perm (tAs X G is))) : PE X e (tE X G (.callk f is perm)) := by
  refine pe_mono h fun σ H Q q => ?_
  obtain ⟨fr, L, p, fr', ok, l, ee, q⟩ := q
  unfold ev at ee
  obtain ⟨⟨ps, f1⟩, e1, ee⟩ := bnd ee
  obtain ⟨qs, e0, ee⟩ := bnd ee
  obtain ⟨⟨xs, f2⟩, e2, ee⟩ := bnd ee
  obtain ⟨⟨x, ys⟩, e3, ee⟩ := mpd ee
  cases ee
  refine ⟨fr, L, ps, f1, ok, l, e1, fun zs H1 ok1 o => ?_⟩
  have hzl : zs.length = is.length := by rw [pok_length o.1, evs_len e1]
  obtain ⟨vs, e4⟩ := pickP_is (xs := zs) (perm := perm) fun i hi => by rw [hzl]; exact (permOk_perm hp).2 i hi
  have o' := o.pick (by rw [hzl]; exact hp) e4 e0
  obtain ⟨q1, q2, q3⟩ := lend_ok ok1 o'.1 o'.2 e2
  refine ⟨vs, e4, xs, _, x, ys, q1, q3, e3, fun v H2 l2 => ?_⟩
  have l3 : Live X.K H2 (vs.zip ys ++ (slots σ f2 ++ ((v, x) :: L))) := l2.perm ((zip_perm_mid _ _ _).trans (List.Perm.append_left _ (zip_perm_mid _ _ _)))
  obtain ⟨g1, g2⟩ := give_ok q2 o'.1 l3
  exact q v H2 g1 (hold1 (g2.perm (zip_perm_mid _ _ _).symm))
end
/-- names and values of a call by names -/
def kwSplit : List Keyword → Option (List Str × List Expr)
  | [] => some ([], [])
  | ⟨some n, e, _⟩ :: r => (kwSplit r).map fun q => (n :: q.1, e :: q.2)
  | ⟨none, _, _⟩ :: _ => none
theorem kwSplit_is : ∀ {kws : List Keyword} {ks : List Str} {es : List Expr}, kwSplit kws = some (ks, es) → ∀ (pos : Pos) (env : Env), (backToKw pos (keywordEach kws env)).all (·.1.isSome) = true ∧ (backToKw pos (keywordEach kws env)).filterMap (·.1) = ks ∧ (backToKw pos (keywordEach kws env)).any (·.1.isNone) = false ∧ es.length = ks.length
  | [], ks, es, h, pos, env => by unfold kwSplit at h; cases h; exact ⟨rfl, rfl, rfl, rfl⟩
  | ⟨some n, e, p⟩ :: r, ks, es, h, pos, env => by
    unfold kwSplit at h
    obtain ⟨⟨ks', es'⟩, e1, h⟩ := mpd h
    cases h
    obtain ⟨h1, h2, h3, h4⟩ := kwSplit_is e1 pos env
    have e2 : backToKw pos (keywordEach (⟨some n, e, p⟩ :: r) env) = (some n, do let v ← eval e env; standAt pos; pure v) :: backToKw pos (keywordEach r env) := rfl
    rw [e2]
    refine ⟨by rw [List.all_cons, h1]; rfl, by rw [List.filterMap_cons, h2], by rw [List.any_cons, h3]; rfl, by simp [h4]⟩
  | ⟨none, _, _⟩ :: _, _, _, h, _, _ => by unfold kwSplit at h; cases h
theorem kw_ok {X : Cx} {G : Fs} {rec : Expr → Option E} (hrec : ∀ a i, rec a = some i → PE X a (tE X G i)) (mapR : List Expr → Option (List E)) (hm0 : mapR [] = some []) (hm : ∀ e es is, mapR (e :: es) = some is → ∃ i is', rec e = some i ∧ mapR es = some is' ∧ is = i :: is') : ∀ {kws : List Keyword} {ks : List Str} {es : List Expr} {is : List E}, kwSplit kws = some (ks, es) → mapR es = some is → PK X kws (tAs X G is) ∧ is.length = es.length
  | [], ks, es, is, h, h2 => by unfold kwSplit at h; cases h; rw [hm0] at h2; cases h2; exact ⟨k_nil, rfl⟩
  | ⟨some n, e, p⟩ :: r, ks, es, is, h, h2 => by
    unfold kwSplit at h
    obtain ⟨⟨ks', es'⟩, e1, h⟩ := mpd h
    cases h
    obtain ⟨i, is', q1, q2, rfl⟩ := hm _ _ _ h2
    obtain ⟨r1, r2⟩ := kw_ok hrec mapR hm0 hm e1 q2
    exact ⟨k_cons (hrec _ _ q1) r1, by simp [r2]⟩
  | ⟨none, _, _⟩ :: _, _, _, _, h, _ => by unfold kwSplit at h; cases h
end Tr

set_option Elab.async false
set_option linter.all false
set_option maxRecDepth 100000
/-! From the model's text to the small language. -/
namespace Tr
open PySem PySem.Spec PyProof.Rows L2
/-- the defs' names (their place is their number), the module's constants -/
structure Tb where
  fs : List Str
  cs : List (Str × D)
  kw : List ((Str × List Str) × List Nat)
structure Ck where
  N : List Str
  sc : Scope
  og : Scope
def posOf (x : Str) : List Str → Option Nat
  | [] => none
  | y :: ys => if x == y then some 0 else (posOf x ys).map (· + 1)
def badName (x : Str) : Bool := x == ("__debug__" : Str) || x == ("__classdict__" : Str) || x == ("__name__" : Str)
def Ck.vis (c : Ck) (x : Str) : Bool := match c.sc.names.lookup x with
  | some .local => true
  | some .cell => true
  | some .free => true
  | _ => false
def Ck.loc (c : Ck) (x : Str) : Bool := match c.sc.names.lookup x with
  | some .local => true
  | some .cell => (match c.og.names.lookup x with
    | some .cell => true
    | _ => false)
  | _ => false
def Ck.lcl (c : Ck) (x : Str) : Bool := match c.sc.names.lookup x with
  | some .local => true
  | _ => false
def Ck.glo (c : Ck) (x : Str) : Bool := (match c.sc.names.lookup x with
  | some .globalImplicit => true
  | _ => false) && !badName x
def plainT : E → Bool
  | .and _ _ => false
  | .or _ _ => false
  | .not _ => false
  | .ite _ _ _ => false
  | _ => true
def noStar : Expr → Bool
  | .Starred _ _ => false
  | _ => true
def notSlice : Expr → Bool
  | .Slice _ _ _ _ => false
  | _ => true
def notComp : Expr → Bool
  | .ListComp _ _ _ _ => false
  | .SetComp _ _ _ _ => false
  | .DictComp _ _ _ _ _ => false
  | _ => true
def notSet : Expr → Bool
  | .Set _ _ _ => false
  | _ => true
def opB : Operator → Option Bop
  | .Add => some .add
  | .Sub => some .sub
  | .Mult => some .mul
  | .FloorDiv => some .fdiv
  | .Mod => some .mod
  | .Pow => some .pow
  | _ => none
def opC : CmpOp → Option Cop
  | .Eq => some .eq
  | .NotEq => some .ne
  | .Lt => some .lt
  | .LtE => some .le
  | .Gt => some .gt
  | .GtE => some .ge
  | .In => some .isin
  | .NotIn => some .notin
  | _ => none
def mapE {α β : Type} (f : α → Option β) : List α → Option (List β)
  | [] => some []
  | x :: xs => (f x).bind fun y => (mapE f xs).map (y :: ·)
def joinB (op : BoolOp) : List E → Option E
  | [] => none
  | [i] => some i
  | i :: is => (joinB op is).map fun j => match op with
    | .And => .and i j
    | .Or => .or i j
def biTab : List (Str × Bi) := [("len", .len), ("abs", .abs), ("max", .max), ("min", .min), ("sum", .sum), ("int", .int), ("str", .str), ("repr", .repr), ("list", .list), ("tuple", .tuple), ("sorted", .sorted), ("all", .all), ("divmod", .divmod)]
def tyTab : List (Str × Ty) := [("int", .int), ("bool", .bool), ("tuple", .tuple), ("str", .str)]
/-- names of the language that no def of the text may have -/
def bNames : List Str := ["len", "abs", "max", "min", "sum", "int", "str", "repr", "list", "tuple", "sorted", "all", "isinstance", "bool", "range", "enumerate", "zip", "divmod"]
def cName (T : Tb) (c : Ck) (x : Str) : Option E :=
  if badName x then none else if c.vis x then (posOf x c.N).map .var else if c.glo x then (T.cs.lookup x).map .glb else none
def ownOf (c : Ck) (scope : Scope) : List (Str × Nat) := scope.names.filterMap fun y => match y.2 with
  | .local => (posOf y.1 c.N).map fun i => (y.1, i)
  | .cell => (posOf y.1 c.N).map fun i => (y.1, i)
  | _ => none
def cTg (c : Ck) : Nat → Expr → Option Tg
  | 0, _ => none
  | n + 1, e => match e with
    | .Name x _ => if c.loc x then (posOf x c.N).map .n else none
    | .Tuple es _ _ => if es.all noStar then (mapE (cTg c n) es).map .t else none
    | _ => none
def isTupleE : Expr → Bool
  | .Tuple _ _ _ => true
  | _ => false
/-- the first of several: at its call's arguments -/
def cIt (c : Ck) (rec : Expr → Option E) (tg iter : Expr) : Option It :=
  match iter with
  | .Call (.Name x _) [a] [] _ =>
    if x == ("range" : Str) && c.glo x && noStar a then (rec a).map .rg1
    else if x == ("enumerate" : Str) && c.glo x && noStar a && isTupleE tg then (rec a).map .en
    else (rec iter).map .li
  | .Call (.Name x _) [a, b] [] _ =>
    if x == ("range" : Str) && c.glo x && noStar a && noStar b then (rec a).bind fun i => (rec b).map fun j => .rg2 i j
    else if x == ("zip" : Str) && c.glo x && noStar a && noStar b && isTupleE tg then (rec a).bind fun i => (rec b).map fun j => .zp i j
    else (rec iter).map .li
  | e => if notSet e then (rec e).map .li else none
def cIsi (c : Ck) (rec : Expr → Option E) : List Expr → Option E
  | [a, .Name y _] => if c.glo y && noStar a then (tyTab.lookup y).bind fun t => (rec a).map fun i => .bi (.isinst t) [i] else none
  | _ => none
def cBi (c : Ck) (rec : Expr → Option E) (x : Str) (args : List Expr) : Option E :=
  if x == ("isinstance" : Str) then cIsi c rec args
  else match biTab.lookup x with
    | none => none
    | some b => match args with
      | [] => none
      | [.Call (.Name r p) [a] kw q] =>
        if x == ("list" : Str) && r == ("range" : Str) && c.glo r && kw.isEmpty && noStar a then (rec a).map fun i => .bi .lrange [i]
        else (rec (.Call (.Name r p) [a] kw q)).map fun i => .bi b [i]
      | e :: es => if noStar e && es.all noStar then (mapE rec (e :: es)).map (.bi b) else none
def cPart (rec : Expr → Option E) : Option Expr → Option (Option E)
  | none => some none
  | some e => (rec e).map some
def cIfs (rec : Expr → Option E) : List Expr → Option (Option E)
  | [] => some none
  | [e] => (rec e).map some
  | _ => none
/-- the lists of one's own lists (by their names in the laws) -/
def ooName (x : Str) : Bool := x == ("_law_over" : Str)
def isOwn : Expr → Bool
  | .List [.Constant (.int _) _ _, .Constant (.int _) _ _] _ => true
  | _ => false
def cOo (c : Ck) (rec : Expr → Option E) (v i : Expr) : Option E := match v, i with
  | .Subscript (.Name x _) i1 _, .Name y _ => if ooName x && c.vis x && !badName x && c.vis y && !badName y && notSlice i1 then (posOf x c.N).bind fun s => (posOf y c.N).bind fun j => (rec i1).map fun k => .idx2 s k j else none
  | _, _ => none
def blkOf (c : Ck) (scope : Scope) : Ck := ⟨c.N, relS scope c.sc, scope⟩
def cE (T : Tb) : Nat → Ck → Expr → Option E
  | 0, _, _ => none
  | n + 1, c, e => match e with
    | .Constant v _ _ => (match v with
      | .int i => some (.con (.int i))
      | .bool b => some (.con (.bool b))
      | .str x => some (.con (.str x))
      | .none => some (.con .none)
      | _ => none)
    | .Name x _ => cName T c x
    | .Tuple es _ _ => if es.all noStar then (mapE (cE T n c) es).map .tup else none
    | .List es _ => if es.all noStar then (mapE (cE T n c) es).map .lst else none
    | .BinOp a op b _ => (opB op).bind fun o => (cE T n c a).bind fun i => (cE T n c b).map fun j => .bin o i j
    | .UnaryOp op a _ => (match op with
      | .USub => (cE T n c a).map .neg
      | .Not => (cE T n c a).map .not
      | _ => none)
    | .Compare a ops bs _ => (match ops, bs with
      | [op], [b] => (match op, b with
        | .Is, .Constant .none _ _ => (cE T n c a).map fun i => .isc i .none false
        | .Is, .Constant (.bool z) _ _ => (cE T n c a).map fun i => .isc i (.bool z) false
        | .IsNot, .Constant .none _ _ => (cE T n c a).map fun i => .isc i .none true
        | .IsNot, .Constant (.bool z) _ _ => (cE T n c a).map fun i => .isc i (.bool z) true
        | op, b => if behindInMarks op b then none else (opC op).bind fun o => (cE T n c a).bind fun i => (cE T n c b).map fun j => .cmp o i j)
      | [o1, o2], [b, d] => if lastMarks [o1, o2] [b, d] then none else (opC o1).bind fun p => (opC o2).bind fun q => (cE T n c a).bind fun i => (cE T n c b).bind fun j => (cE T n c d).map fun k => .chn p q i j k
      | _, _ => none)
    | .BoolOp op es _ => (mapE (cE T n c) es).bind (joinB op)
    | .IfExp t a b _ => (cE T n c t).bind fun i => (cE T n c a).bind fun j => (cE T n c b).map fun k => .ite i j k
    | .Subscript v i _ => (match i with
      | .Slice none none (some (.UnaryOp .USub (.Constant (.int 1) _ _) _)) _ => (cE T n c v).map fun k => .slc k none none true
      | .Slice lo hi none _ => (cE T n c v).bind fun k => (cPart (cE T n c) lo).bind fun l => (cPart (cE T n c) hi).map fun h => .slc k l h false
      | i => if notSlice i then (match cOo c (cE T n c) v i with
        | some k => some k
        | none => (cE T n c v).bind fun k => (cE T n c i).map fun j => .idx k j) else none)
    | .Call f args kws _ => (match f, kws with
      | .Name x _, [] => if c.glo x then (match posOf x T.fs with
        | some k => if args.all noStar then (mapE (cE T n c) args).map (.call k) else none
        | none => cBi c (cE T n c) x args) else none
      | .Name x _, k1 :: kws => if c.glo x && args.isEmpty then (posOf x T.fs).bind fun k => (kwSplit (k1 :: kws)).bind fun q => (T.kw.lookup (x, q.1)).bind fun perm => if permOk perm q.1.length then (mapE (cE T n c) q.2).map fun is => .callk k is perm else none else none
      | _, _ => none)
    | .ListComp elt gens scope _ => (match gens with
      | [⟨tg, iter, ifs, 0⟩] =>
        let own := ownOf c scope
        if blkC c.N c.sc scope own && notSet iter then
          (cIt c (cE T n c) tg iter).bind fun it => (cTg (blkOf c scope) n tg).bind fun t => (cIfs (cE T n (blkOf c scope)) ifs).bind fun w => (cE T n (blkOf c scope) elt).bind fun k =>
            if t.ixs.all fun i => (own.map (·.2)).contains i then some (.comp k t it w (own.map (·.2)) (isOwn elt)) else none
        else none
      | [⟨tg, iter, ifs, 0⟩, ⟨tg1, iter1, ifs1, 0⟩] =>
        let own := ownOf c scope
        if blkC c.N c.sc scope own && notSet iter && notSet iter1 then
          (cIt c (cE T n c) tg iter).bind fun it => (cTg (blkOf c scope) n tg).bind fun t => (cIfs (cE T n (blkOf c scope)) ifs).bind fun w =>
          (cIt (blkOf c scope) (cE T n (blkOf c scope)) tg1 iter1).bind fun it1 => (cTg (blkOf c scope) n tg1).bind fun t1 => (cIfs (cE T n (blkOf c scope)) ifs1).bind fun w1 => (cE T n (blkOf c scope) elt).bind fun k =>
            if (t.ixs.all fun i => (own.map (·.2)).contains i) && t1.ixs.all fun i => (own.map (·.2)).contains i then some (.comp2 k t it w t1 it1 w1 (own.map (·.2)) t1.ixs) else none
        else none
      | _ => none)
    | _ => none
/-- plain names, told apart -/
def cNames (c : Ck) : List Expr → Option (List Nat)
  | [] => some []
  | .Name x _ :: es => if c.loc x then (posOf x c.N).bind fun i => (cNames c es).map (i :: ·) else none
  | _ :: _ => none
/-- how a store of several names goes: none: not told; some none: from the left; some names: from the right -/
def swRes (c : Ck) (ts es : List Expr) : Option (Option (List Str)) :=
  if !(ts.length == 2 || ts.length == 3) || es.length != ts.length then some none
  else if (es.any fun | .Starred .. => true | _ => false) then some none
  else
    let line := (ts.head?.map (·.pos.line)).getD 0
    let names := ts.filterMap fun
      | .Name id pos => if c.sc.names.lookup id == some .local && pos.line == line then some id else none
      | _ => none
    if names.length != ts.length || names.eraseDups.length != names.length then some none
    else if es.all (foldedForSure 8) then some none
    else if es.all (constantsAlone 8) then none
    else some (some names)
def ownsName (scope : Scope) (x : Str) : Bool := scope.names.any fun (n, k) => n == x && (k == .local || k == .cell)
def cS (T : Tb) : Nat → Ck → Stmt → S
  | 0, _, _ => .stop
  | n + 1, c, s => match s with
    | .Pass _ => .nop
    | .Expr e pos => (match e with
      | .Constant (.str _) _ _ => .nop
      | .Call (.Attribute (.Name x _) m apos) [a] [] cpos => if m == ("append" : Str) && c.vis x && !badName x && noStar a && apos.endLine == cpos.line then (match posOf x c.N, cE T n c a with
        | some i, some j => .app i j
        | _, _ => .stop) else .stop
      | e => if notComp e then (match cE T n c e with
        | some i => .exp i
        | none => .stop) else .stop)
    | .Return none _ => .retN
    | .Return (some e) _ => (match e with
      | .Name x _ => if c.vis x && !badName x then (match posOf x c.N with
        | some i => .retv i
        | none => .stop) else (match cE T n c e with
        | some i => .ret i
        | none => .stop)
      | e => (match cE T n c e with
        | some i => .ret i
        | none => .stop))
    | .If t a b _ => (match cE T n c t with
      | some i => .iff i (a.map (cS T n c)) (b.map (cS T n c))
      | none => .stop)
    | .While t a [] _ => (match cE T n c t with
      | some i => .whl i (a.map (cS T n c))
      | none => .stop)
    | .For tg iter body [] _ => if notSet iter then (match cIt c (cE T n c) tg iter, cTg c n tg with
      | some it, some t => .for t it (body.map (cS T n c))
      | _, _ => .stop) else .stop
    | .Assign [tg] e pos => (match tg with
      | .Subscript (.Subscript (.Name x _) i1 _) (.Name y _) _ => if ooName x && c.vis x && !badName x && c.vis y && !badName y && notSlice i1 && notComp e then (match posOf x c.N, posOf y c.N, cE T n c i1, cE T n c e with
        | some s, some j, some k, some v => .sidx2 s k j v
        | _, _, _, _ => .stop) else .stop
      | .Subscript (.Name x _) i _ => if c.vis x && !badName x && notComp e && notSlice i then (match posOf x c.N, cE T n c i, cE T n c e with
        | some s, some k, some v => .sidx s k v
        | _, _, _ => .stop) else .stop
      | .Name x p => if c.loc x then (match posOf x c.N, cE T n c e with
        | some i, some k => if notComp e then .asg (.n i) k else (match e with
          | .ListComp _ _ scope q => if c.lcl x && p.line == q.line && !ownsName scope x then .asg (.n i) k else .stop
          | _ => .stop)
        | _, _ => .stop) else .stop
      | .Tuple ts _ _ => if ts.all noStar then (match e with
        | .Tuple es _ _ => if es.all noStar then (match cNames c ts, mapE (cE T n c) es, swRes c ts es with
          | some ix, some is, some none => if decide (is.length = ix.length) && decide ix.Nodup && decide (ts.length ≤ 1000) then .par ix is else .stop
          | some ix, some is, some (some nm) => (match ts, es with
            | [.Name x _, .Name y _], [_, _] => if decide (nm = [x, y]) && c.lcl x && c.lcl y && decide (is.length = ix.length) && decide ix.Nodup then .par ix is else .stop
            | [.Name x _, .Name y _, .Name z _], [_, _, _] => if decide (nm = [x, y, z]) && c.lcl x && c.lcl y && c.lcl z && decide (is.length = ix.length) && decide ix.Nodup then .par ix is else .stop
            | _, _ => .stop)
          | none, _, some none => (match cTg c n tg, cE T n c e with
            | some t, some k => .asg t k
            | _, _ => .stop)
          | _, _, _ => .stop) else .stop
        | e => if notComp e then (match cTg c n tg, cE T n c e with
          | some t, some k => .asg t k
          | _, _ => .stop) else .stop) else .stop
      | _ => .stop)
    | _ => .stop
end Tr

set_option Elab.async false
set_option linter.all false
set_option maxRecDepth 100000
set_option maxHeartbeats 1000000
/-! The compiled text does what the model's text does. -/
namespace Tr
open PySem PySem.Spec PyProof.Rows L2
/-- a def of the table: it stands and keeps its promise to the depth k -/
def FnH (X : Cx) (k : Nat) (G : Fs) (f : Nat) (x : Str) : Prop := ∃ (fa : Addr) (fd : FuncData) (ps : List Str), X.mg x = some (.ref fa) ∧ PySem.W.keepIn X.K (.ref fa) = true ∧ Binds X.K fd ps [] ∧ FnG X.prog X.w X.K X.mg X.base k fa fd ps (spOf X.K (G f))
def FnHK (X : Cx) (k : Nat) (G : Fs) (f : Nat) (x : Str) (ks : List Str) (perm : List Nat) : Prop := ∃ (fa : Addr) (fd : FuncData) (ps : List Str), X.mg x = some (.ref fa) ∧ PySem.W.keepIn X.K (.ref fa) = true ∧ KwB fd ps ks perm ∧ FnG X.prog X.w X.K X.mg X.base k fa fd ps (spOf X.K (G f))
structure Gd (T : Tb) (G : Fs) (k : Nat) (X : Cx) (c : Ck) : Prop where
  N : X.N = c.N
  nd : X.N.Nodup
  sc : X.env.scope = c.sc
  kd : c.sc.kind = .function
  fn : ∀ x, c.og.names.lookup x = some .cell → X.fn x = true
  calm : X.calm = true
  room : Room k X.A
  gu : X.A.guards = some []
  xe : X.xe = fun _ _ => False
  fns : ∀ (f : Nat) (x : Str), T.fs[f]? = some x → FnH X k G f x
  kws : ∀ (x : Str) (ks : List Str) (perm : List Nat), ((x, ks), perm) ∈ T.kw → ∃ f, posOf x T.fs = some f ∧ FnHK X k G f x ks perm
  bis : ∀ x ∈ bNames, X.mg x = none
  cons : ∀ x d, T.cs.lookup x = some d → ∃ u v, X.mg x = some u ∧ RelV v u ∧ ∀ F H, RelD X.K F H v d
theorem posOf_at {x : Str} : ∀ {l : List Str} {i : Nat}, posOf x l = some i → l[i]? = some x
  | [], _, h => by cases h
  | y :: ys, i, h => by
    unfold posOf at h
    by_cases e : (x == y) = true
    · rw [if_pos e] at h
      cases h
      rw [eq_of_beq e]
      rfl
    · rw [if_neg e] at h
      obtain ⟨j, e1, rfl⟩ := mpd h
      simpa using posOf_at e1
theorem star1 {a : Expr} {es : List Expr} {env : Env} (h : noStar a = true) : starEach (a :: es) env = (false, eval a env) :: starEach es env := by
  cases a <;> first | rfl | cases h
theorem starAll : ∀ {es : List Expr} {env : Env}, es.all noStar = true → (starEach es env).any (·.1) = false
  | [], _, _ => rfl
  | a :: es, env, h => by
    rw [List.all_cons, Bool.and_eq_true] at h
    rw [star1 h.1, List.any_cons, starAll h.2]
    rfl
theorem backAll {pos : Pos} : ∀ {l : List (Bool × Sem Value)}, l.any (·.1) = false → (backTo pos l).any (·.1) = false
  | [], _ => rfl
  | (b, t) :: l, h => by
    rw [List.any_cons, Bool.or_eq_false_iff] at h
    show (b || (backTo pos l).any (·.1)) = false
    rw [backAll h.2, Bool.or_false]
    exact h.1
theorem asg1 {a : Expr} {es : List Expr} {env : Env} (h : noStar a = true) : assignEach (a :: es) env = (false, assign a env) :: assignEach es env := by
  cases a <;> first | rfl | cases h
theorem asgLen : ∀ {es : List Expr} {env : Env}, es.all noStar = true → (assignEach es env).length = es.length ∧ (assignEach es env).findIdx? (·.1) = none
  | [], _, _ => ⟨rfl, rfl⟩
  | a :: es, env, h => by
    rw [List.all_cons, Bool.and_eq_true] at h
    obtain ⟨h1, h2⟩ := asgLen (env := env) h.2
    rw [asg1 h.1]
    refine ⟨by rw [List.length_cons, List.length_cons, h1], ?_⟩
    rw [List.findIdx?_cons]
    simp only [Bool.false_eq_true, if_false]
    rw [h2]
    rfl
theorem plainIx {b : Expr} (h : notSlice b = true) : PlainIx b := by
  intro o i
  cases b <;> first | rfl | cases h
theorem swNone {e : Expr} {l : Nat} {env : Env} (h : notComp e = true) (t : Option Expr) : swapsWith e t l env = pure false := by
  cases e <;> first | rfl | cases h
theorem fold_set {e : Expr} {env : Env} (h : notSet e = true) : ∀ x, foldedSetIterable e env x = pure x := by
  intro x
  cases e <;> first | rfl | cases h
section
variable {T : Tb} {G : Fs} {k : Nat} {X : Cx} {c : Ck}
theorem Gd.visOk (g : Gd T G k X c) {x : Str} (h : c.vis x = true) : Vis X.env.scope x := by
  unfold Ck.vis at h
  unfold Vis
  rw [g.sc]
  split at h
  · rename_i e; exact .inl e
  · rename_i e; exact .inr (.inl e)
  · rename_i e; exact .inr (.inr e)
  · cases h
theorem Gd.locOk (g : Gd T G k X c) {x : Str} (h : c.loc x = true) : L2.Loc X.env.scope x ∧ (X.fn x = true ∨ X.env.scope.names.lookup x = some .local) := by
  unfold Ck.loc at h
  unfold L2.Loc
  rw [g.sc]
  split at h
  · rename_i e; exact ⟨.inl e, .inr e⟩
  · rename_i e
    split at h
    · rename_i e2
      exact ⟨.inr e, .inl (g.fn x e2)⟩
    · cases h
  · cases h
theorem Gd.lclOk (g : Gd T G k X c) {x : Str} (h : c.lcl x = true) : X.env.scope.names.lookup x = some .local := by
  unfold Ck.lcl at h
  rw [g.sc]
  split at h
  · assumption
  · cases h
theorem badN {x : Str} (h : badName x = false) : (x == ("__debug__" : Str)) = false ∧ (x == ("__classdict__" : Str)) = false ∧ x ≠ "__name__" := by
  unfold badName at h
  simp only [Bool.or_eq_false_iff] at h
  exact ⟨h.1.1, h.1.2, fun e => by subst e; exact absurd h.2 (by decide)⟩
theorem Gd.gloOk (g : Gd T G k X c) {x : Str} (h : c.glo x = true) : Gl X x ∧ badName x = false := by
  unfold Ck.glo at h
  simp only [Bool.and_eq_true, Bool.not_eq_true'] at h
  refine ⟨?_, h.2⟩
  have h1 := h.1
  split at h1
  · rename_i e
    show X.env.scope.names.lookup x = some .globalImplicit
    rw [g.sc]; exact e
  · cases h1
theorem Gd.at (g : Gd T G k X c) {x : Str} {i : Nat} (h : posOf x c.N = some i) : X.N[i]? = some x := by rw [g.N]; exact posOf_at h
theorem Gd.varE (g : Gd T G k X c) {x : Str} {i : Nat} {pos : Pos} (hv : c.vis x = true) (hb : badName x = false) (h : posOf x c.N = some i) : PE X (.Name x pos) (tVar i) :=
  pe_var (g.at h) (g.visOk hv) (badN hb).1 (badN hb).2.1
theorem Gd.units (g : Gd T G k X c) : X.A.units + 100 < cLine := by have := g.room.un; omega
theorem Gd.units70 (g : Gd T G k X c) : X.A.units + 70 < cLine := by have := g.room.un; omega
theorem relabel_eq (g : Gd T G k X c) (scope : Scope) : relabel scope X.env = relS scope c.sc := by
  unfold relabel relS
  rw [← g.sc]
  rfl
theorem Gd.blk (g : Gd T G k X c) {scope : Scope} (hk : scope.kind = .function) (s : Shared) (H : Hp) (C : Addr) (cl : List (Str × Addr)) (fp : List Addr) : Gd T G k (X.blk s H scope (compEnvC scope cl C X.env) fp) (blkOf c scope) where
  N := g.N
  nd := g.nd
  sc := relabel_eq g scope
  kd := hk
  fn := fun x hx => by
    show (scope.names.lookup x == some .cell) = true
    rw [show scope.names.lookup x = some .cell from hx]
    rfl
  calm := g.calm
  room := g.room
  gu := g.gu
  xe := rfl
  fns := g.fns
  kws := g.kws
  bis := g.bis
  cons := g.cons
theorem mapE_ind {α : Type} {f : Expr → Option α} {P : List Expr → List α → Prop} (h0 : P [] []) (h1 : ∀ a i es is, f a = some i → mapE f es = some is → P es is → P (a :: es) (i :: is)) : ∀ {es is}, mapE f es = some is → P es is
  | [], is, h => by unfold mapE at h; cases h; exact h0
  | a :: es, is, h => by
    unfold mapE at h
    obtain ⟨i, e1, h⟩ := bnd h
    obtain ⟨is', e2, rfl⟩ := mpd h
    exact h1 a i es is' e1 e2 (mapE_ind h0 h1 e2)
/-- the induction's statement -/
def OkE (T : Tb) (G : Fs) (k n : Nat) : Prop := ∀ (c : Ck) (X : Cx) (e : Expr) (i : E), Gd T G k X c → cE T n c e = some i → PE X e (tE X G i) ∧ PT X e (tT X G i)
theorem PT.vac {e : Expr} {t : TT} (h : ∀ σ H Q, ¬ t σ H Q) : PT X e t := ⟨fun _ _ _ _ _ _ q => (h _ _ _ q).elim⟩
theorem args_ok {n : Nat} (ih : OkE T G k n) (g : Gd T G k X c) {es : List Expr} {is : List E} (hs : es.all noStar = true) (h : mapE (cE T n c) es = some is) : PA X es (tAs X G is) ∧ PA X es (tGs X G is) := by
  refine mapE_ind (P := fun es is => es.all noStar = true → PA X es (tAs X G is) ∧ PA X es (tGs X G is)) (fun _ => ⟨a_nil, g_nil⟩) (fun a i es is e1 e2 q hs => ?_) h hs
  rw [List.all_cons, Bool.and_eq_true] at hs
  obtain ⟨q1, q2⟩ := q hs.2
  have pe := (ih c X a i g e1).1
  exact ⟨a_cons pe q1 (star1 hs.1), g_cons pe q2 (star1 hs.1)⟩
theorem tru_def {i : E} (h : plainT i = true) : ∀ fr, tru G i fr = (ev G i fr).bind fun p => (look p.2 p.1).bind fun d => if okTru d then some (truD d, p.2) else none := by
  intro fr
  cases i <;> first | (cases h; done) | (conv => lhs; unfold tru)
theorem bool_ok {op : BoolOp} {pos : Pos} : ∀ {es : List Expr} {is : List E} {j : E}, (∀ (n : Nat) (a : Expr) (i : E), es[n]? = some a → is[n]? = some i → PE X a (tE X G i) ∧ PT X a (tT X G i)) → es.length = is.length → joinB op is = some j →
    PE X (.BoolOp op es pos) (tE X G j) ∧ PW X (.BoolOp op es pos) (tT X G j)
  | [], [], _, _, _, h => by cases h
  | [], _ :: _, _, _, e, _ => by cases e
  | _ :: _, [], _, _, e, _ => by cases e
  | [a], [i], j, hp, _, h => by
    obtain ⟨p1, p2⟩ := hp 0 a i rfl rfl
    cases h
    cases op with
    | And => exact ⟨pe_one p1, pw_and1 p2⟩
    | Or => exact ⟨pe_one p1, pw_or1 p2⟩
  | [_], _ :: _ :: _, _, _, e, _ => by cases e
  | _ :: _ :: _, [_], _, _, e, _ => by cases e
  | a :: b :: es, i :: i2 :: is, j, hp, e, h => by
    obtain ⟨p1, p2⟩ := hp 0 a i rfl rfl
    unfold joinB at h
    obtain ⟨j2, h2, rfl⟩ := mpd h
    obtain ⟨q1, q2⟩ := bool_ok (pos := pos) (fun n a i e1 e2 => hp (n + 1) a i (by simpa using e1) (by simpa using e2)) (by simpa using e) h2
    cases op with
    | And => exact ⟨s_and p1 q1, w_and p2 q2⟩
    | Or => exact ⟨s_or p1 q1, w_or p2 q2⟩
end
end Tr

set_option Elab.async false
set_option linter.all false
set_option maxRecDepth 100000
set_option maxHeartbeats 4000000
namespace Tr
open PySem PySem.Spec PyProof.Rows L2
section
variable {T : Tb} {G : Fs} {k : Nat} {X : Cx} {c : Ck}
theorem opB_eq {op : Operator} {o : Bop} (h : opB op = some o) : op = bopO o := by
  cases op <;> cases h <;> rfl
theorem opC_eq {op : CmpOp} {o : Cop} (h : opC op = some o) : op = copO o := by
  cases op <;> cases h <;> rfl
/-- value and truth, where the truth is the value's -/
theorem both {e : Expr} {i : E} (h : PE X e (tE X G i)) (he : ∀ whole, isTrue e X.env whole = (do let v ← whole; standAt e.pos; holding [v] (truthy v)))
    (hi : plainT i = true) : PE X e (tE X G i) ∧ PT X e (tT X G i) := ⟨h, t_val h he (tru_def hi)⟩
theorem isi_ok {rec : Expr → Option E} (g : Gd T G k X c) (hrec : ∀ a i, rec a = some i → PE X a (tE X G i)) {args : List Expr} {p pos : Pos} {j : E} (hx : c.glo "isinstance" = true) (h : cIsi c rec args = some j) :
    PE X (.Call (.Name "isinstance" p) args [] pos) (tE X G j) ∧ plainT j = true := by
  have gl := g.gloOk hx
  unfold cIsi at h
  split at h
  · rename_i a y py
    obtain ⟨c1, h⟩ := ite_o h
    rw [Bool.and_eq_true] at c1
    obtain ⟨t, e1, h⟩ := bnd h
    obtain ⟨i, e2, rfl⟩ := mpd h
    have gy := g.gloOk c1.1
    have ht : PE X (.Name y py) (tC (.ty (tyS t))) := by
      unfold tyTab at e1
      simp only [List.lookup] at e1
      split at e1
      · rename_i e3; have := eq_of_beq e3; subst this; cases e1
        exact pe_bltn gy.1 (g.bis _ (by simp [bNames])) PyProof.Rows.boot_int rfl (badN gy.2).2.2 (badN gy.2).1
      · split at e1
        · rename_i e3; have := eq_of_beq e3; subst this; cases e1
          exact pe_bltn gy.1 (g.bis _ (by simp [bNames])) (show bootBuiltins "bool" = some (.type "bool") by decide +kernel) rfl (badN gy.2).2.2 (badN gy.2).1
        · split at e1
          · rename_i e3; have := eq_of_beq e3; subst this; cases e1
            exact pe_bltn gy.1 (g.bis _ (by simp [bNames])) (show bootBuiltins "tuple" = some (.type "tuple") by decide +kernel) rfl (badN gy.2).2.2 (badN gy.2).1
          · split at e1
            · rename_i e3; have := eq_of_beq e3; subst this; cases e1
              exact pe_bltn gy.1 (g.bis _ (by simp [bNames])) (show bootBuiltins "str" = some (.type "str") by decide +kernel) rfl (badN gy.2).2.2 (badN gy.2).1
            · cases e1
    exact ⟨s_isi gl.1 (g.bis _ (by simp [bNames])) (hrec a i e2) ht (star1 c1.2) (star1 rfl) (backAll (starAll (by rfl))), rfl⟩
  · cases h
theorem bi_ok {rec : Expr → Option E} (g : Gd T G k X c) (hrec : ∀ a i, rec a = some i → PE X a (tE X G i)) {x : Str} {args : List Expr} {p pos : Pos} {j : E} (hx : c.glo x = true) (h : cBi c rec x args = some j) :
    PE X (.Call (.Name x p) args [] pos) (tE X G j) ∧ plainT j = true := by
  have gl := g.gloOk hx
  unfold cBi at h
  by_cases hi : (x == ("isinstance" : Str)) = true
  · rw [if_pos hi] at h
    have ex := eq_of_beq hi
    subst ex
    exact isi_ok g hrec hx h
  · rw [if_neg hi] at h
    split at h
    · cases h
    · rename_i b hb
      -- the built-in of that name
      have key : ∃ hV : (bootBuiltins x = some (biV b)) , X.mg x = none ∧ plainBi b = true ∧ ((∃ s, biV b = .builtin s) ∨ ∃ s, biV b = .type s) := by
        unfold biTab at hb
        simp only [List.lookup] at hb
        repeat' (split at hb)
        all_goals first
          | (cases hb; done)
          | (rename_i e3; have := eq_of_beq e3; subst this; cases hb; refine ⟨?_, g.bis _ (by simp [bNames]), rfl, ?_⟩ <;> first | exact .inl ⟨_, rfl⟩ | exact .inr ⟨_, rfl⟩ | decide +kernel)
      obtain ⟨hV, hm, hpl, hk⟩ := key
      have cr := cr_biD (X := X) b g.calm g.units g.gu hpl
      have call : ∀ (e : Expr) (es : List Expr) (is : List E), noStar e = true → es.all noStar = true → PA X (e :: es) (tAs X G is) → PE X (.Call (.Name x p) (e :: es) [] pos) (tE X G (.bi b is)) := fun e es is h1 h2 pa => by
        rcases hk with ⟨s, hs⟩ | ⟨s, hs⟩
        · rw [hs] at cr hV
          exact bi_core (pe_callB cr gl.1 hm hV pa (badN gl.2).2.2 (badN gl.2).1 (star1 h1) (backAll (starAll h2)))
        · rw [hs] at cr hV
          exact bi_core (pe_callTy cr gl.1 hm hV pa (badN gl.2).2.2 (badN gl.2).1 (star1 h1) (backAll (starAll h2)))
      split at h
      · cases h
      · rename_i r p2 a kw q
        by_cases hr : (x == ("list" : Str) && r == ("range" : Str) && c.glo r && kw.isEmpty && noStar a) = true
        · rw [if_pos hr] at h
          simp only [Bool.and_eq_true] at hr
          obtain ⟨⟨⟨⟨h1, h2⟩, h3⟩, h4⟩, h5⟩ := hr
          have ex := eq_of_beq h1
          have er := eq_of_beq h2
          subst ex er
          have ek : kw = [] := List.isEmpty_iff.mp h4
          subst ek
          obtain ⟨i, e1, rfl⟩ := mpd h
          have gr := g.gloOk h3
          exact ⟨s_lrange g.calm gl.1 hm gr.1 (g.bis _ (by simp [bNames])) (hrec a i e1) (star1 h5) (star1 rfl), rfl⟩
        · rw [if_neg hr] at h
          obtain ⟨i, e1, rfl⟩ := mpd h
          exact ⟨call _ [] [i] rfl rfl (a_cons (hrec _ i e1) a_nil (star1 rfl)), rfl⟩
      · rename_i e es hne
        obtain ⟨c1, h⟩ := ite_o h
        rw [Bool.and_eq_true] at c1
        obtain ⟨is, e1, rfl⟩ := mpd h
        refine ⟨call e es is c1.1 c1.2 ?_, rfl⟩
        have : (e :: es).all noStar = true := by rw [List.all_cons, c1.1, c1.2]; rfl
        exact mapE_ind (f := rec) (P := fun es is => es.all noStar = true → PA X es (tAs X G is)) (fun _ => a_nil) (fun a i es is e1 e2 q hs => by
          rw [List.all_cons, Bool.and_eq_true] at hs
          exact a_cons (hrec a i e1) (q hs.2) (star1 hs.1)) e1 this
theorem it_ok {rec : Expr → Option E} (g : Gd T G k X c) (hrec : ∀ a i, rec a = some i → PE X a (tE X G i)) {tg iter : Expr} {it : It} (h : cIt c rec tg iter = some it) : PI X tg iter (tI X G it) := by
  have tup : ∀ {tg : Expr}, isTupleE tg = true → ∃ es kk p, tg = .Tuple es kk p := fun {tg} h => by
    cases tg <;> first | exact ⟨_, _, _, rfl⟩ | cases h
  unfold cIt at h
  split at h
  · rename_i x p a pos
    by_cases h1 : (x == ("range" : Str) && c.glo x && noStar a) = true
    · rw [if_pos h1] at h
      simp only [Bool.and_eq_true] at h1
      have ex := eq_of_beq h1.1.1
      subst ex
      obtain ⟨i, e1, rfl⟩ := mpd h
      exact i_rg1 (g.gloOk h1.1.2).1 (g.bis _ (by simp [bNames])) (hrec a i e1) (star1 h1.2)
    · rw [if_neg h1] at h
      by_cases h2 : (x == ("enumerate" : Str) && c.glo x && noStar a && isTupleE tg) = true
      · rw [if_pos h2] at h
        simp only [Bool.and_eq_true] at h2
        have ex := eq_of_beq h2.1.1.1
        subst ex
        obtain ⟨i, e1, rfl⟩ := mpd h
        obtain ⟨es, kk, p3, rfl⟩ := tup h2.2
        exact i_en (g.gloOk h2.1.1.2).1 (g.bis _ (by simp [bNames])) (hrec a i e1) (star1 h2.1.2)
      · rw [if_neg h2] at h
        obtain ⟨i, e1, rfl⟩ := mpd h
        exact i_li (hrec _ i e1)
  · rename_i x p a b pos
    by_cases h1 : (x == ("range" : Str) && c.glo x && noStar a && noStar b) = true
    · rw [if_pos h1] at h
      simp only [Bool.and_eq_true] at h1
      have ex := eq_of_beq h1.1.1.1
      subst ex
      obtain ⟨i, e1, h⟩ := bnd h
      obtain ⟨j, e2, rfl⟩ := mpd h
      exact i_rg2 (g.gloOk h1.1.1.2).1 (g.bis _ (by simp [bNames])) (hrec a i e1) (hrec b j e2) (by rw [star1 h1.1.2, star1 h1.2]; rfl) (star1 h1.2)
    · rw [if_neg h1] at h
      by_cases h2 : (x == ("zip" : Str) && c.glo x && noStar a && noStar b && isTupleE tg) = true
      · rw [if_pos h2] at h
        simp only [Bool.and_eq_true] at h2
        have ex := eq_of_beq h2.1.1.1.1
        subst ex
        obtain ⟨i, e1, h⟩ := bnd h
        obtain ⟨j, e2, rfl⟩ := mpd h
        obtain ⟨es, kk, p3, rfl⟩ := tup h2.2
        exact i_zp (g.gloOk h2.1.1.1.2).1 (g.bis _ (by simp [bNames])) (hrec a i e1) (hrec b j e2) (star1 h2.1.1.2) (star1 h2.1.2) (backAll (starAll (by rw [List.all_cons, h2.1.2]; rfl)))
      · rw [if_neg h2] at h
        obtain ⟨i, e1, rfl⟩ := mpd h
        exact i_li (hrec _ i e1)
  · obtain ⟨c1, h⟩ := ite_o h
    obtain ⟨i, e1, rfl⟩ := mpd h
    exact i_li (hrec _ i e1)
theorem mapT_ind {α β : Type} {f : α → Option β} {P : List α → List β → Prop} (h0 : P [] []) (h1 : ∀ a i es is, f a = some i → P es is → P (a :: es) (i :: is)) : ∀ {es is}, mapE f es = some is → P es is
  | [], is, h => by unfold mapE at h; cases h; exact h0
  | a :: es, is, h => by
    unfold mapE at h
    obtain ⟨i, e1, h⟩ := bnd h
    obtain ⟨is', e2, rfl⟩ := mpd h
    exact h1 a i es is' e1 (mapT_ind h0 h1 e2)
theorem tg_ok (lk : List Nat) (g : Gd T G k X c) : ∀ {n : Nat} {e : Expr} {t : Tg}, cTg c n e = some t → PG X e (gT X.K lk t) := by
  intro n
  induction n with
  | zero => intro e t h; cases h
  | succ n ih =>
    intro e t h
    unfold cTg at h
    split at h
    · rename_i x p
      obtain ⟨c1, h⟩ := ite_o h
      obtain ⟨i, e1, rfl⟩ := mpd h
      exact g_n (pg_name g.nd (g.at e1) (g.locOk c1).1 (g.locOk c1).2)
    · rename_i es kk p
      obtain ⟨c1, h⟩ := ite_o h
      obtain ⟨ts, e1, rfl⟩ := mpd h
      have key : es.all noStar = true → PGs X es (gTs X.K lk ts) ∧ es.length = ts.length := mapT_ind (P := fun es ts => es.all noStar = true → PGs X es (gTs X.K lk ts) ∧ es.length = ts.length) (fun _ => ⟨gs_nil, rfl⟩) (fun a i es is e1 q hs => by
        rw [List.all_cons, Bool.and_eq_true] at hs
        obtain ⟨q1, q2⟩ := q hs.2
        refine ⟨gs_cons (ih e1) q1 ?_, by rw [List.length_cons, List.length_cons, q2]⟩
        rw [asg1 hs.1]
        rfl) e1
      obtain ⟨k1, k2⟩ := key c1
      obtain ⟨l1, l2⟩ := asgLen (env := X.env) c1
      exact g_t g.calm k1 k2 l1 l2
    · cases h
end
end Tr

set_option Elab.async false
set_option linter.all false
set_option maxRecDepth 100000
set_option maxHeartbeats 4000000
namespace Tr
open PySem PySem.Spec PyProof.Rows L2
section
variable {T : Tb} {G : Fs} {k : Nat} {X : Cx} {c : Ck}
theorem part_ok {rec : Expr → Option E} (hrec : ∀ a i, rec a = some i → PE X a (tE X G i)) {o : Option Expr} {l : Option E} (h : cPart rec o = some l) : PO X o (tPart' X G l) := by
  cases o with
  | none => unfold cPart at h; cases h; exact p_none
  | some e =>
    unfold cPart at h
    obtain ⟨i, e1, rfl⟩ := mpd h
    exact p_some (hrec e i e1)
theorem ifs_ok {rec : Expr → Option E} (hrec : ∀ a i, rec a = some i → PT X a (tT X G i)) {es : List Expr} {w : Option E} (h : cIfs rec es = some w) : PTs X es (tB' X.K (truO G w)) := by
  match es, h with
  | [], h =>
    unfold cIfs at h
    cases h
    refine ⟨fun pins s σ H Q I q => ?_⟩
    obtain ⟨fr, L, b, fr', ok, l, ee, q⟩ := q
    unfold truO at ee
    cases ee
    exact pts_nil.run pins s σ H Q I (q H ok l)
  | [e], h =>
    unfold cIfs at h
    obtain ⟨i, e1, rfl⟩ := mpd h
    refine ⟨fun pins s σ H Q I q => ?_⟩
    refine (pts_one (hrec e i e1)).run pins s σ H Q I ?_
    obtain ⟨fr, L, b, fr', ok, l, ee, q⟩ := q
    exact ⟨fr, L, b, fr', ok, l, by unfold truO at ee; exact ee, q⟩
/-- what a comprehension's parts are -/
structure CompOk (T : Tb) (G : Fs) (k : Nat) (X : Cx) (tg iter elt : Expr) (ifs : List Expr) (scope : Scope) (own : List (Str × Nat)) (i : E) (tt : TT) (te : TE) (gg : TG) (ti : TI) : Prop where
  blk : BlkOk X.N X.env.scope scope own
  it : PI X tg iter ti
  tg : ∀ (s : Shared) (H : Hp) (C : Addr) (cl : List (Str × Addr)) (fp : List Addr), PG (X.blk s H scope (compEnvC scope cl C X.env) fp) tg gg
  tests : ∀ (s : Shared) (H : Hp) (C : Addr) (cl : List (Str × Addr)) (fp : List Addr), PTs (X.blk s H scope (compEnvC scope cl C X.env) fp) ifs tt
  elt : ∀ (s : Shared) (H : Hp) (C : Addr) (cl : List (Str × Addr)) (fp : List Addr), PE (X.blk s H scope (compEnvC scope cl C X.env) fp) elt te
  set : ∀ x, foldedSetIterable iter X.env x = pure x
  core : ∀ σ H Q, tE X G i σ H Q → tLc ti gg tt te (own.map (·.2)) σ H Q
def cComp (T : Tb) (n : Nat) (c : Ck) (elt : Expr) (gens : List Comprehension) (scope : Scope) : Option E := match gens with
  | [⟨tg, iter, ifs, 0⟩] =>
    let own := ownOf c scope
    if blkC c.N c.sc scope own && notSet iter then
      (cIt c (cE T n c) tg iter).bind fun it => (cTg (blkOf c scope) n tg).bind fun t => (cIfs (cE T n (blkOf c scope)) ifs).bind fun w => (cE T n (blkOf c scope) elt).bind fun k =>
        if t.ixs.all fun i => (own.map (·.2)).contains i then some (.comp k t it w (own.map (·.2)) (isOwn elt)) else none
    else none
  | _ => none
theorem comp_ok {n : Nat} (ih : OkE T G k n) (g : Gd T G k X c) {elt : Expr} {gens : List Comprehension} {scope : Scope} {i : E} (h : cComp T n c elt gens scope = some i) :
    ∃ tg iter ifs own tt te gg ti, gens = [⟨tg, iter, ifs, 0⟩] ∧ CompOk T G k X tg iter elt ifs scope own i tt te gg ti ∧ plainT i = true := by
  unfold cComp at h
  split at h
  · rename_i tg iter ifs
    dsimp only at h
    obtain ⟨c1, h⟩ := ite_o h
    rw [Bool.and_eq_true] at c1
    obtain ⟨it, e1, h⟩ := bnd h
    obtain ⟨t, e2, h⟩ := bnd h
    obtain ⟨w, e3, h⟩ := bnd h
    obtain ⟨kk, e4, h⟩ := bnd h
    obtain ⟨c2, h⟩ := ite_o h
    cases h
    have bo : BlkOk X.N X.env.scope scope (ownOf c scope) := by rw [g.N, g.sc]; exact blkOk_by c1.1
    have hk := bo.kind
    refine ⟨tg, iter, ifs, ownOf c scope, tB' X.K (truO G w), tP X.K (ev G kk), gT X.K [] t, tI X G it, rfl, ⟨bo, it_ok g (fun a i e => (ih c X a i g e).1) e1, ?_, ?_, ?_, fold_set c1.2, ?_⟩, rfl⟩
    · exact fun s H C cl fp => tg_ok [] (g.blk hk s H C cl fp) e2
    · exact fun s H C cl fp => ifs_ok (X := X.blk s H scope (compEnvC scope cl C X.env) fp) (fun a i e => (ih _ _ a i (g.blk hk s H C cl fp) e).2) e3
    · exact fun s H C cl fp => (ih _ _ elt kk (g.blk hk s H C cl fp) e4).1
    · have hw : ∀ i ∈ t.ixs, i ∈ (ownOf c scope).map (·.2) := fun i hi => List.contains_iff_mem.mp (List.all_eq_true.mp c2 i hi)
      intro σ H Q q
      cases ho : isOwn elt with
      | true => rw [ho] at q; exact comp_coreO hw q
      | false => rw [ho] at q; exact comp_core hw q
  · cases h
theorem mem_lookupP {α β : Type} [BEq α] [LawfulBEq α] {a : α} {b : β} : ∀ {l : List (α × β)}, l.lookup a = some b → (a, b) ∈ l
  | [], h => by cases h
  | (x, y) :: l, h => by
    rw [List.lookup_cons] at h
    cases c : a == x with
    | true =>
      rw [c] at h
      cases h
      rw [eq_of_beq c]
      exact List.mem_cons_self
    | false =>
      rw [c] at h
      exact List.mem_cons_of_mem _ (mem_lookupP h)
/-- of two clauses -/
structure Comp2Ok (T : Tb) (G : Fs) (k : Nat) (X : Cx) (tg iter tg1 iter1 elt : Expr) (ifs ifs1 : List Expr) (scope : Scope) (own : List (Str × Nat)) (vs1 : List Nat) (i : E) (tt tt1 : TT) (te : TE) (gg gg1 : TG) (ti ti1 : TI) : Prop where
  blk : BlkOk X.N X.env.scope scope own
  hv : ∀ i ∈ vs1, i ∈ own.map (·.2)
  it : PI X tg iter ti
  tg : ∀ (s : Shared) (H : Hp) (C : Addr) (cl : List (Str × Addr)) (fp : List Addr), PG (X.blk s H scope (compEnvC scope cl C X.env) fp) tg gg
  tests : ∀ (s : Shared) (H : Hp) (C : Addr) (cl : List (Str × Addr)) (fp : List Addr), PTs (X.blk s H scope (compEnvC scope cl C X.env) fp) ifs tt
  it1 : ∀ (s : Shared) (H : Hp) (C : Addr) (cl : List (Str × Addr)) (fp : List Addr), PI (X.blk s H scope (compEnvC scope cl C X.env) fp) tg1 iter1 ti1
  tg1 : ∀ (s : Shared) (H : Hp) (C : Addr) (cl : List (Str × Addr)) (fp : List Addr), PG (X.blk s H scope (compEnvC scope cl C X.env) fp) tg1 gg1
  tests1 : ∀ (s : Shared) (H : Hp) (C : Addr) (cl : List (Str × Addr)) (fp : List Addr), PTs (X.blk s H scope (compEnvC scope cl C X.env) fp) ifs1 tt1
  elt : ∀ (s : Shared) (H : Hp) (C : Addr) (cl : List (Str × Addr)) (fp : List Addr), PE (X.blk s H scope (compEnvC scope cl C X.env) fp) elt te
  set : ∀ x, foldedSetIterable iter X.env x = pure x
  set1 : ∀ env x, foldedSetIterable iter1 env x = pure x
  core : ∀ σ H Q, tE X G i σ H Q → tLc2 ti gg tt ti1 gg1 tt1 te (own.map (·.2)) vs1 σ H Q
def cComp2 (T : Tb) (n : Nat) (c : Ck) (elt tg iter : Expr) (ifs : List Expr) (tg1 iter1 : Expr) (ifs1 : List Expr) (scope : Scope) : Option E :=
  let own := ownOf c scope
  if blkC c.N c.sc scope own && notSet iter && notSet iter1 then
    (cIt c (cE T n c) tg iter).bind fun it => (cTg (blkOf c scope) n tg).bind fun t => (cIfs (cE T n (blkOf c scope)) ifs).bind fun w =>
    (cIt (blkOf c scope) (cE T n (blkOf c scope)) tg1 iter1).bind fun it1 => (cTg (blkOf c scope) n tg1).bind fun t1 => (cIfs (cE T n (blkOf c scope)) ifs1).bind fun w1 => (cE T n (blkOf c scope) elt).bind fun k =>
      if (t.ixs.all fun i => (own.map (·.2)).contains i) && t1.ixs.all fun i => (own.map (·.2)).contains i then some (.comp2 k t it w t1 it1 w1 (own.map (·.2)) t1.ixs) else none
  else none
theorem comp2_ok {n : Nat} (ih : OkE T G k n) (g : Gd T G k X c) {elt tg iter tg1 iter1 : Expr} {ifs ifs1 : List Expr} {scope : Scope} {i : E} (h : cComp2 T n c elt tg iter ifs tg1 iter1 ifs1 scope = some i) :
    ∃ own vs1 tt tt1 te gg gg1 ti ti1, Comp2Ok T G k X tg iter tg1 iter1 elt ifs ifs1 scope own vs1 i tt tt1 te gg gg1 ti ti1 ∧ plainT i = true := by
  unfold cComp2 at h
  dsimp only at h
  obtain ⟨c1, h⟩ := ite_o h
  rw [Bool.and_eq_true, Bool.and_eq_true] at c1
  obtain ⟨it, e1, h⟩ := bnd h
  obtain ⟨t, e2, h⟩ := bnd h
  obtain ⟨w, e3, h⟩ := bnd h
  obtain ⟨it1, e5, h⟩ := bnd h
  obtain ⟨t1, e6, h⟩ := bnd h
  obtain ⟨w1, e7, h⟩ := bnd h
  obtain ⟨kk, e4, h⟩ := bnd h
  obtain ⟨c2, h⟩ := ite_o h
  rw [Bool.and_eq_true] at c2
  cases h
  have bo : BlkOk X.N X.env.scope scope (ownOf c scope) := by rw [g.N, g.sc]; exact blkOk_by c1.1.1
  have hk := bo.kind
  have hw : ∀ i ∈ t.ixs, i ∈ (ownOf c scope).map (·.2) := fun i hi => List.contains_iff_mem.mp (List.all_eq_true.mp c2.1 i hi)
  have hw1 : ∀ i ∈ t1.ixs, i ∈ (ownOf c scope).map (·.2) := fun i hi => List.contains_iff_mem.mp (List.all_eq_true.mp c2.2 i hi)
  refine ⟨ownOf c scope, t1.ixs, tB' X.K (truO G w), tB' X.K (truO G w1), tP X.K (ev G kk), gT X.K [] t, gT X.K [] t1, tI X G it, tI X G it1, ⟨bo, hw1, it_ok g (fun a i e => (ih c X a i g e).1) e1, ?_, ?_, ?_, ?_, ?_, ?_, fold_set c1.1.2, fun env x => fold_set c1.2 x, ?_⟩, rfl⟩
  · exact fun s H C cl fp => tg_ok [] (g.blk hk s H C cl fp) e2
  · exact fun s H C cl fp => ifs_ok (X := X.blk s H scope (compEnvC scope cl C X.env) fp) (fun a i e => (ih _ _ a i (g.blk hk s H C cl fp) e).2) e3
  · exact fun s H C cl fp => it_ok (g.blk hk s H C cl fp) (fun a i e => (ih _ _ a i (g.blk hk s H C cl fp) e).1) e5
  · exact fun s H C cl fp => tg_ok [] (g.blk hk s H C cl fp) e6
  · exact fun s H C cl fp => ifs_ok (X := X.blk s H scope (compEnvC scope cl C X.env) fp) (fun a i e => (ih _ _ a i (g.blk hk s H C cl fp) e).2) e7
  · exact fun s H C cl fp => (ih _ _ elt kk (g.blk hk s H C cl fp) e4).1
  · exact fun σ H Q q => comp2_core hw (fun i hi => hi) hw1 q
theorem oo_ok {rec : Expr → Option E} (g : Gd T G k X c) (hrec : ∀ a i, rec a = some i → PE X a (tE X G i)) {v i : Expr} {p : Pos} {j : E} (hn : notSlice i = true) (h : cOo c rec v i = some j) : PE X (.Subscript v i p) (tE X G j) ∧ plainT j = true := by
  unfold cOo at h
  split at h
  · rename_i x q i1 p1 y q2
    obtain ⟨c1, h⟩ := ite_o h
    simp only [Bool.and_eq_true, Bool.not_eq_true'] at c1
    obtain ⟨s, e1, h⟩ := bnd h
    obtain ⟨jj, e2, h⟩ := bnd h
    obtain ⟨kk, e3, rfl⟩ := mpd h
    exact ⟨s_idx2 (g.varE c1.1.1.1.1.2 c1.1.1.1.2 e1) (hrec _ _ e3) (g.varE c1.1.1.2 c1.1.2 e2) (plainIx c1.2) (plainIx hn), rfl⟩
  · cases h
theorem name_ok (g : Gd T G k X c) {x : Str} {pos : Pos} {i : E} (h : cName T c x = some i) : PE X (.Name x pos) (tE X G i) ∧ plainT i = true := by
  unfold cName at h
  by_cases hb : badName x = true
  · rw [if_pos hb] at h; cases h
  · rw [if_neg hb] at h
    have hb : badName x = false := by simpa using hb
    by_cases hv : c.vis x = true
    · rw [if_pos hv] at h
      obtain ⟨j, e1, rfl⟩ := mpd h
      exact ⟨s_var (g.varE hv hb e1), rfl⟩
    · rw [if_neg hv] at h
      obtain ⟨c1, h⟩ := ite_o h
      obtain ⟨d, e1, rfl⟩ := mpd h
      obtain ⟨u, v, m1, r, hd⟩ := g.cons x d e1
      have gl := g.gloOk c1
      exact ⟨s_glb (pe_glob gl.1 m1 r (badN hb).1) hd, rfl⟩
def cCmp (rec : Expr → Option E) (a : Expr) (op : CmpOp) (b : Expr) : Option E := match op, b with
  | .Is, .Constant .none _ _ => (rec a).map fun i => .isc i .none false
  | .Is, .Constant (.bool z) _ _ => (rec a).map fun i => .isc i (.bool z) false
  | .IsNot, .Constant .none _ _ => (rec a).map fun i => .isc i .none true
  | .IsNot, .Constant (.bool z) _ _ => (rec a).map fun i => .isc i (.bool z) true
  | op, b => if behindInMarks op b then none else (opC op).bind fun o => (rec a).bind fun i => (rec b).map fun j => .cmp o i j
theorem cmp_ok {rec : Expr → Option E} (g : Gd T G k X c) (hrec : ∀ a i, rec a = some i → PE X a (tE X G i)) {a b : Expr} {op : CmpOp} {pos : Pos} {i : E} (h : cCmp rec a op b = some i) : PE X (.Compare a [op] [b] pos) (tE X G i) ∧ PT X (.Compare a [op] [b] pos) (tT X G i) := by
  unfold cCmp at h
  split at h
  · obtain ⟨j, e1, rfl⟩ := mpd h; exact ⟨s_isN (hrec a j e1), t_isN (hrec a j e1)⟩
  · obtain ⟨j, e1, rfl⟩ := mpd h; exact ⟨s_isB (hrec a j e1), t_isB (hrec a j e1)⟩
  · obtain ⟨j, e1, rfl⟩ := mpd h; exact ⟨s_noN (hrec a j e1), t_noN (hrec a j e1)⟩
  · obtain ⟨j, e1, rfl⟩ := mpd h; exact ⟨s_noB (hrec a j e1), t_noB (hrec a j e1)⟩
  · split at h
    · cases h
    · rename_i hm
      have hm : behindInMarks op b = false := by simpa using hm
      obtain ⟨o, e1, h2⟩ := bnd h
      clear h
      have eo := opC_eq e1
      subst eo
      obtain ⟨j, e2, h3⟩ := bnd h2
      obtain ⟨l, e3, rfl⟩ := mpd h3
      exact ⟨s_cmp g.units70 (hrec a j e2) (hrec b l e3) hm, t_cmp g.units70 (hrec a j e2) (hrec b l e3) hm⟩
theorem mapE_at {α β : Type} {f : α → Option β} : ∀ {es : List α} {is : List β}, mapE f es = some is → es.length = is.length ∧ ∀ (n : Nat) (a : α) (i : β), es[n]? = some a → is[n]? = some i → f a = some i
  | [], is, h => by unfold mapE at h; cases h; exact ⟨rfl, fun n a i e => by simp at e⟩
  | a :: es, is, h => by
    unfold mapE at h
    obtain ⟨i, e1, h⟩ := bnd h
    obtain ⟨is', e2, rfl⟩ := mpd h
    obtain ⟨q1, q2⟩ := mapE_at e2
    refine ⟨by rw [List.length_cons, List.length_cons, q1], fun n b j hb hj => ?_⟩
    cases n with
    | zero => simp at hb hj; subst hb hj; exact e1
    | succ n => exact q2 n b j (by simpa using hb) (by simpa using hj)
theorem okE : ∀ n, OkE T G k n := by
  intro n
  induction n with
  | zero => intro c X e i g h; cases h
  | succ n ih =>
    intro c X e i g h
    have hrec : ∀ a i, cE T n c a = some i → PE X a (tE X G i) := fun a i e => (ih c X a i g e).1
    have hrecT : ∀ a i, cE T n c a = some i → PT X a (tT X G i) := fun a i e => (ih c X a i g e).2
    cases e with
    | Constant v j p =>
      simp only [cE] at h
      cases v <;> simp only [] at h <;> first
        | (cases h; done)
        | (cases h; exact both (s_con pe_int rfl) (fun _ => rfl) rfl)
        | (cases h; exact both (s_con pe_bl rfl) (fun _ => rfl) rfl)
        | (cases h; exact both (s_con pe_str rfl) (fun _ => rfl) rfl)
        | (cases h; exact both (s_con pe_non rfl) (fun _ => rfl) rfl)
    | Name x p =>
      simp only [cE] at h
      obtain ⟨h1, h2⟩ := name_ok (pos := p) g h
      exact both h1 (fun _ => rfl) h2
    | Tuple es j p =>
      simp only [cE] at h
      obtain ⟨c1, h⟩ := ite_o h
      obtain ⟨is, e1, rfl⟩ := mpd h
      exact both (s_tup (args_ok ih g c1 e1).2) (fun _ => rfl) rfl
    | List es p =>
      simp only [cE] at h
      obtain ⟨c1, h⟩ := ite_o h
      obtain ⟨is, e1, rfl⟩ := mpd h
      exact both (s_lst (args_ok ih g c1 e1).2) (fun _ => rfl) rfl
    | BinOp a op b p =>
      simp only [cE] at h
      obtain ⟨o, e1, h2⟩ := bnd h
      clear h
      have eo := opB_eq e1
      subst eo
      obtain ⟨i1, e2, h3⟩ := bnd h2
      obtain ⟨i2, e3, rfl⟩ := mpd h3
      exact both (s_bin (hrec _ _ e2) (hrec _ _ e3)) (fun _ => rfl) rfl
    | UnaryOp op a p =>
      simp only [cE] at h
      cases op <;> simp only [] at h <;> first | (cases h; done) | skip
      · obtain ⟨i1, e2, rfl⟩ := mpd h
        exact ⟨s_not (hrec _ _ e2), t_not (hrecT _ _ e2)⟩
      · obtain ⟨i1, e2, rfl⟩ := mpd h
        exact both (s_neg (hrec _ _ e2)) (fun _ => rfl) rfl
    | Compare a ops bs p =>
      simp only [cE] at h
      split at h
      · rename_i op b
        exact cmp_ok g hrec h
      · rename_i o1 o2 b d
        split at h
        · cases h
        · rename_i hm
          have hm : lastMarks [o1, o2] [b, d] = false := by simpa using hm
          obtain ⟨p1, e1, h2⟩ := bnd h
          obtain ⟨p2, e2, h3⟩ := bnd h2
          clear h h2
          have eo1 := opC_eq e1
          have eo2 := opC_eq e2
          subst eo1 eo2
          obtain ⟨i1, e3, h4⟩ := bnd h3
          obtain ⟨i2, e4, h5⟩ := bnd h4
          obtain ⟨i3, e5, rfl⟩ := mpd h5
          exact ⟨s_chn g.units70 (hrec _ _ e3) (hrec _ _ e4) (hrec _ _ e5) hm, t_chn g.units70 (hrec _ _ e3) (hrec _ _ e4) (hrec _ _ e5) hm⟩
      · cases h
    | BoolOp op es p =>
      simp only [cE] at h
      obtain ⟨is, e1, h⟩ := bnd h
      obtain ⟨q1, q2⟩ := mapE_at e1
      obtain ⟨r1, r2⟩ := bool_ok (pos := p) (fun n a i ha hi => ih c X a i g (q2 n a i ha hi)) q1 h
      exact ⟨r1, r2.pt⟩
    | IfExp t a b p =>
      simp only [cE] at h
      obtain ⟨i1, e1, h⟩ := bnd h
      obtain ⟨i2, e2, h⟩ := bnd h
      obtain ⟨i3, e3, rfl⟩ := mpd h
      refine ⟨s_ite (hrecT _ _ e1) (hrec _ _ e2) (hrec _ _ e3), PT.vac fun σ H Q q => ?_⟩
      obtain ⟨fr, L, z, fr', ok, l, ee, q⟩ := q
      unfold tru at ee
      cases ee
    | Subscript v i p =>
      simp only [cE] at h
      split at h
      · obtain ⟨i1, e1, rfl⟩ := mpd h
        exact both (s_rev (hrec _ _ e1)) (fun _ => rfl) rfl
      · rename_i lo hi q
        obtain ⟨i1, e1, h⟩ := bnd h
        obtain ⟨l, e2, h⟩ := bnd h
        obtain ⟨hh, e3, rfl⟩ := mpd h
        exact both (s_slc (hrec _ _ e1) (part_ok hrec e2) (part_ok hrec e3)) (fun _ => rfl) rfl
      · obtain ⟨c1, h⟩ := ite_o h
        split at h
        · rename_i kk hk
          cases h
          obtain ⟨q1, q2⟩ := oo_ok (p := p) g hrec c1 hk
          exact both q1 (fun _ => rfl) q2
        · obtain ⟨i1, e1, h⟩ := bnd h
          obtain ⟨i2, e2, rfl⟩ := mpd h
          exact both (s_idx (hrec _ _ e1) (hrec _ _ e2) (plainIx c1)) (fun _ => rfl) rfl
    | Call f args kws p =>
      simp only [cE] at h
      split at h
      · rename_i x q
        obtain ⟨c1, h⟩ := ite_o h
        have gl := g.gloOk c1
        split at h
        · rename_i f hf
          obtain ⟨c2, h⟩ := ite_o h
          obtain ⟨is, e1, rfl⟩ := mpd h
          obtain ⟨fa, fd, ps, m1, kp, bd, F⟩ := g.fns f x (posOf_at hf)
          cases args with
          | nil =>
            cases e1
            refine both (call_core (pe_mono (pe_callG0 F g.room g.gu gl.1 m1 kp bd (badN gl.2).1) fun σ H Q q => ?_)) (fun _ => rfl) rfl
            obtain ⟨fr, L, ps', fr', ok, l, ee, q⟩ := q
            unfold evs at ee
            cases ee
            exact q [] H ok ⟨.nil, l⟩
          | cons e es =>
            rw [List.all_cons, Bool.and_eq_true] at c2
            have pa := (args_ok ih g (by rw [List.all_cons, c2.1, c2.2]; rfl) e1).1
            exact both (call_core (pe_callG F g.room g.gu gl.1 m1 kp bd pa (badN gl.2).1 (star1 c2.1) (backAll (starAll c2.2)))) (fun _ => rfl) rfl
        · obtain ⟨h1, h2⟩ := bi_ok (p := q) (pos := p) g hrec c1 h
          exact both h1 (fun _ => rfl) h2
      · rename_i x q k1 kws
        obtain ⟨c1, h9⟩ := ite_o h
        clear h
        rw [Bool.and_eq_true] at c1
        have gl := g.gloOk c1.1
        have ea : args = [] := List.isEmpty_iff.mp c1.2
        subst ea
        obtain ⟨kf, e1, h8⟩ := bnd h9
        obtain ⟨⟨ks, es⟩, e2, h7⟩ := bnd h8
        obtain ⟨perm, e3, h6⟩ := bnd h7
        obtain ⟨c2, h5⟩ := ite_o h6
        obtain ⟨is, e4, rfl⟩ := mpd h5
        clear h9 h8 h7 h6
        obtain ⟨f', e5, fa, fd, ps, m1, kp, kb, F⟩ := g.kws x ks perm (mem_lookupP e3)
        rw [e1] at e5
        cases e5
        obtain ⟨w1, w2, w3, w4⟩ := kwSplit_is e2 p X.env
        obtain ⟨pk, hl⟩ := kw_ok hrec (mapE (cE T n c)) rfl (fun e es is he => by
          unfold mapE at he
          obtain ⟨i, q1, he⟩ := bnd he
          obtain ⟨is', q2, rfl⟩ := mpd he
          exact ⟨i, is', q1, q2, rfl⟩) e2 e4
        refine both (callk_core (by rw [hl, w4]; exact c2) (pe_callGK F g.room g.gu gl.1 m1 kp kb pk w1 w2 (fun σ H Q q => ?_) (badN gl.2).1 ?_)) (fun _ => rfl) rfl
        · have := tAs_len q
          rw [hl, w4] at this
          exact this
        · rw [w3]; rfl
      · cases h
    | ListComp elt gens scope p =>
      simp only [cE] at h
      split at h
      · rename_i tg0 iter0 ifs0
        have h : cComp T n c elt [⟨tg0, iter0, ifs0, 0⟩] scope = some i := h
        obtain ⟨tg, iter, ifs, own, tt, te, gg, ti, e0, C, hp⟩ := comp_ok ih g h
        rw [e0]
        exact both (pe_mono (pe_lc g.calm g.nd C.it C.blk C.tg C.tests C.elt C.set) C.core) (fun _ => rfl) hp
      · rename_i tg iter ifs tg1 iter1 ifs1
        have h : cComp2 T n c elt tg iter ifs tg1 iter1 ifs1 scope = some i := h
        obtain ⟨own, vs1, tt, tt1, te, gg, gg1, ti, ti1, C, hp⟩ := comp2_ok ih g h
        exact both (pe_mono (pe_lc2 g.calm g.nd C.it C.blk C.hv C.tg C.tests C.it1 C.tg1 C.tests1 C.elt C.set C.set1) C.core) (fun _ => rfl) hp
      · cases h
    | _ => cases h
end
end Tr

set_option Elab.async false
set_option linter.all false
set_option maxRecDepth 100000
set_option maxHeartbeats 4000000
namespace Tr
open PySem PySem.Spec PyProof.Rows L2
section
variable {T : Tb} {G : Fs} {k : Nat} {X : Cx} {c : Ck}
theorem Gd.kf (g : Gd T G k X c) : X.env.scope.kind = .function := by rw [g.sc]; exact g.kd
theorem Gd.bk (g : Gd T G k X c) : X.env.blockKind = .function := by
  unfold Env.blockKind
  rw [g.kf]
  rfl
theorem swRes_ok (g : Gd T G k X c) {ts es : List Expr} {j j2 : Nat} {p p2 : Pos} {r : Option (List Str)} (h : swRes c ts es = some r) : swappedStores [.Tuple ts j p] (.Tuple es j2 p2) X.env = pure r := by
  unfold swRes at h
  unfold swappedStores
  have hb := g.bk
  have hk : ∀ x, X.env.kindOf x = c.sc.names.lookup x := fun x => by
    show X.env.scope.names.lookup x = _
    rw [g.sc]
  simp only [hb, hk] at h ⊢
  by_cases c1 : (!(ts.length == 2 || ts.length == 3) || es.length != ts.length) = true
  · rw [if_pos c1] at h
    cases h
    have c1' : (!(ts.length == 2 || ts.length == 3) || es.length != ts.length || (ScopeKind.function != ScopeKind.function)) = true := by rw [c1]; rfl
    exact (if_pos c1').trans rfl
  · rw [if_neg c1] at h
    have c1' : ¬ (!(ts.length == 2 || ts.length == 3) || es.length != ts.length || (ScopeKind.function != ScopeKind.function)) = true := by
      rw [Bool.not_eq_true] at c1
      rw [c1]
      decide
    refine (if_neg c1').trans ?_
    split at h
    · rename_i c2
      cases h
      exact (if_pos (by exact c2)).trans rfl
    · rename_i c2
      refine (if_neg (by exact c2)).trans ?_
      split at h
      · rename_i c3
        cases h
        exact (if_pos (by exact c3)).trans rfl
      · rename_i c3
        refine (if_neg (by exact c3)).trans ?_
        split at h
        · rename_i c4
          cases h
          exact (if_pos (by exact c4)).trans rfl
        · rename_i c4
          refine (if_neg (by exact c4)).trans ?_
          split at h
          · cases h
          · rename_i c5
            cases h
            exact (if_neg (by exact c5)).trans rfl
theorem names_ok (g : Gd T G k X c) : ∀ {ts : List Expr} {ix : List Nat}, cNames c ts = some ix → PGs X ts (gSet ix) ∧ ts.length = ix.length ∧ ts.all noStar = true
  | [], ix, h => by unfold cNames at h; cases h; exact ⟨gset_nil, rfl, rfl⟩
  | t :: ts, ix, h => by
    cases t with
    | Name x p =>
      unfold cNames at h
      obtain ⟨c1, h⟩ := ite_o h
      obtain ⟨i, e1, h⟩ := bnd h
      obtain ⟨is, e2, rfl⟩ := mpd h
      obtain ⟨q1, q2, q3⟩ := names_ok g e2
      exact ⟨gset_cons (pg_name g.nd (g.at e1) (g.locOk c1).1 (g.locOk c1).2) q1 rfl, by rw [List.length_cons, List.length_cons, q2], by rw [List.all_cons, q3]; rfl⟩
    | _ => unfold cNames at h; cases h
/-- the induction's statement -/
def OkS (T : Tb) (G : Fs) (k n : Nat) : Prop := ∀ (c : Ck) (X : Cx) (lk : List Nat) (s : Stmt), Gd T G k X c → PS X s (tSt X G lk (cS T n c s))
theorem list_ok {n : Nat} (ih : OkS T G k n) (g : Gd T G k X c) (lk : List Nat) : ∀ (ss : List Stmt), PSs X ss (tSs X G lk (ss.map (cS T n c)))
  | [] => xs_nil
  | s :: ss => xs_cons (ih c X lk s g) (list_ok ih g lk ss)
end
end Tr

set_option Elab.async false
set_option linter.all false
set_option maxRecDepth 100000
set_option maxHeartbeats 4000000
namespace Tr
open PySem PySem.Spec PyProof.Rows L2
section
variable {T : Tb} {G : Fs} {k : Nat} {X : Cx} {c : Ck} {lk : List Nat}
theorem fewOk {a : Expr} {env : Env} {cpos : Pos} (h : noStar a = true) : ((backTo cpos (starEach [a] env)).all (fun x => !x.1) && (backToKw cpos (keywordEach [] env)).all (fun x => x.1.isSome)
      && decide ([a].length + ([] : List Keyword).length + (if ([] : List Keyword).isEmpty then 0 else 1) < 30)) = true := by
  rw [star1 h]
  rfl
theorem baseName {x : Str} {p : Pos} {m : Str} {env : Env} : attributeBase (.Name x p) m env (eval (.Name x p) env) = eval (.Name x p) env := rfl
theorem asgSub {x : Str} {q p : Pos} {b : Expr} (hb : notSlice b = true) (v : Value) : assign (.Subscript (.Name x q) b p) X.env v = (do
      let ov ← holding [v] (eval (.Name x q) X.env)
      let iv ← holding [v, ov] (eval b X.env)
      standAt p
      holding [v, ov, iv] (setItem ov iv v)
      release [v, ov, iv] []) := by
  cases b <;> first | rfl | cases hb
theorem swS {e t : Expr} {l : Nat} {env : Env} (h : notComp e = true) : swapsWithSole [t] e l env = pure false := swNone h (some t)
theorem stNone {t e : Expr} {env : Env} (h : isTupleE t = false ∨ isTupleE e = false) (hl : ∀ es p, t ≠ .List es p) : swappedStores [t] e env = pure none := by
  unfold swappedStores
  cases t <;> first
    | rfl
    | (exact absurd rfl (hl _ _))
    | (cases e <;> first | rfl | (rcases h with h | h <;> cases h))
theorem two_names {x y : Str} {px py : Pos} {ix : List Nat} (h : cNames c [.Name x px, .Name y py] = some ix) : ∃ i j, ix = [i, j] ∧ posOf x c.N = some i ∧ posOf y c.N = some j := by
  unfold cNames cNames cNames at h
  obtain ⟨_, h1⟩ := ite_o h
  obtain ⟨i, e1, h2⟩ := bnd h1
  obtain ⟨is, h3, e3⟩ := mpd h2
  obtain ⟨_, h4⟩ := ite_o h3
  obtain ⟨j, e2, h5⟩ := bnd h4
  obtain ⟨is', h6, e6⟩ := mpd h5
  cases h6
  subst e6
  exact ⟨i, j, e3.symm, e1, e2⟩
theorem three_names {x y z : Str} {px py pz : Pos} {ix : List Nat} (h : cNames c [.Name x px, .Name y py, .Name z pz] = some ix) : ∃ i j l, ix = [i, j, l] ∧ posOf x c.N = some i ∧ posOf y c.N = some j ∧ posOf z c.N = some l := by
  unfold cNames at h
  obtain ⟨_, h1⟩ := ite_o h
  obtain ⟨i, e1, h2⟩ := bnd h1
  obtain ⟨is, h3, e3⟩ := mpd h2
  obtain ⟨j, l, e4, e5, e6⟩ := two_names h3
  subst e4
  exact ⟨i, j, l, e3.symm, e1, e5, e6⟩
/-- a store in a name, by the plain reading -/
theorem asg_name {te : TE} {i : Nat} {D : Ends} {σ : St} {H : Hp} (h : tAsg te (gT X.K lk (.n i)) D σ H) (hm : ∀ (Q Q' : VK), (∀ v H', Q v H' → Q' v H') → te σ H Q → te σ H Q') : tAsg te (gName i) D σ H := by
  refine hm _ _ (fun v H' q => ?_) h
  obtain ⟨fr, L, x, fr', ok, l, e, q⟩ := q
  obtain ⟨h1, h2, rfl⟩ := putTg_len e
  exact q _ (ok.set h2) ⟨fun j hj => by
    have : i ≠ j := fun z => hj (by subst z; unfold Tg.ixs; exact List.mem_cons_self)
    rw [List.getElem?_set_ne this], fun j hj => by
    have : i ≠ j := fun z => h1 (z ▸ hj)
    rw [List.getElem?_set_ne this]⟩ (set_slots ok h2 l)
theorem okS : ∀ n, OkS T G k n := by
  intro n
  induction n with
  | zero => intro c X lk s g; exact x_stop
  | succ n ih =>
    intro c X lk s g
    have hE : ∀ a i, cE T n c a = some i → PE X a (tE X G i) := fun a i e => (okE n c X a i g e).1
    have hT : ∀ a i, cE T n c a = some i → PT X a (tT X G i) := fun a i e => (okE n c X a i g e).2
    cases s with
    | Pass p => exact x_nop ps_pass
    | Return o p =>
      cases o with
      | none => exact x_retN
      | some e =>
        simp only [cS]
        split
        · rename_i x q
          by_cases h1 : (c.vis x && !badName x) = true
          · rw [if_pos h1]
            rw [Bool.and_eq_true] at h1
            split
            · rename_i i hi
              exact x_retv (g.varE h1.1 (by simpa using h1.2) hi)
            · exact x_stop
          · rw [if_neg h1]
            split
            · rename_i i hi; exact x_ret (hE _ _ hi)
            · exact x_stop
        · split
          · rename_i i hi; exact x_ret (hE _ _ hi)
          · exact x_stop
    | If t a b p =>
      simp only [cS]
      split
      · rename_i i hi
        exact x_iff (hT _ _ hi) (list_ok ih g lk a) (list_ok ih g lk b)
      · exact x_stop
    | While t a o p =>
      cases o with
      | cons _ _ => exact x_stop
      | nil =>
        simp only [cS]
        split
        · rename_i i hi
          exact x_whl g.xe (hT _ _ hi) (list_ok ih g lk a)
        · exact x_stop
    | For tg iter body o p =>
      cases o with
      | cons _ _ => exact x_stop
      | nil =>
        simp only [cS]
        by_cases h1 : notSet iter = true
        · rw [if_pos h1]
          split
          · rename_i it t h2 h3
            exact x_for g.xe g.calm (it_ok g hE h2) (tg_ok lk g h3) (list_ok ih g lk body) (fold_set h1)
          · exact x_stop
        · rw [if_neg h1]; exact x_stop
    | Expr e p =>
      simp only [cS]
      split
      · exact x_nop ps_doc
      · rename_i x q m apos a cpos
        by_cases h1 : (m == ("append" : Str) && c.vis x && !badName x && noStar a && apos.endLine == cpos.line) = true
        · rw [if_pos h1]
          simp only [Bool.and_eq_true, Bool.not_eq_true'] at h1
          have em := eq_of_beq h1.1.1.1.1
          subst em
          split
          · rename_i i j hi hj
            exact x_app (g.varE h1.1.1.1.2 h1.1.1.2 hi) (hE _ _ hj) baseName (fewOk h1.1.2) h1.2 (star1 h1.1.2) rfl
          · exact x_stop
        · rw [if_neg h1]; exact x_stop
      · by_cases h1 : notComp e = true
        · rw [if_pos h1]
          split
          · rename_i i hi; exact x_exp (hE _ _ hi) (swNone h1 none)
          · exact x_stop
        · rw [if_neg h1]; exact x_stop
    | Assign tgs e p =>
      rcases tgs with _ | ⟨tg, _ | ⟨t2, ts2⟩⟩
      · exact x_stop
      · simp only [cS]
        split
        · rename_i x q b pb y qy p2
          by_cases h1 : (ooName x && c.vis x && !badName x && c.vis y && !badName y && notSlice b && notComp e) = true
          · rw [if_pos h1]
            simp only [Bool.and_eq_true, Bool.not_eq_true'] at h1
            split
            · rename_i s' j' k' v hs hj hk hv
              exact x_sidx2 (g.varE h1.1.1.1.1.1.2 h1.1.1.1.1.2 hs) (hE _ _ hk) (g.varE h1.1.1.1.2 h1.1.1.2 hj) (hE _ _ hv) (plainIx h1.1.2) (fun v => rfl) (swS h1.2) (stNone (.inl rfl) (fun _ _ => nofun)) rfl
            · exact x_stop
          · rw [if_neg h1]; exact x_stop
        · rename_i x q b p2
          by_cases h1 : (c.vis x && !badName x && notComp e && notSlice b) = true
          · rw [if_pos h1]
            simp only [Bool.and_eq_true, Bool.not_eq_true'] at h1
            split
            · rename_i s' k' v hs hk hv
              exact x_sidx (g.varE h1.1.1.1 h1.1.1.2 hs) (hE _ _ hk) (hE _ _ hv) (asgSub h1.2) (swS h1.1.2) (stNone (.inl rfl) (fun _ _ => nofun)) rfl
            · exact x_stop
          · rw [if_neg h1]; exact x_stop
        · rename_i x q
          by_cases h1 : c.loc x = true
          · rw [if_pos h1]
            split
            · rename_i i kk hi hk
              have pg : PG X (.Name x q) (gT X.K lk (.n i)) := g_n (pg_name g.nd (g.at hi) (g.locOk h1).1 (g.locOk h1).2)
              by_cases h2 : notComp e = true
              · rw [if_pos h2]
                exact x_asg (hE _ _ hk) pg (swS h2) (stNone (.inl rfl) (fun _ _ => nofun)) rfl
              · rw [if_neg h2]
                split
                · rename_i elt gens scope q2
                  by_cases h3 : (c.lcl x && q.line == q2.line && !ownsName scope x) = true
                  · rw [if_pos h3]
                    simp only [Bool.and_eq_true, Bool.not_eq_true'] at h3
                    cases n with
                    | zero => cases hk
                    | succ n =>
                      simp only [cE] at hk
                      split at hk
                      · rename_i tg0 iter0 ifs0
                        have hk' : cComp T n c elt [⟨tg0, iter0, ifs0, 0⟩] scope = some kk := hk
                        obtain ⟨tg, iter, ifs, own, tt, te, gg, ti, e0, C, hp⟩ := comp_ok (okE n) g hk'
                        rw [e0]
                        have sw : swapsWith (.ListComp elt [⟨tg, iter, ifs, 0⟩] scope q2) (some (.Name x q)) p.line X.env = pure true := by
                          exact sw_true g.kf (g.lclOk h3.1.1) h3.1.2 h3.2
                        refine ps_mono (ps_setLc g.calm g.nd (g.at hi) (g.lclOk h3.1.1) sw C.it C.blk C.tg C.tests C.elt C.set) fun D σ H z => ?_
                        have z2 : tAsg (tE X G kk) (gT X.K lk (.n i)) D σ H := asg_core (fun Q z => z) z
                        exact C.core _ _ _ (asg_name z2 fun Q Q' m h => tP_imp h m)
                      · rename_i tg iter ifs tg1 iter1 ifs1
                        have hk' : cComp2 T n c elt tg iter ifs tg1 iter1 ifs1 scope = some kk := hk
                        obtain ⟨own, vs1, tt, tt1, te, gg, gg1, ti, ti1, C, hp⟩ := comp2_ok (okE n) g hk'
                        have sw : swapsWith (.ListComp elt [⟨tg, iter, ifs, 0⟩, ⟨tg1, iter1, ifs1, 0⟩] scope q2) (some (.Name x q)) p.line X.env = pure true := by
                          exact sw_true g.kf (g.lclOk h3.1.1) h3.1.2 h3.2
                        refine ps_mono (ps_setLc2 g.calm g.nd (g.at hi) (g.lclOk h3.1.1) sw C.it C.blk C.hv C.tg C.tests C.it1 C.tg1 C.tests1 C.elt C.set C.set1) fun D σ H z => ?_
                        have z2 : tAsg (tE X G kk) (gT X.K lk (.n i)) D σ H := asg_core (fun Q z => z) z
                        exact C.core _ _ _ (asg_name z2 fun Q Q' m h => tP_imp h m)
                      · cases hk
                  · rw [if_neg h3]; exact x_stop
                · exact x_stop
            · exact x_stop
          · rw [if_neg h1]; exact x_stop
        · rename_i ts kt pt
          by_cases h0 : ts.all noStar = true
          · rw [if_pos h0]
            split
            · rename_i es k2 p2
              by_cases h1 : es.all noStar = true
              · rw [if_pos h1]
                split
                · rename_i ix is e1 e2 e3
                  by_cases h2 : (decide (is.length = ix.length) && decide ix.Nodup && decide (ts.length ≤ 1000)) = true
                  · rw [if_pos h2]
                    simp only [Bool.and_eq_true, decide_eq_true_eq] at h2
                    obtain ⟨q1, q2, q3⟩ := names_ok g e1
                    obtain ⟨l1, l2⟩ := asgLen (env := X.env) h0
                    have pa := (args_ok (okE n) g h1 e2).2
                    have hl := (mapE_at e2).1
                    exact x_par (par_any g.calm pa q1 q2 l1 l2 (by rw [hl]; exact h2.1.1) (by rw [sizeLine_eq, ← q2]; omega) rfl (swRes_ok g e3) rfl)
                  · rw [if_neg h2]; exact x_stop
                · rename_i ix is nm e1 e2 e3
                  split
                  · rename_i x px y py a b
                    by_cases h2 : (decide (nm = [x, y]) && c.lcl x && c.lcl y && decide (is.length = ix.length) && decide ix.Nodup) = true
                    · rw [if_pos h2]
                      simp only [Bool.and_eq_true, decide_eq_true_eq] at h2
                      obtain ⟨⟨⟨⟨h3, h4⟩, h5⟩, h6⟩, h7⟩ := h2
                      subst h3
                      have pa := (args_ok (okE n) g h1 e2).2
                      obtain ⟨i, j, rfl, n1, n2⟩ := two_names e1
                      have hne : i ≠ j := by
                        intro z; subst z; simp at h7
                      exact x_par (par_2 g.calm g.nd (g.at n1) (g.at n2) hne (g.lclOk h4) (g.lclOk h5) pa (swRes_ok g e3) rfl)
                    · rw [if_neg h2]; exact x_stop
                  · rename_i x px y py z pz a b d
                    by_cases h2 : (decide (nm = [x, y, z]) && c.lcl x && c.lcl y && c.lcl z && decide (is.length = ix.length) && decide ix.Nodup) = true
                    · rw [if_pos h2]
                      simp only [Bool.and_eq_true, decide_eq_true_eq] at h2
                      obtain ⟨⟨⟨⟨⟨h3, h4⟩, h5⟩, h5b⟩, h6⟩, h7⟩ := h2
                      subst h3
                      have pa := (args_ok (okE n) g h1 e2).2
                      obtain ⟨i, j, l, rfl, n1, n2, n3⟩ := three_names e1
                      simp only [List.nodup_cons, List.mem_cons, not_or, List.not_mem_nil, not_false_eq_true, List.nodup_nil, and_true] at h7
                      exact x_par (par_3 g.calm g.nd (g.at n1) (g.at n2) (g.at n3) h7.1.1 h7.1.2 h7.2 (g.lclOk h4) (g.lclOk h5) (g.lclOk h5b) pa (swRes_ok g e3) rfl)
                    · rw [if_neg h2]; exact x_stop
                  · exact x_stop
                · rename_i e1 e3
                  split
                  · rename_i t kk q1 q2
                    exact x_asg (hE _ _ q2) (tg_ok lk g q1) (swS rfl) (swRes_ok g e3) rfl
                  · exact x_stop
                · exact x_stop
              · rw [if_neg h1]; exact x_stop
            · rename_i hne
              by_cases h1 : notComp e = true
              · rw [if_pos h1]
                split
                · rename_i t kk e1 e2
                  have ht : isTupleE e = false := by
                    cases e <;> first | rfl | exact absurd rfl (hne _ _ _)
                  exact x_asg (hE _ _ e2) (tg_ok lk g e1) (swS h1) (stNone (.inr ht) (fun _ _ => nofun)) rfl
                · exact x_stop
              · rw [if_neg h1]; exact x_stop
          · rw [if_neg h0]; exact x_stop
        · exact x_stop
      · exact x_stop
    | _ => exact x_stop
end
end Tr

set_option Elab.async false
set_option linter.all false
set_option maxRecDepth 100000
set_option maxHeartbeats 1000000
/-! Defs: the promise by the interpreter, depth by depth. -/
namespace Tr
open PySem PySem.Spec PyProof.Rows L2
/-- the frozen arguments, once more -/
def fzs : List V → List Vl → List (V × Vl)
  | v :: vs, x :: xs => if x.isFz then (v, x) :: fzs vs xs else fzs vs xs
  | _, _ => []
section
variable {K : PySem.W.Frag} {H : Hp} {L : List (V × Vl)}
theorem fzs_live : ∀ {vs : List V} {xs : List Vl} {L : List (V × Vl)}, (∀ p ∈ vs.zip xs, p ∈ L) → Live K H L → Live K H (fzs vs xs ++ L)
  | [], _, _, _, l => by unfold fzs; exact l
  | _ :: _, [], _, _, l => by unfold fzs; exact l
  | v :: vs, x :: xs, L, h, l => by
    have ih := fzs_live (vs := vs) (xs := xs) (L := L) (fun p hp => h p (List.mem_cons_of_mem _ hp)) l
    unfold fzs
    split
    · rename_i hx
      exact ih.again0 (List.mem_append_right _ (h _ List.mem_cons_self)) hx
    · exact ih
theorem own_mem : ∀ {xs : List Vl} {n i : Nat} {x : Vl}, xs[i]? = some x → x.isFz = false → n + i ∈ ownIx n xs
  | [], _, _, _, e, _ => by simp at e
  | y :: xs, n, 0, x, e, h => by
    simp at e
    subst e
    unfold ownIx
    rw [if_neg (by rw [h]; decide)]
    exact List.mem_cons_self
  | y :: xs, n, i + 1, x, e, h => by
    have ih := own_mem (xs := xs) (n := n + 1) (i := i) (x := x) (by simpa using e) h
    have e2 : n + 1 + i = n + (i + 1) := by omega
    rw [e2] at ih
    unfold ownIx
    split
    · exact ih
    · exact List.mem_cons_of_mem _ ih
theorem fin_ok : ∀ {xs : List Vl} {vs : List V} {σ : St} {fr : Fm} {ps : List Vl} {L : List (V × Vl)}, vs.length = xs.length → finals xs fr = some ps → (∀ (i : Nat) (x : Vl) (v : V), xs[i]? = some x → x.isFz = false → vs[i]? = some v → σ[i]? = some (some v)) → Live K H (slots σ fr ++ (fzs vs xs ++ L)) → Live K H (vs.zip ps ++ L)
  | [], vs, σ, fr, ps, L, hl, e, hk, l => by
    unfold finals at e
    cases e
    cases vs with
    | nil => exact l.right
    | cons _ _ => cases hl
  | x :: xs, [], σ, fr, ps, L, hl, e, hk, l => by cases hl
  | x :: xs, v :: vs, σ, [], ps, L, hl, e, hk, l => by unfold finals at e; cases e
  | x :: xs, v :: vs, σ, o :: fr, ps, L, hl, e, hk, l => by
    unfold finals at e
    have hk' : ∀ (τ : St) (s : Option V), σ = s :: τ → ∀ (i : Nat) (x : Vl) (v : V), xs[i]? = some x → x.isFz = false → vs[i]? = some v → τ[i]? = some (some v) := fun τ s es i y w h1 h2 h3 => by
      have := hk (i + 1) y w (by simpa using h1) h2 (by simpa using h3)
      rw [es] at this
      simpa using this
    split at e
    · rename_i hx
      obtain ⟨ps', e1, rfl⟩ := mpd e
      have ef : fzs (v :: vs) (x :: xs) = (v, x) :: fzs vs xs := by
        conv => lhs; unfold fzs
        rw [if_pos hx]
      rw [ef] at l
      rw [List.zip_cons_cons]
      cases σ with
      | nil =>
        have l1 : Live K H ((v, x) :: (fzs vs xs ++ L)) := l.right (L1 := slots [] (o :: fr))
        refine (fin_ok (σ := []) (fr := fr) (L := (v, x) :: L) (by simpa using hl) e1 (fun i y w h1 h2 h3 => ?_) ?_).perm (zip_perm_mid _ _ _).symm
        · have := hk (i + 1) y w (by simpa using h1) h2 (by simpa using h3)
          simp at this
        · have e0 : slots [] fr = [] := by cases fr <;> rfl
          rw [e0]
          exact l1.perm (zip_perm_mid _ _ _)
      | cons s τ =>
        have l1 : Live K H (slots τ fr ++ ((v, x) :: (fzs vs xs ++ L))) := by
          cases s with
          | none => cases o <;> exact l
          | some w => cases o with
            | none => exact l
            | some y =>
              have l0 : Live K H ((w, y) :: (slots τ fr ++ ((v, x) :: (fzs vs xs ++ L)))) := l
              exact l0.tail
        refine (fin_ok (σ := τ) (fr := fr) (L := (v, x) :: L) (by simpa using hl) e1 (hk' τ s rfl) ?_).perm (zip_perm_mid _ _ _).symm
        exact l1.perm (List.Perm.append_left _ (zip_perm_mid _ _ _))
    · rename_i hx
      have hx : x.isFz = false := by simpa using hx
      split at e
      · rename_i y
        obtain ⟨ps', e1, rfl⟩ := mpd e
        have ef : fzs (v :: vs) (x :: xs) = fzs vs xs := by
          conv => lhs; unfold fzs
          rw [if_neg (by rw [hx]; decide)]
        rw [ef] at l
        rw [List.zip_cons_cons]
        have h0 := hk 0 x v rfl hx rfl
        cases σ with
        | nil => simp at h0
        | cons s τ =>
          simp at h0
          subst h0
          have l0 : Live K H ((v, y) :: (slots τ fr ++ (fzs vs xs ++ L))) := l
          refine (fin_ok (σ := τ) (fr := fr) (L := (v, y) :: L) (by simpa using hl) e1 (hk' τ (some v) rfl) ?_).perm (zip_perm_mid _ _ _).symm
          exact l0.perm ((zip_perm_mid _ _ _).trans (List.Perm.append_left _ (zip_perm_mid _ _ _)))
      · cases e
theorem slots_nil {σ : St} : ∀ {n : Nat}, slots σ (List.replicate n none) = [] := by
  induction σ with
  | nil => intro n; cases n <;> rfl
  | cons s σ ih => intro n; cases n with
    | zero => cases s <;> rfl
    | succ n => rw [List.replicate_succ]; cases s <;> exact ih
theorem slots_start : ∀ {vs : List V} {xs : List Vl} {n m : Nat}, vs.length = xs.length → slots (vs.map some ++ List.replicate n none) (xs.map some ++ List.replicate m none) = vs.zip xs
  | [], [], n, m, _ => by
    show slots (List.replicate n none) (List.replicate m none) = []
    exact slots_nil
  | [], _ :: _, _, _, e => by cases e
  | _ :: _, [], _, _, e => by cases e
  | v :: vs, x :: xs, n, m, e => by
    show (v, x) :: slots (vs.map some ++ List.replicate n none) (xs.map some ++ List.replicate m none) = _
    rw [slots_start (by simpa using e)]
    rfl
end
/-- a def of the text by its number -/
structure Df where
  nm : Str
  st : Stmt
  N : List Str
  ps : List Str
def ckOf (d : Df) : Ck := ⟨d.N, defScope d.st, defScope d.st⟩
/-- how deep texts go -/
def deep : Nat := 40
def fnOfD (T : Tb) (d : Df) : Fn := ⟨d.ps.length, d.N.length, (defBody d.st).map (cS T deep (ckOf d))⟩
def prgOf (T : Tb) (ds : List Df) (f : Nat) : Option Fn := (ds[f]?).map (fnOfD T)
/-- what is known of a def -/
structure DfOk (K : PySem.W.Frag) (mg : Str → Option Value) (d : Df) (fa : Addr) (fd : FuncData) : Prop where
  mg : mg d.nm = some (.ref fa)
  fn : L2.Fun K d.nm d.nm d.st fa fd
  bd : Binds K fd d.ps []
  sc : FnScope d.N d.ps (defScope d.st)
/-- how a call of the def by names binds -/
def KwSt (d : Df) (ks : List Str) (perm : List Nat) : Prop := ∀ (kV doc pm : Value) (an : Option Addr) (cdv ct : Value) (ws : List Value), ws.length = ks.length → ∃ us, pickP ws perm = some us ∧ us.length = d.ps.length ∧ bindArgs (PySem.W.fnOf d.nm d.nm (defArgs d.st) (defBody d.st) (defScope d.st) .none kV doc pm an cdv ct) ⟨[], ks.zip ws⟩ = pure (d.ps.zip us)
theorem KwSt.kwB {K : PySem.W.Frag} {d : Df} {ks : List Str} {perm : List Nat} {fa : Addr} {fd : FuncData} (h : KwSt d ks perm) (F : L2.Fun K d.nm d.nm d.st fa fd) : KwB fd d.ps ks perm := by
  obtain ⟨oc, od, kV, doc, pm, an, cdv, ct, osl, rfl, _, _⟩ := F.ex
  intro s ws hl
  obtain ⟨us, h1, h2, h3⟩ := h kV doc pm an cdv ct ws hl
  exact ⟨us, h1, h2, .of_eq h3⟩
structure Env1 (K : PySem.W.Frag) (mg : Str → Option Value) (T : Tb) (ds : List Df) : Prop where
  names : T.fs = ds.map Df.nm
  fns : ∀ (f : Nat) (d : Df), ds[f]? = some d → ∃ fa fd, DfOk K mg d fa fd
  kws : ∀ (x : Str) (ks : List Str) (perm : List Nat), ((x, ks), perm) ∈ T.kw → ∃ f d, posOf x T.fs = some f ∧ ds[f]? = some d ∧ d.nm = x ∧ KwSt d ks perm
  bis : ∀ x ∈ bNames, mg x = none
  cons : ∀ x d, T.cs.lookup x = some d → ∃ u v, mg x = some u ∧ RelV v u ∧ ∀ F H, RelD K F H v d
theorem fn_depth {P : Program} {w : World} {K : PySem.W.Frag} {mg : Str → Option Value} {base : Heap} {T : Tb} {ds : List Df} (E : Env1 K mg T ds) : ∀ (k : Nat) (f : Nat) (d : Df) (fa : Addr) (fd : FuncData), ds[f]? = some d → DfOk K mg d fa fd → FnG P w K mg base k fa fd d.ps (spOf K (callN (prgOf T ds) k f)) := by
  intro k
  induction k with
  | zero =>
    intro f d fa fd hd D
    refine ⟨fun vs H Q h => ?_, fun A outer s H args us vs Q hr hgu e0 hb hv h => ?_⟩
    · obtain ⟨xs, L, a, ps, _, _, e, _⟩ := h; cases e
    · obtain ⟨xs, L, a, ps, _, _, e, _⟩ := h; cases e
  | succ k ih =>
    intro f d fa fd hd D
    have hp : ∀ xs a ps, callN (prgOf T ds) (k + 1) f xs = some (a, ps) → runF (callN (prgOf T ds) k) (fnOfD T d) xs = some (a, ps) := fun xs a ps e => by
      unfold callN at e
      obtain ⟨fn, e1, e2⟩ := bnd e
      unfold prgOf at e1
      rw [hd] at e1
      cases e1
      exact e2
    refine fnG_of D.fn D.sc (fun vs H Q h => ?_) fun cdv A outer s H vs Q hr hgu h => ?_
    · obtain ⟨xs, L, a, ps, hl, _, e, _⟩ := h
      have e := hp _ _ _ e
      unfold runF at e
      obtain ⟨c, _⟩ := ite_o e
      simp only [Bool.and_eq_true, decide_eq_true_eq, beq_iff_eq] at c
      rw [hl, c.1]
      rfl
    · obtain ⟨xs, L, a, ps, hl, lv, e, q⟩ := h
      have e := hp _ _ _ e
      unfold runF at e
      obtain ⟨c, e⟩ := ite_o e
      simp only [Bool.and_eq_true, decide_eq_true_eq, beq_iff_eq] at c
      obtain ⟨⟨r, fr'⟩, e1, e⟩ := bnd e
      obtain ⟨ps', e2, e⟩ := mpd e
      have g : Gd T (callN (prgOf T ds) k) k (bodyX P w K mg base d.N d.nm (defScope d.st) fa cdv A outer s H) (ckOf d) := {
        N := rfl
        nd := D.sc.nd
        sc := rfl
        kd := D.sc.kind
        fn := fun _ _ => rfl
        calm := rfl
        room := hr
        gu := hgu
        xe := rfl
        fns := fun f' x hx => by
          rw [E.names, List.getElem?_map] at hx
          obtain ⟨d', hd', rfl⟩ := Option.map_eq_some_iff.mp hx
          obtain ⟨fa', fd', D'⟩ := E.fns f' d' hd'
          exact ⟨fa', fd', d'.ps, D'.mg, D'.fn.kp, D'.bd, ih f' d' fa' fd' hd' D'⟩
        kws := fun x ks perm hx => by
          obtain ⟨f', d', h1, h2, rfl, h4⟩ := E.kws x ks perm hx
          obtain ⟨fa', fd', D'⟩ := E.fns f' d' h2
          exact ⟨f', h1, fa', fd', d'.ps, D'.mg, D'.fn.kp, h4.kwB D'.fn, ih f' d' fa' fd' h2 D'⟩
        bis := E.bis
        cons := E.cons }
      refine ⟨_, list_ok (okS deep) g (ownIx 0 xs) (defBody d.st), ?_⟩
      have lN : d.ps.length ≤ d.N.length := c.2
      have hlp : xs.length = d.ps.length := c.1
      have lv2 : Live K H (fzs vs xs ++ (vs.zip xs ++ L)) := fzs_live (fun p hp => List.mem_append_left _ hp) lv
      refine ⟨xs.map some ++ List.replicate ((fnOfD T d).ns - (fnOfD T d).np) none, fzs vs xs ++ L, r, fr', ⟨?_, fun i x hx => ?_⟩, ?_, e1, fun σ' H' ok' kp => ?_⟩
      · unfold L2.start fnOfD
        simp only [List.length_append, List.length_map, List.length_replicate]
        omega
      · have hi : i < xs.length := by
          by_cases hi : i < xs.length
          · exact hi
          · rw [List.getElem?_append_right (by simpa using hi), List.getElem?_replicate] at hx
            split at hx <;> cases hx
        refine ⟨vs[i]'(by omega), ?_⟩
        unfold L2.start
        rw [List.getElem?_append_left (by simp; omega), List.getElem?_map, List.getElem?_eq_getElem (by omega)]
        rfl
      · unfold L2.start
        rw [slots_start hl]
        exact lv2.perm (perm_mid _ _ _)
      · have fin : ∀ {v : V} {x : Vl}, Live K H' ((v, x) :: (slots σ' fr' ++ (fzs vs xs ++ L))) → Live K H' ((v, x) :: (vs.zip ps' ++ L)) := fun {v x} l => by
          have l1 : Live K H' (slots σ' fr' ++ (fzs vs xs ++ ((v, x) :: L))) := l.perm ((zip_perm_mid _ _ _).trans (List.Perm.append_left _ (zip_perm_mid _ _ _)))
          refine (fin_ok hl e2 (fun i y w h1 h2 h3 => ?_) l1).perm (zip_perm_mid _ _ _).symm
          have := kp i (by have := own_mem (n := 0) h1 h2; rwa [Nat.zero_add] at this)
          rw [this]
          unfold L2.start
          have hi := (List.getElem?_eq_some_iff.mp h3).1
          rw [List.getElem?_append_left (by simpa using hi), List.getElem?_map, h3]
          rfl
        cases r with
        | nx =>
          cases e
          exact fun l => q .non H' (fin (l.scal rfl))
        | rt x =>
          cases e
          exact fun v l => q v H' (fin l)
/-- the law: where the interpreter, at the script, says True -/
theorem law_true {K : PySem.W.Frag} {g : List Vl → Option (Vl × List Vl)} {H : Hp} {a : Addr} {ns : List Int} {F : Addr → Prop} (hs : StS K (fun _ => False) H a ns) {ps : List Vl} (h : g [.scr ns] = some (.fz (.bool true), ps)) : spOf K g [.ref a] H (fun v _ => v = .bl true) := by
  refine ⟨[.scr ns], [], _, ps, rfl, ⟨[], List.nodup_nil, ?_⟩, h, fun v H' l => bool_of l⟩
  refine .cons (f := []) (.scr ?_) .nil
  rcases hs with ⟨o, h1, h2⟩ | h1
  · exact .inl ⟨o, h1, by simp⟩
  · exact .inr h1
end Tr

set_option Elab.async false
set_option linter.all false
set_option maxRecDepth 100000
set_option maxHeartbeats 4000000
/-! What many of the laws' own defs do, by the interpreter alone. -/
namespace Tr
open PySem
abbrev cI (n : Int) : E := .con (.int n)
abbrev nI (n : Int) : E := (E.con (.int n)).neg
/-! ### one step each, for simp -/
section
variable (G : Fs) (lk : List Nat)
@[simp] theorem ev_con (d : D) (fr : Fm) : ev G (.con d) fr = some (.st (.fz d), fr) := by unfold ev; rfl
@[simp] theorem ev_glb (d : D) (fr : Fm) : ev G (.glb d) fr = some (.st (.fz d), fr) := by unfold ev; rfl
@[simp] theorem ev_var (i : Nat) (fr : Fm) : ev G (.var i) fr = match fr[i]? with
    | some (some _) => some (.sl i, fr)
    | _ => none := by unfold ev; rfl
@[simp] theorem ev_tup (es : List E) (fr : Fm) : ev G (.tup es) fr = (gens G es fr).bind fun r => if okSz r.1.length then some (.st (.fz (.tuple (froz r.1))), r.2) else none := by (conv => lhs; unfold ev) <;> rfl
@[simp] theorem ev_lst (es : List E) (fr : Fm) : ev G (.lst es) fr = (gens G es fr).bind fun r => if okSz r.1.length then some (.st (.ol (froz r.1)), r.2) else none := by (conv => lhs; unfold ev) <;> rfl
@[simp] theorem ev_bin (op : Bop) (a b : E) (fr : Fm) : ev G (.bin op a b) fr = (ev G a fr).bind fun p => (ev G b p.2).bind fun q => (lookM q.2 p.1).bind fun x => (lookM q.2 q.1).bind fun y => (binD op x y).map fun z => (.st z, q.2) := by (conv => lhs; unfold ev) <;> rfl
@[simp] theorem ev_neg (a : E) (fr : Fm) : ev G (.neg a) fr = (ev G a fr).bind fun p => match look p.2 p.1 with
    | some (.int i) => some (.st (.fz (.int (-i))), p.2)
    | _ => none := by (conv => lhs; unfold ev) <;> rfl
@[simp] theorem ev_not (a : E) (fr : Fm) : ev G (.not a) fr = (ev G a fr).bind fun p => (look p.2 p.1).bind fun d => if okTru d then some (.st (.fz (.bool (!truD d))), p.2) else none := by (conv => lhs; unfold ev) <;> rfl
@[simp] theorem ev_cmp (op : Cop) (a b : E) (fr : Fm) : ev G (.cmp op a b) fr = (ev G a fr).bind fun p => (ev G b p.2).bind fun q => (look q.2 p.1).bind fun x => (look q.2 q.1).bind fun y => (cmpD op x y).map fun z => (.st (.fz (.bool z)), q.2) := by (conv => lhs; unfold ev) <;> rfl
@[simp] theorem ev_chn (op1 op2 : Cop) (a b c : E) (fr : Fm) : ev G (.chn op1 op2 a b c) fr = (ev G a fr).bind fun p => (ev G b p.2).bind fun q => (look q.2 p.1).bind fun x => (look q.2 q.1).bind fun y => (cmpD op1 x y).bind fun z =>
      if z then (ev G c q.2).bind fun r => (look r.2 q.1).bind fun y' => (look r.2 r.1).bind fun w => (cmpD op2 y' w).map fun z' => (.st (.fz (.bool z')), r.2)
      else some (.st (.fz (.bool false)), q.2) := by (conv => lhs; unfold ev) <;> rfl
@[simp] theorem ev_isc (a : E) (c : D) (no : Bool) (fr : Fm) : ev G (.isc a c no) fr = (ev G a fr).bind fun p => (look p.2 p.1).bind fun x => match c, x with
    | .none, .none => some (.st (.fz (.bool (!no))), p.2)
    | .none, _ => some (.st (.fz (.bool no)), p.2)
    | .bool b, .bool b' => some (.st (.fz (.bool ((b == b') != no))), p.2)
    | _, _ => none := by (conv => lhs; unfold ev) <;> rfl
@[simp] theorem ev_and (a b : E) (fr : Fm) : ev G (.and a b) fr = (ev G a fr).bind fun p => (force p.1 p.2).bind fun x => match x.1 with
    | .fz (.bool true) => ev G b x.2
    | .fz (.bool false) => some (.st (.fz (.bool false)), x.2)
    | .fz d => if okTru d then (if truD d then ev G b x.2 else some (.st (.fz d), x.2)) else none
    | _ => none := by (conv => lhs; unfold ev) <;> rfl
@[simp] theorem ev_or (a b : E) (fr : Fm) : ev G (.or a b) fr = (ev G a fr).bind fun p => (force p.1 p.2).bind fun x => match x.1 with
    | .fz (.bool true) => some (.st (.fz (.bool true)), x.2)
    | .fz (.bool false) => ev G b x.2
    | .fz d => if okTru d then (if truD d then some (.st (.fz d), x.2) else ev G b x.2) else none
    | _ => none := by (conv => lhs; unfold ev) <;> rfl
@[simp] theorem ev_ite (c a b : E) (fr : Fm) : ev G (.ite c a b) fr = (tru G c fr).bind fun t => if t.1 then ev G a t.2 else ev G b t.2 := by (conv => lhs; unfold ev) <;> rfl
@[simp] theorem ev_idx (a i : E) (fr : Fm) : ev G (.idx a i) fr = (ev G a fr).bind fun p => (ev G i p.2).bind fun q => (look q.2 p.1).bind fun x => (look q.2 q.1).bind fun y => (idxD x y).map fun z => (.st (.fz z), q.2) := by (conv => lhs; unfold ev) <;> rfl
@[simp] theorem ev_slc (a : E) (lo hi : Option E) (back : Bool) (fr : Fm) : ev G (.slc a lo hi back) fr = (ev G a fr).bind fun p => (part G lo p.2).bind fun l => (part G hi l.2).bind fun u => (look u.2 p.1).bind fun x => (slcD back l.1 u.1 x).map fun z => (.st z, u.2) := by (conv => lhs; unfold ev) <;> rfl
@[simp] theorem ev_call (f : Nat) (args : List E) (fr : Fm) : ev G (.call f args) fr = (evs G args fr).bind fun r => (lend r.1 r.2).bind fun q => (G f q.1).map fun a => (.st a.1, give r.1 a.2 q.2) := by (conv => lhs; unfold ev) <;> rfl
@[simp] theorem ev_bi (b : Bi) (os : List E) (fr : Fm) : ev G (.bi b os) fr = (evs G os fr).bind fun r => (looks r.2 r.1).bind fun ds => (biD b ds).map fun z => (.st z, r.2) := by (conv => lhs; unfold ev) <;> rfl
@[simp] theorem evs_nil (fr : Fm) : evs G [] fr = some ([], fr) := by unfold evs; rfl
@[simp] theorem evs_cons (e : E) (es : List E) (fr : Fm) : evs G (e :: es) fr = (ev G e fr).bind fun p => (evs G es p.2).map fun r => (p.1 :: r.1, r.2) := by (conv => lhs; unfold evs) <;> rfl
@[simp] theorem gens_nil (fr : Fm) : gens G [] fr = some ([], fr) := by unfold gens; rfl
@[simp] theorem gens_cons (e : E) (es : List E) (fr : Fm) : gens G (e :: es) fr = (ev G e fr).bind fun p => (force p.1 p.2).bind fun x => (gens G es x.2).map fun r => (x.1 :: r.1, r.2) := by (conv => lhs; unfold gens) <;> rfl
@[simp] theorem part_none (fr : Fm) : part G none fr = some (none, fr) := by unfold part; rfl
@[simp] theorem part_some (e : E) (fr : Fm) : part G (some e) fr = (ev G e fr).bind fun p => match look p.2 p.1 with
    | some (.int i) => some (some i, p.2)
    | _ => none := by (conv => lhs; unfold part) <;> rfl
@[simp] theorem tru_and (a b : E) (fr : Fm) : tru G (.and a b) fr = (tru G a fr).bind fun t => if t.1 then tru G b t.2 else some (false, t.2) := by (conv => lhs; unfold tru) <;> rfl
@[simp] theorem tru_or (a b : E) (fr : Fm) : tru G (.or a b) fr = (tru G a fr).bind fun t => if t.1 then some (true, t.2) else tru G b t.2 := by (conv => lhs; unfold tru) <;> rfl
@[simp] theorem tru_not (a : E) (fr : Fm) : tru G (.not a) fr = (tru G a fr).map fun t => (!t.1, t.2) := by (conv => lhs; unfold tru) <;> rfl
theorem tru_else {e : E} (h : plainT e = true) (fr : Fm) : tru G e fr = (ev G e fr).bind fun p => (look p.2 p.1).bind fun d => if okTru d then some (truD d, p.2) else none := tru_def h fr
@[simp] theorem tru_cmp (op : Cop) (a b : E) (fr : Fm) : tru G (.cmp op a b) fr = (ev G (.cmp op a b) fr).bind fun p => (look p.2 p.1).bind fun d => if okTru d then some (truD d, p.2) else none := tru_else G rfl fr
@[simp] theorem tru_chn (op1 op2 : Cop) (a b c : E) (fr : Fm) : tru G (.chn op1 op2 a b c) fr = (ev G (.chn op1 op2 a b c) fr).bind fun p => (look p.2 p.1).bind fun d => if okTru d then some (truD d, p.2) else none := tru_else G rfl fr
@[simp] theorem tru_isc' (a : E) (c : D) (no : Bool) (fr : Fm) : tru G (.isc a c no) fr = (ev G (.isc a c no) fr).bind fun p => (look p.2 p.1).bind fun d => if okTru d then some (truD d, p.2) else none := tru_else G rfl fr
@[simp] theorem tru_call (f : Nat) (args : List E) (fr : Fm) : tru G (.call f args) fr = (ev G (.call f args) fr).bind fun p => (look p.2 p.1).bind fun d => if okTru d then some (truD d, p.2) else none := tru_else G rfl fr
@[simp] theorem tru_bi (b : Bi) (os : List E) (fr : Fm) : tru G (.bi b os) fr = (ev G (.bi b os) fr).bind fun p => (look p.2 p.1).bind fun d => if okTru d then some (truD d, p.2) else none := tru_else G rfl fr
@[simp] theorem tru_var (i : Nat) (fr : Fm) : tru G (.var i) fr = (ev G (.var i) fr).bind fun p => (look p.2 p.1).bind fun d => if okTru d then some (truD d, p.2) else none := tru_else G rfl fr
@[simp] theorem tru_con (d : D) (fr : Fm) : tru G (.con d) fr = (ev G (.con d) fr).bind fun p => (look p.2 p.1).bind fun d => if okTru d then some (truD d, p.2) else none := tru_else G rfl fr
@[simp] theorem tru_idx (a i : E) (fr : Fm) : tru G (.idx a i) fr = (ev G (.idx a i) fr).bind fun p => (look p.2 p.1).bind fun d => if okTru d then some (truD d, p.2) else none := tru_else G rfl fr
@[simp] theorem truO_none (fr : Fm) : truO G none fr = some (true, fr) := by unfold truO; rfl
@[simp] theorem truO_some (e : E) (fr : Fm) : truO G (some e) fr = tru G e fr := by unfold truO; rfl
@[simp] theorem its_li (e : E) (fr : Fm) : its G (.li e) fr = (ev G e fr).bind fun p => (force p.1 p.2).bind fun x => match x.1 with
    | .fz (.list ds) => some (ds, x.2)
    | .fz (.tuple ds) => some (ds, x.2)
    | .ol ds => some (ds, x.2)
    | _ => none := by (conv => lhs; unfold its) <;> rfl
@[simp] theorem its_rg1 (a : E) (fr : Fm) : its G (.rg1 a) fr = (ev G a fr).bind fun p => match look p.2 p.1 with
    | some (.int n) => if smallI n then some (rangeD 0 n, p.2) else none
    | _ => none := by (conv => lhs; unfold its) <;> rfl
@[simp] theorem its_rg2 (a b : E) (fr : Fm) : its G (.rg2 a b) fr = (ev G a fr).bind fun p => (ev G b p.2).bind fun q => match look q.2 p.1, look q.2 q.1 with
    | some (.int m), some (.int n) => if smallI m && smallI n then some (rangeD m n, q.2) else none
    | _, _ => none := by (conv => lhs; unfold its) <;> rfl
@[simp] theorem its_en (e : E) (fr : Fm) : its G (.en e) fr = (ev G e fr).bind fun p => (force p.1 p.2).bind fun x => match x.1 with
    | .fz (.list ds) => some (enumD ds, x.2)
    | .fz (.tuple ds) => some (enumD ds, x.2)
    | .ol ds => some (enumD ds, x.2)
    | _ => none := by (conv => lhs; unfold its) <;> rfl
@[simp] theorem its_zp (a b : E) (fr : Fm) : its G (.zp a b) fr = (ev G a fr).bind fun p => (force p.1 p.2).bind fun x => (ev G b x.2).bind fun q => (force q.1 q.2).bind fun y => match x.1.strip, y.1.strip with
    | .list xs, .list ys => some (pairs xs ys, y.2)
    | .tuple xs, .tuple ys => some (pairs xs ys, y.2)
    | .tuple xs, .list ys => some (pairs xs ys, y.2)
    | .list xs, .tuple ys => some (pairs xs ys, y.2)
    | _, _ => none := by (conv => lhs; unfold its) <;> rfl
@[simp] theorem exec_asg (tg : Tg) (e : E) (fr : Fm) : Tr.exec G lk (.asg tg e) fr = (ev G e fr).bind fun p => (force p.1 p.2).bind fun x => (putTg lk tg x.1 x.2).map fun fr1 => (.nx, fr1) := by (conv => lhs; unfold Tr.exec) <;> rfl
@[simp] theorem exec_par (is : List Nat) (es : List E) (fr : Fm) : Tr.exec G lk (.par is es) fr = (gens G es fr).bind fun r => if is.length == r.1.length && is.Nodup then (putTgsV lk is r.1 r.2).map fun fr1 => (.nx, fr1) else none := by (conv => lhs; unfold Tr.exec) <;> rfl
@[simp] theorem exec_sidx (s : Nat) (i v : E) (fr : Fm) : Tr.exec G lk (.sidx s i v) fr = (ev G v fr).bind fun p => (force p.1 p.2).bind fun x => match x.2[s]? with
    | some (some (.ol _)) => (ev G i x.2).bind fun q => match look q.2 q.1, q.2[s]? with
      | some (.int k), some (some (.ol ds)) => (placeD ds.length k).map fun j => (.nx, q.2.set s (some (.ol (ds.set j x.1.strip))))
      | _, _ => none
    | _ => none := by (conv => lhs; unfold Tr.exec) <;> rfl
@[simp] theorem exec_exp (e : E) (fr : Fm) : Tr.exec G lk (.exp e) fr = (ev G e fr).map fun p => (.nx, p.2) := by (conv => lhs; unfold Tr.exec) <;> rfl
@[simp] theorem exec_app (s : Nat) (e : E) (fr : Fm) : Tr.exec G lk (.app s e) fr = match fr[s]? with
    | some (some (.ol _)) => (ev G e fr).bind fun p => (force p.1 p.2).bind fun x => match x.2[s]? with
      | some (some (.ol ds)) => if decide (ds.length < 16777216) then some (.nx, x.2.set s (some (.ol (ds ++ [x.1.strip])))) else none
      | _ => none
    | _ => none := by (conv => lhs; unfold Tr.exec) <;> rfl
@[simp] theorem exec_ret (e : E) (fr : Fm) : Tr.exec G lk (.ret e) fr = (ev G e fr).bind fun p => (force p.1 p.2).map fun x => (.rt x.1, x.2) := by (conv => lhs; unfold Tr.exec) <;> rfl
@[simp] theorem exec_retv (s : Nat) (fr : Fm) : Tr.exec G lk (.retv s) fr = match fr[s]? with
    | some (some x) => if lk.contains s then none else some (.rt x, fr.set s none)
    | _ => none := by (conv => lhs; unfold Tr.exec) <;> rfl
@[simp] theorem exec_retN (fr : Fm) : Tr.exec G lk .retN fr = some (.rt (.fz .none), fr) := by unfold Tr.exec; rfl
@[simp] theorem exec_iff (c : E) (a b : List S) (fr : Fm) : Tr.exec G lk (.iff c a b) fr = (tru G c fr).bind fun t => if t.1 then Tr.execs G lk a t.2 else Tr.execs G lk b t.2 := by (conv => lhs; unfold Tr.exec) <;> rfl
@[simp] theorem exec_for (tg : Tg) (it : It) (body : List S) (fr : Fm) : Tr.exec G lk (.for tg it body) fr = (its G it fr).bind fun q => forN (turnF G lk tg body) q.1 q.2 := by
  (conv => lhs; unfold Tr.exec) <;> rfl
@[simp] theorem exec_nop (fr : Fm) : Tr.exec G lk .nop fr = some (.nx, fr) := by unfold Tr.exec; rfl
@[simp] theorem execs_nil (fr : Fm) : Tr.execs G lk [] fr = some (.nx, fr) := by unfold Tr.execs; rfl
@[simp] theorem execs_cons (s : S) (ss : List S) (fr : Fm) : Tr.execs G lk (s :: ss) fr = (Tr.exec G lk s fr).bind fun r => match r.1 with
    | .nx => Tr.execs G lk ss r.2
    | .rt x => some (.rt x, r.2) := by (conv => lhs; unfold Tr.execs) <;> rfl
@[simp] theorem putTg_n (i : Nat) (x : Vl) (fr : Fm) : putTg lk (.n i) x fr = if lk.contains i || decide (fr.length ≤ i) then none else some (fr.set i (some x)) := by unfold putTg; rfl
@[simp] theorem putTg_t (ts : List Tg) (ds : List D) (fr : Fm) : putTg lk (.t ts) (.fz (.tuple ds)) fr = putTgs lk ts ds fr := by (conv => lhs; unfold putTg) <;> rfl
@[simp] theorem putTgs_nil (fr : Fm) : putTgs lk [] [] fr = some fr := by unfold putTgs; rfl
@[simp] theorem putTgs_cons (t : Tg) (ts : List Tg) (d : D) (ds : List D) (fr : Fm) : putTgs lk (t :: ts) (d :: ds) fr = (putTg lk t (.fz d) fr).bind fun fr1 => putTgs lk ts ds fr1 := by (conv => lhs; unfold putTgs) <;> rfl
@[simp] theorem putV_nil (fr : Fm) : putTgsV lk [] [] fr = some fr := by unfold putTgsV; rfl
@[simp] theorem putV_cons (t : Nat) (ts : List Nat) (d : Vl) (ds : List Vl) (fr : Fm) : putTgsV lk (t :: ts) (d :: ds) fr = (putTg lk (.n t) d fr).bind fun fr1 => putTgsV lk ts ds fr1 := by (conv => lhs; unfold putTgsV) <;> rfl
end
@[simp] theorem look_st (fr : Fm) (x : Vl) : look fr (.st x) = x.flat := rfl
@[simp] theorem look_sl (fr : Fm) (i : Nat) : look fr (.sl i) = match fr[i]? with
    | some (some x) => x.flat
    | _ => none := rfl
@[simp] theorem lookM_st (fr : Fm) (x : Vl) : lookM fr (.st x) = x.flatM := rfl
@[simp] theorem lookM_sl (fr : Fm) (i : Nat) : lookM fr (.sl i) = match fr[i]? with
    | some (some x) => x.flatM
    | _ => none := rfl
@[simp] theorem looks_nil (fr : Fm) : looks fr [] = some [] := rfl
@[simp] theorem looks_cons (fr : Fm) (p : Pd) (ps : List Pd) : looks fr (p :: ps) = (look fr p).bind fun d => (looks fr ps).map (d :: ·) := rfl
@[simp] theorem force_st (x : Vl) (fr : Fm) : force (.st x) fr = if x.own then some (x, fr) else none := rfl
@[simp] theorem force_sl (i : Nat) (fr : Fm) : force (.sl i) fr = match fr[i]? with
    | some (some (.fz d)) => some (.fz d, fr)
    | some (some (.ol ds)) => some (.fz (.list ds), fr.set i (some (.fz (.list ds))))
    | some (some (.od kvs)) => some (.fz (.dict kvs), fr.set i (some (.fz (.dict kvs))))
    | some (some (.oo xss)) => some (.fz (.list (xss.map .list)), fr.set i (some (.fz (.list (xss.map .list)))))
    | _ => none := rfl
@[simp] theorem lend_nil (fr : Fm) : lend [] fr = some ([], fr) := rfl
@[simp] theorem lend_st (x : Vl) (ps : List Pd) (fr : Fm) : lend (.st x :: ps) fr = (lend ps fr).map fun r => (x :: r.1, r.2) := rfl
@[simp] theorem lend_sl (i : Nat) (ps : List Pd) (fr : Fm) : lend (.sl i :: ps) fr = match fr[i]? with
    | some (some (.fz d)) => (lend ps fr).map fun r => (.fz d :: r.1, r.2)
    | some (some (.scr ns)) => (lend ps fr).map fun r => (.scr ns :: r.1, r.2)
    | some (some x) => (lend ps (fr.set i none)).map fun r => (x :: r.1, r.2)
    | _ => none := rfl
@[simp] theorem give_nil (xs : List Vl) (fr : Fm) : give [] xs fr = fr := by cases xs <;> rfl
@[simp] theorem give_st (y : Vl) (ps : List Pd) (x : Vl) (xs : List Vl) (fr : Fm) : give (.st y :: ps) (x :: xs) fr = give ps xs fr := rfl
@[simp] theorem give_sl (i : Nat) (ps : List Pd) (x : Vl) (xs : List Vl) (fr : Fm) : give (.sl i :: ps) (x :: xs) fr = give ps xs (match fr[i]? with
    | some none => fr.set i (some x)
    | _ => fr) := rfl
@[simp] theorem flat_fz (d : D) : (Vl.fz d).flat = some d := rfl
@[simp] theorem flat_ol (ds : List D) : (Vl.ol ds).flat = some (.list ds) := rfl
@[simp] theorem flat_scr (ns : List Int) : (Vl.scr ns).flat = some (.list (ns.map .int)) := rfl
@[simp] theorem flatM_fz (d : D) : (Vl.fz d).flatM = some d := rfl
@[simp] theorem flatM_ol (ds : List D) : (Vl.ol ds).flatM = some (.list ds) := rfl
@[simp] theorem own_fz (d : D) : (Vl.fz d).own = true := rfl
@[simp] theorem own_ol (ds : List D) : (Vl.ol ds).own = true := rfl
@[simp] theorem strip_fz (d : D) : (Vl.fz d).strip = d := rfl
@[simp] theorem strip_ol (ds : List D) : (Vl.ol ds).strip = .list ds := rfl
@[simp] theorem isFz_fz (d : D) : (Vl.fz d).isFz = true := rfl
@[simp] theorem isFz_ol (ds : List D) : (Vl.ol ds).isFz = false := rfl
@[simp] theorem isFz_scr (ns : List Int) : (Vl.scr ns).isFz = true := rfl
@[simp] theorem froz_nil : froz [] = [] := rfl
@[simp] theorem froz_cons (x : Vl) (xs : List Vl) : froz (x :: xs) = x.strip :: froz xs := rfl
@[simp] theorem ownIx_nil (i : Nat) : ownIx i [] = [] := rfl
@[simp] theorem ownIx_cons (i : Nat) (x : Vl) (xs : List Vl) : ownIx i (x :: xs) = if x.isFz then ownIx (i + 1) xs else i :: ownIx (i + 1) xs := rfl
@[simp] theorem finals_nil (fr : Fm) : finals [] fr = some [] := by cases fr <;> rfl
@[simp] theorem finals_cons (x : Vl) (xs : List Vl) (o : Option Vl) (fr : Fm) : finals (x :: xs) (o :: fr) = if x.isFz then (finals xs fr).map (x :: ·) else match o with
    | some y => (finals xs fr).map (y :: ·)
    | none => none := rfl
@[simp] theorem okTru_int (i : Int) : okTru (.int i) = true := rfl
@[simp] theorem okTru_bool (b : Bool) : okTru (.bool b) = true := rfl
@[simp] theorem okTru_list (b : List D) : okTru (.list b) = true := rfl
@[simp] theorem okTru_tup (b : List D) : okTru (.tuple b) = true := rfl
@[simp] theorem truD_bool (b : Bool) : truD (.bool b) = b := rfl
@[simp] theorem truD_int (b : Int) : truD (.int b) = (b != 0) := rfl
@[simp] theorem cmpD_lt (a b : Int) : cmpD .lt (.int a) (.int b) = some (decide (a < b)) := rfl
@[simp] theorem cmpD_le (a b : Int) : cmpD .le (.int a) (.int b) = some (decide (a ≤ b)) := rfl
@[simp] theorem cmpD_gt (a b : Int) : cmpD .gt (.int a) (.int b) = some (decide (b < a)) := rfl
@[simp] theorem cmpD_ge (a b : Int) : cmpD .ge (.int a) (.int b) = some (decide (b ≤ a)) := rfl
@[simp] theorem binD_add (a b : Int) : binD .add (.int a) (.int b) = some (.fz (.int (a + b))) := rfl
@[simp] theorem binD_sub (a b : Int) : binD .sub (.int a) (.int b) = some (.fz (.int (a - b))) := rfl
@[simp] theorem binD_addT (a b : List D) : binD .add (.tuple a) (.tuple b) = if okSz (a.length + b.length) then some (.fz (.tuple (a ++ b))) else none := rfl
@[simp] theorem binD_addL (a b : List D) : binD .add (.list a) (.list b) = if okSz (a.length + b.length) then some (.ol (a ++ b)) else none := rfl
@[simp] theorem slcD_T (lo hi : Option Int) (xs : List D) : slcD false lo hi (.tuple xs) = some (.fz (.tuple (cutL xs lo hi))) := rfl
@[simp] theorem slcD_L (lo hi : Option Int) (xs : List D) : slcD false lo hi (.list xs) = some (.ol (cutL xs lo hi)) := rfl
theorem okSz_ok {n : Nat} (h : n ≤ 16777216) : okSz n = true := decide_eq_true h
@[simp] theorem biD_lenT (xs : List D) : biD .len [.tuple xs] = some (.fz (.int xs.length)) := rfl
@[simp] theorem biD_lenL (xs : List D) : biD .len [.list xs] = some (.fz (.int xs.length)) := rfl
@[simp] theorem biD_abs (i : Int) : biD .abs [.int i] = some (.fz (.int (if i < 0 then -i else i))) := rfl
@[simp] theorem biD_max2 (i j : Int) : biD .max [.int i, .int j] = some (.fz (.int (if j > i then j else i))) := rfl
@[simp] theorem biD_min2 (i j : Int) : biD .min [.int i, .int j] = some (.fz (.int (if j < i then j else i))) := rfl
@[simp] theorem biD_int (i : Int) : biD .int [.int i] = some (.fz (.int i)) := rfl
@[simp] theorem biD_intB (b : Bool) : biD .int [.bool b] = some (.fz (.int (if b then 1 else 0))) := rfl
@[simp] theorem biD_list (xs : List D) : biD .list [.tuple xs] = some (.ol xs) := rfl
@[simp] theorem biD_listL (xs : List D) : biD .list [.list xs] = some (.ol xs) := rfl
@[simp] theorem biD_tup (xs : List D) : biD .tuple [.tuple xs] = some (.fz (.tuple xs)) := rfl
@[simp] theorem biD_tupL (xs : List D) : biD .tuple [.list xs] = some (.fz (.tuple xs)) := rfl
@[simp] theorem biD_isinst (t : Ty) (d : D) : biD (.isinst t) [d] = some (.fz (.bool (isTy t d))) := rfl
@[simp] theorem biD_all (xs : List D) : biD .all [.list xs] = (boolsD xs).map fun bs => .fz (.bool (bs.all id)) := rfl
/-! ### comprehensions and loops -/
theorem mix_of_wipe {ws : List Nat} : ∀ {k : Nat} {a b : Fm}, wipeP ws k a = wipeP ws k b → mixP ws k b a = b
  | k, [], [], _ => rfl
  | k, [], _ :: _, h => by unfold wipeP at h; cases h
  | k, _ :: _, [], h => by unfold wipeP at h; cases h
  | k, x :: a, y :: b, h => by
    unfold wipeP at h
    have h1 := (List.cons.inj h).1
    have h2 := mix_of_wipe (List.cons.inj h).2
    unfold mixP
    rw [h2]
    split
    · rfl
    · rename_i hc
      rw [if_neg hc, if_neg hc] at h1
      rw [h1]
theorem unwipe_of {ws : List Nat} {a b : Fm} (h : wipeF a ws = wipeF b ws) : unwipe b a ws = b := mix_of_wipe h
def turn0 (G : Fs) (elt : E) (tg : Tg) (cond : Option E) (d : D) (g0 : Fm) : R (Option Vl) :=
  (putTg [] tg (.fz d) g0).bind fun fr2 => (truO G cond fr2).bind fun t => if t.1 then (ev G elt t.2).bind fun p => (force p.1 p.2).map fun x => (some x.1, x.2) else some (none, t.2)
theorem compN_of {G : Fs} {elt : E} {tg : Tg} {cond : Option E} {ws : List Nat} {g0 : Fm} {f : D → Option Vl} : ∀ {ds : List D}, (∀ d ∈ ds, ∃ g, turn0 G elt tg cond d g0 = some (f d, g) ∧ wipeF g ws = g0) → ∀ fr, wipeF fr ws = g0 → ∃ fr', compN (turnC G elt tg cond ws) ds fr = some (ds.filterMap f, fr') ∧ wipeF fr' ws = g0
  | [], _, fr, hf => ⟨fr, rfl, hf⟩
  | d :: ds, h, fr, hf => by
    obtain ⟨g, e1, e2⟩ := h d List.mem_cons_self
    obtain ⟨fr', e3, e4⟩ := compN_of (fun d hd => h d (List.mem_cons_of_mem _ hd)) g e2
    refine ⟨fr', ?_, e4⟩
    unfold compN
    have : turnC G elt tg cond ws d fr = some (f d, g) := by
      rw [← e1]
      unfold turnC turn0
      rw [hf]
    rw [this]
    show (compN (turnC G elt tg cond ws) ds g).map _ = _
    rw [e3]
    cases hd : f d with
    | none => simp [hd]
    | some x => simp [hd]
theorem turnC_eq {G : Fs} {elt : E} {tg : Tg} {cond : Option E} {ws : List Nat} {g0 fr : Fm} {d : D} (h : wipeF fr ws = g0) : turnC G elt tg cond ws d fr = turn0 G elt tg cond d g0 := by
  unfold turnC turn0
  rw [h]
theorem compN_map {α : Type} {G : Fs} {elt : E} {tg : Tg} {cond : Option E} {ws : List Nat} {g0 : Fm} {enc f : α → D} : ∀ {l : List α}, (∀ x ∈ l, ∃ g, turn0 G elt tg cond (enc x) g0 = some (some (.fz (f x)), g) ∧ wipeF g ws = g0) → ∀ fr, wipeF fr ws = g0 → ∃ fr', compN (turnC G elt tg cond ws) (l.map enc) fr = some (l.map fun x => Vl.fz (f x), fr') ∧ wipeF fr' ws = g0
  | [], _, fr, hf => ⟨fr, rfl, hf⟩
  | d :: ds, h, fr, hf => by
    obtain ⟨g, e1, e2⟩ := h d List.mem_cons_self
    obtain ⟨fr', e3, e4⟩ := compN_map (fun d hd => h d (List.mem_cons_of_mem _ hd)) g e2
    refine ⟨fr', ?_, e4⟩
    rw [List.map_cons]
    unfold compN
    rw [turnC_eq hf, e1]
    show (compN (turnC G elt tg cond ws) (ds.map enc) g).map _ = _
    rw [e3]
    rfl
theorem compN_filter {α : Type} {G : Fs} {elt : E} {tg : Tg} {cond : Option E} {ws : List Nat} {g0 : Fm} {enc f : α → D} {p : α → Bool} : ∀ {l : List α}, (∀ x ∈ l, ∃ g, turn0 G elt tg cond (enc x) g0 = some (if p x then some (.fz (f x)) else none, g) ∧ wipeF g ws = g0) → ∀ fr, wipeF fr ws = g0 → ∃ fr', compN (turnC G elt tg cond ws) (l.map enc) fr = some ((l.filter p).map fun x => Vl.fz (f x), fr') ∧ wipeF fr' ws = g0
  | [], _, fr, hf => ⟨fr, rfl, hf⟩
  | d :: ds, h, fr, hf => by
    obtain ⟨g, e1, e2⟩ := h d List.mem_cons_self
    obtain ⟨fr', e3, e4⟩ := compN_filter (fun d hd => h d (List.mem_cons_of_mem _ hd)) g e2
    refine ⟨fr', ?_, e4⟩
    rw [List.map_cons]
    unfold compN
    rw [turnC_eq hf, e1]
    show (compN (turnC G elt tg cond ws) (ds.map enc) g).map _ = _
    rw [e3]
    cases hp : p d with
    | true => simp [hp]
    | false => simp [hp]
@[simp] theorem bools_map {α : Type} (p : α → Bool) : ∀ (l : List α), boolsD (l.map fun x => .bool (p x)) = some (l.map p)
  | [] => rfl
  | x :: l => by
    rw [List.map_cons, List.map_cons]
    show (boolsD (l.map fun x => .bool (p x))).map _ = _
    rw [bools_map p l]
    rfl
/-- a comprehension whose turns change nothing else -/
theorem ev_comp_of {G : Fs} {elt : E} {tg : Tg} {it : It} {cond : Option E} {ws : List Nat} {fr fr1 : Fm} {ds : List D} (f : D → Option D) (hi : its G it fr = some (ds, fr1))
    (ht : ∀ d ∈ ds, ∃ g, turn0 G elt tg cond d (wipeF fr1 ws) = some ((f d).map Vl.fz, g) ∧ wipeF g ws = wipeF fr1 ws) (hsz : ds.length ≤ 16777216) : ev G (.comp elt tg it cond ws false) fr = some (.st (.ol (ds.filterMap f)), fr1) := by
  obtain ⟨fr', e1, e2⟩ := compN_of (f := fun d => (f d).map Vl.fz) ht fr1 rfl
  unfold ev
  rw [hi]
  show (compN (turnC G elt tg cond ws) ds fr1).bind _ = _
  rw [e1]
  have e3 : froz (ds.filterMap fun d => (f d).map Vl.fz) = ds.filterMap f := by
    clear e1 e2 ht hi hsz
    induction ds with
    | nil => rfl
    | cons d ds ih =>
      cases hd : f d with
      | none => simp [hd]; exact ih
      | some x =>
        simp only [List.filterMap_cons, hd, Option.map_some]
        unfold froz at ih ⊢
        rw [List.map_cons, ih]
        rfl
  have hs : okSz (ds.filterMap fun d => (f d).map Vl.fz).length = true := by
    unfold okSz
    refine decide_eq_true (Nat.le_trans (List.length_filterMap_le _ _) hsz)
  show (if okSz (ds.filterMap fun d => (f d).map Vl.fz).length then _ else _) = _
  rw [if_pos hs, if_neg (by decide), e3, unwipe_of e2]
/-- the same over encoded items, all kept -/
theorem ev_comp_map {α : Type} {G : Fs} {elt : E} {tg : Tg} {it : It} {cond : Option E} {ws : List Nat} {fr fr1 : Fm} (l : List α) (enc f : α → D) (hi : its G it fr = some (l.map enc, fr1))
    (ht : ∀ x ∈ l, ∃ g, turn0 G elt tg cond (enc x) (wipeF fr1 ws) = some (some (.fz (f x)), g) ∧ wipeF g ws = wipeF fr1 ws) (hsz : l.length ≤ 16777216) : ev G (.comp elt tg it cond ws false) fr = some (.st (.ol (l.map f)), fr1) := by
  obtain ⟨fr', e1, e2⟩ := compN_map (ws := ws) (g0 := wipeF fr1 ws) (f := f) ht fr1 rfl
  unfold ev
  rw [hi]
  show (compN (turnC G elt tg cond ws) (l.map enc) fr1).bind _ = _
  rw [e1]
  have hs : okSz (l.map fun x => Vl.fz (f x)).length = true := by
    unfold okSz
    exact decide_eq_true (by rw [List.length_map]; exact hsz)
  show (if okSz (l.map fun x => Vl.fz (f x)).length then _ else _) = _
  rw [if_pos hs, if_neg (by decide), unwipe_of e2]
  have : froz (l.map fun x => Vl.fz (f x)) = l.map f := by
    unfold froz
    rw [List.map_map]
    rfl
  rw [this]
/-- .. those that pass -/
theorem ev_comp_filter {α : Type} {G : Fs} {elt : E} {tg : Tg} {it : It} {cond : Option E} {ws : List Nat} {fr fr1 : Fm} (l : List α) (enc f : α → D) (p : α → Bool) (hi : its G it fr = some (l.map enc, fr1))
    (ht : ∀ x ∈ l, ∃ g, turn0 G elt tg cond (enc x) (wipeF fr1 ws) = some (if p x then some (.fz (f x)) else none, g) ∧ wipeF g ws = wipeF fr1 ws) (hsz : l.length ≤ 16777216) : ev G (.comp elt tg it cond ws false) fr = some (.st (.ol ((l.filter p).map f)), fr1) := by
  obtain ⟨fr', e1, e2⟩ := compN_filter (ws := ws) (g0 := wipeF fr1 ws) (f := f) (p := p) ht fr1 rfl
  unfold ev
  rw [hi]
  show (compN (turnC G elt tg cond ws) (l.map enc) fr1).bind _ = _
  rw [e1]
  have hs : okSz ((l.filter p).map fun x => Vl.fz (f x)).length = true := by
    unfold okSz
    exact decide_eq_true (by rw [List.length_map]; exact Nat.le_trans (List.length_filter_le _ _) hsz)
  show (if okSz ((l.filter p).map fun x => Vl.fz (f x)).length then _ else _) = _
  rw [if_pos hs, if_neg (by decide), unwipe_of e2]
  have : froz ((l.filter p).map fun x => Vl.fz (f x)) = (l.filter p).map f := by
    unfold froz
    rw [List.map_map]
    rfl
  rw [this]
theorem forN_nx {turn : D → Fm → R Sg} (I : List D → Fm → Prop) : ∀ {ds done : List D} {fr : Fm}, I done fr → (∀ d done g, I done g → d ∈ ds → ∃ g', turn d g = some (.nx, g') ∧ I (done ++ [d]) g') → ∃ g', forN turn ds fr = some (.nx, g') ∧ I (done ++ ds) g'
  | [], done, fr, h0, _ => ⟨fr, rfl, by rw [List.append_nil]; exact h0⟩
  | d :: ds, done, fr, h0, hs => by
    obtain ⟨g, e1, i1⟩ := hs d done fr h0 List.mem_cons_self
    obtain ⟨g', e2, i2⟩ := forN_nx I i1 (fun d' done' g' hi hm => hs d' done' g' hi (List.mem_cons_of_mem _ hm))
    refine ⟨g', ?_, by rw [List.append_assoc] at i2; exact i2⟩
    unfold forN
    rw [e1]
    exact e2
/-- the same where the invariant does not ask what was done -/
theorem forN_inv {turn : D → Fm → R Sg} (I : Fm → Prop) {ds : List D} {fr : Fm} (h0 : I fr) (hs : ∀ d g, I g → d ∈ ds → ∃ g', turn d g = some (.nx, g') ∧ I g') : ∃ g', forN turn ds fr = some (.nx, g') ∧ I g' :=
  let ⟨g', e, i⟩ := forN_nx (fun _ g => I g) (done := []) h0 fun d _ g hi hm => hs d g hi hm
  ⟨g', e, i⟩

/-! ### data -/
/-- a tuple of numbers -/
def tI' (ns : List Int) : D := .tuple (ns.map .int)
def lI (ns : List Int) : D := .list (ns.map .int)
/-- a stand -/
def sD (p : Int) (hs : List Int) : D := .tuple [.int p, tI' hs]
def at' (hs : List Int) (q : Int) : Int := hs.getD q.toNat 0
theorem place_ok {n : Nat} {q : Int} (h0 : 0 ≤ q) (h1 : q < n) : placeD n q = some q.toNat := by
  unfold placeD L2.ixN
  simp [h0, h1]
theorem idx_tup {hs : List Int} {q : Int} (h0 : 0 ≤ q) (h1 : q < hs.length) : idxD (.tuple (hs.map .int)) (.int q) = some (.int (at' hs q)) := by
  simp only [idxD, List.length_map]
  rw [place_ok h0 h1]
  simp only [Option.bind_some, List.getElem?_map, at', List.getD_eq_getElem?_getD]
  have : q.toNat < hs.length := by omega
  rw [List.getElem?_eq_getElem this]
  rfl
theorem idx_lst {hs : List Int} {q : Int} (h0 : 0 ≤ q) (h1 : q < hs.length) : idxD (.list (hs.map .int)) (.int q) = some (.int (at' hs q)) := by
  simp only [idxD, List.length_map]
  rw [place_ok h0 h1]
  simp only [Option.bind_some, List.getElem?_map, at', List.getD_eq_getElem?_getD]
  have : q.toNat < hs.length := by omega
  rw [List.getElem?_eq_getElem this]
  rfl
end Tr
namespace Tr
open PySem
/-! ### the program's first defs -/
theorem callN_of {P : Nat → Option Fn} {f : Nat} {fn : Fn} {k : Nat} {xs : List Vl} (h : P f = some fn) : callN P (k + 1) f xs = runF (callN P k) fn xs := by
  show (P f).bind (fun fn => runF (callN P k) fn xs) = _
  rw [h]
  rfl
def isWholeFn : Fn := ⟨1, 1, [S.ret ((E.bi (Bi.isinst Ty.int) [E.var 0]).and (E.bi (Bi.isinst Ty.bool) [E.var 0]).not)]⟩
def isWithinFn (iw : Nat) : Fn := ⟨3, 3, [S.ret ((E.call iw [E.var 0]).and (E.chn Cop.le Cop.le (E.var 1) (E.var 0) (E.var 2)))]⟩
def isLongFn : Fn := ⟨3, 3, [S.ret ((E.bi (Bi.isinst Ty.tuple) [E.var 0]).and (E.chn Cop.le Cop.le (E.var 1) (E.bi Bi.len [E.var 0]) (E.var 2)))]⟩
def areCountsFn (il iw : Nat) : Fn := ⟨1, 2, [S.ret ((E.call il [E.var 0, E.glb (.int 2), E.glb (.int 5)]).and (E.bi Bi.all [((E.call iw [E.var 1]).and (E.cmp Cop.ge (E.var 1) (cI 0))).comp (Tg.n 1) (It.li (E.var 0)) none [1] false]))]⟩
def isStandFn (il ic ii : Nat) : Fn := ⟨1, 1, [S.ret ((E.call il [E.var 0, cI 2, cI 2]).and ((E.call ic [(E.var 0).idx (cI 1)]).and (E.call ii [(E.var 0).idx (cI 0), cI 0, E.bin Bop.sub (E.bi Bi.len [(E.var 0).idx (cI 1)]) (cI 1)])))]⟩
def needStandFn (is : Nat) : Fn := ⟨1, 1, [S.iff (E.call is [E.var 0]).not [S.stop] []]⟩
def isWhole : D → Bool
  | .int _ => true
  | _ => false
def PWhole (G : Fs) (f : Nat) : Prop := ∀ d, G f [.fz d] = some (.fz (.bool (isWhole d)), [.fz d])
theorem whole_run (G : Fs) (d : D) : runF G isWholeFn [.fz d] = some (.fz (.bool (isWhole d)), [.fz d]) := by
  cases d <;> simp [runF, isWholeFn, ownIx, Vl.isFz, execs, exec, ev, evs, looks, look, Vl.flat, biD, isTy, force, Vl.own, okTru, truD, finals, isWhole]
def PWithin (G : Fs) (f : Nat) : Prop := ∀ i a b : Int, a ≤ i → i ≤ b → G f [.fz (.int i), .fz (.int a), .fz (.int b)] = some (.fz (.bool true), [.fz (.int i), .fz (.int a), .fz (.int b)])
theorem within_run {G : Fs} {iw : Nat} (h : PWhole G iw) {i a b : Int} (h1 : a ≤ i) (h2 : i ≤ b) : runF G (isWithinFn iw) [.fz (.int i), .fz (.int a), .fz (.int b)] = some (.fz (.bool true), [.fz (.int i), .fz (.int a), .fz (.int b)]) := by
  simp [runF, isWithinFn, ownIx, Vl.isFz, execs, exec, ev, evs, lend, h _, give, force, Vl.own, look, Vl.flat, cmpD, finals, isWhole, h1, h2]
def PLong (G : Fs) (f : Nat) : Prop := ∀ (xs : List D) (a b : Int), a ≤ (xs.length : Int) → (xs.length : Int) ≤ b → G f [.fz (.tuple xs), .fz (.int a), .fz (.int b)] = some (.fz (.bool true), [.fz (.tuple xs), .fz (.int a), .fz (.int b)])
theorem long_run (G : Fs) {xs : List D} {a b : Int} (h1 : a ≤ (xs.length : Int)) (h2 : (xs.length : Int) ≤ b) : runF G isLongFn [.fz (.tuple xs), .fz (.int a), .fz (.int b)] = some (.fz (.bool true), [.fz (.tuple xs), .fz (.int a), .fz (.int b)]) := by
  simp [runF, isLongFn, ownIx, Vl.isFz, execs, exec, ev, evs, looks, look, Vl.flat, biD, isTy, force, Vl.own, cmpD, finals, h1, h2]
/-- heights -/
def IsHs (hs : List Int) : Prop := 2 ≤ hs.length ∧ hs.length ≤ 5 ∧ ∀ h ∈ hs, 0 ≤ h
def PCounts (G : Fs) (f : Nat) : Prop := ∀ hs, IsHs hs → G f [.fz (tI' hs)] = some (.fz (.bool true), [.fz (tI' hs)])
theorem counts_run {G : Fs} {il iw : Nat} (hl : PLong G il) (hw : PWhole G iw) {hs : List Int} (h : IsHs hs) : runF G (areCountsFn il iw) [.fz (tI' hs)] = some (.fz (.bool true), [.fz (tI' hs)]) := by
  obtain ⟨h1, h2, h3⟩ := h
  have e1 := hl (hs.map .int) 2 5 (by simp; omega) (by simp; omega)
  have ec : ev G (((E.call iw [E.var 1]).and (E.cmp Cop.ge (E.var 1) (cI 0))).comp (Tg.n 1) (It.li (E.var 0)) none [1] false) [some (.fz (.tuple (hs.map .int))), none] = some (.st (.ol (hs.map fun _ => .bool true)), [some (.fz (.tuple (hs.map .int))), none]) := by
    refine ev_comp_map hs .int (fun _ => .bool true) ?_ ?_ (by omega)
    · simp
    · intro n hn
      have := h3 n hn
      simp [turn0, wipeF, wipeP, hw _, isWhole, this]
  have e2 := bools_map (fun _ => true) hs
  simp only [tI'] at *
  simp [runF, areCountsFn, e1, ec, e2]
def IsSt (p : Int) (hs : List Int) : Prop := IsHs hs ∧ 0 ≤ p ∧ p < hs.length
def PStand (G : Fs) (f : Nat) : Prop := ∀ p hs, IsSt p hs → G f [.fz (sD p hs)] = some (.fz (.bool true), [.fz (sD p hs)])
@[simp] theorem idx_0 (x : D) (xs : List D) : idxD (.tuple (x :: xs)) (.int 0) = some x := by
  simp only [idxD, List.length_cons]
  rw [place_ok (by omega) (by omega)]
  rfl
@[simp] theorem idx_1 (x y : D) (xs : List D) : idxD (.tuple (x :: y :: xs)) (.int 1) = some y := by
  simp only [idxD, List.length_cons]
  rw [place_ok (by omega) (by omega)]
  rfl
theorem stand_run {G : Fs} {il ic ii : Nat} (hl : PLong G il) (hc : PCounts G ic) (hi : PWithin G ii) {p : Int} {hs : List Int} (h : IsSt p hs) : runF G (isStandFn il ic ii) [.fz (sD p hs)] = some (.fz (.bool true), [.fz (sD p hs)]) := by
  obtain ⟨h1, h2, h3⟩ := h
  have e1 := hl [.int p, tI' hs] 2 2 (by simp) (by simp)
  have e2 := hc hs h1
  have e3 := hi p 0 ((hs.length : Int) - 1) h2 (by omega)
  simp only [tI', sD] at *
  simp [runF, isStandFn, e1, e2, e3]
def PNeed (G : Fs) (f : Nat) : Prop := ∀ p hs, IsSt p hs → G f [.fz (sD p hs)] = some (.fz .none, [.fz (sD p hs)])
theorem need_run {G : Fs} {is : Nat} (hs' : PStand G is) {p : Int} {hs : List Int} (h : IsSt p hs) : runF G (needStandFn is) [.fz (sD p hs)] = some (.fz .none, [.fz (sD p hs)]) := by
  have e1 := hs' p hs h
  simp only [sD] at *
  simp [runF, needStandFn, e1]
end Tr

set_option Elab.async false
set_option linter.all false
set_option maxRecDepth 100000
set_option maxHeartbeats 4000000
/-! The program's steps, by the interpreter alone. -/
namespace Tr
open PySem
def isLetFn : Fn := ⟨2, 5, [S.asg (Tg.t [Tg.n 2, Tg.n 3]) (E.var 0), S.asg (Tg.n 4) (E.bin Bop.add (E.var 2) (E.var 1)), S.ret ((E.chn Cop.le Cop.lt (cI 0) (E.var 4) (E.bi Bi.len [E.var 3])).and (E.cmp Cop.le (E.bi Bi.abs [E.bin Bop.sub ((E.var 3).idx (E.var 4)) ((E.var 3).idx (E.var 2))]) (cI 1)))]⟩
def raisedFn : Fn := ⟨2, 2, [S.ret (E.bin Bop.add (E.bin Bop.add ((E.var 0).slc none (some (E.var 1)) false) (E.tup [E.bin Bop.add ((E.var 0).idx (E.var 1)) (cI 1)])) ((E.var 0).slc (some (E.bin Bop.add (E.var 1) (cI 1))) none false))]⟩
def stepByFn (ra : Nat) : Fn := ⟨2, 4, [S.asg (Tg.t [Tg.n 2, Tg.n 3]) (E.var 0), S.ret (E.tup [E.bin Bop.add (E.var 2) (E.var 1), E.call ra [E.var 3, E.var 2]])]⟩
def sTup : D := .tuple [.int (-1), .int 1]
def stepsByFn (il : Nat) : Fn := ⟨1, 2, [S.ret (E.bi Bi.tuple [(E.var 1).comp (Tg.n 1) (It.li (E.glb sTup)) (some (E.call il [E.var 0, E.var 1])) [1] false])]⟩
def stepsFn (ns sb : Nat) : Fn := ⟨1, 1, [S.exp (E.call ns [E.var 0]), S.ret (E.call sb [E.var 0])]⟩
def isStepFn (iw : Nat) : Fn := ⟨1, 1, [S.ret ((E.call iw [E.var 0]).and (E.cmp Cop.isin (E.var 0) (E.glb sTup)))]⟩
def needStepFn (is : Nat) : Fn := ⟨1, 1, [S.iff (E.call is [E.var 0]).not [S.stop] []]⟩
def needLetFn (ns nt il : Nat) : Fn := ⟨2, 2, [S.exp (E.call ns [E.var 0]), S.exp (E.call nt [E.var 1]), S.iff (E.call il [E.var 0, E.var 1]).not [S.stop] []]⟩
def steppedFn (nl sb : Nat) : Fn := ⟨2, 2, [S.exp (E.call nl [E.var 0, E.var 1]), S.ret (E.call sb [E.var 0, E.var 1])]⟩
/-- a step is let -/
def letB (p : Int) (hs : List Int) (s : Int) : Bool := decide (0 ≤ p + s) && decide (p + s < hs.length) && decide (at' hs (p + s) - at' hs p ≤ 1) && decide (-1 ≤ at' hs (p + s) - at' hs p)
def raiseH (hs : List Int) (p : Int) : List Int := hs.set p.toNat (at' hs p + 1)
def PLet (G : Fs) (f : Nat) : Prop := ∀ p hs s, IsSt p hs → G f [.fz (sD p hs), .fz (.int s)] = some (.fz (.bool (letB p hs s)), [.fz (sD p hs), .fz (.int s)])
theorem let_run (G : Fs) {p : Int} {hs : List Int} {s : Int} (h : IsSt p hs) : runF G isLetFn [.fz (sD p hs), .fz (.int s)] = some (.fz (.bool (letB p hs s)), [.fz (sD p hs), .fz (.int s)]) := by
  obtain ⟨h1, h2, h3⟩ := h
  have e1 := idx_tup h2 h3
  simp only [sD, tI']
  by_cases c : 0 ≤ p + s ∧ p + s < hs.length
  · have e2 := idx_tup c.1 c.2
    have e3 : decide ((if at' hs (p + s) - at' hs p < 0 then -(at' hs (p + s) - at' hs p) else at' hs (p + s) - at' hs p) ≤ 1) = (decide (at' hs (p + s) - at' hs p ≤ 1) && decide (-1 ≤ at' hs (p + s) - at' hs p)) := by
      rw [← Bool.decide_and]
      congr 1
      apply propext
      split <;> omega
    simp [runF, isLetFn, letB, e1, e2, c.1, c.2]
    rw [← e3]
  · by_cases c0 : 0 ≤ p + s
    · have c1 : ¬ (p + s < hs.length) := fun z => c ⟨c0, z⟩
      simp [runF, isLetFn, letB, c0, c1]
    · simp [runF, isLetFn, letB, c0]
theorem cut_take {hs : List Int} {p : Int} (h0 : 0 ≤ p) (h1 : p < hs.length) : cutL (hs.map PyData.int) none (some p) = (hs.map PyData.int).take p.toNat := by
  unfold cutL
  have e : HT.sIx (hs.map PyData.int).length 0 none = 0 := by rfl
  have e2 : HT.sIx (hs.map PyData.int).length (hs.map PyData.int).length (some p) = p.toNat := by
    unfold HT.sIx
    simp
    split <;> omega
  rw [e, e2]
  simp
theorem cut_drop {hs : List Int} {p : Int} (h0 : 0 ≤ p) (h1 : p < hs.length) : cutL (hs.map PyData.int) (some (p + 1)) none = (hs.map PyData.int).drop (p.toNat + 1) := by
  unfold cutL
  have e : HT.sIx (hs.map PyData.int).length 0 (some (p + 1)) = p.toNat + 1 := by
    unfold HT.sIx
    simp
    split <;> omega
  have e2 : HT.sIx (hs.map PyData.int).length (hs.map PyData.int).length none = hs.length := by
    unfold HT.sIx
    simp
  rw [e, e2]
  refine List.take_of_length_le ?_
  simp
def PRaised (G : Fs) (f : Nat) : Prop := ∀ p hs, IsSt p hs → G f [.fz (tI' hs), .fz (.int p)] = some (.fz (tI' (raiseH hs p)), [.fz (tI' hs), .fz (.int p)])
theorem raise_eq {hs : List Int} {p : Int} (h0 : 0 ≤ p) (h1 : p < hs.length) : (hs.map PyData.int).take p.toNat ++ (.int (at' hs p + 1) :: (hs.map PyData.int).drop (p.toNat + 1)) = (raiseH hs p).map .int := by
  unfold raiseH
  have : p.toNat < hs.length := by omega
  rw [List.set_eq_take_append_cons_drop, if_pos this]
  simp
theorem raised_run (G : Fs) {p : Int} {hs : List Int} (h : IsSt p hs) : runF G raisedFn [.fz (tI' hs), .fz (.int p)] = some (.fz (tI' (raiseH hs p)), [.fz (tI' hs), .fz (.int p)]) := by
  obtain ⟨⟨h1, h2, h4⟩, h0, h3⟩ := h
  have e1 := idx_tup h0 h3
  have e2 := cut_take h0 h3
  have e3 := cut_drop h0 h3
  have e4 := raise_eq h0 h3
  simp only [tI']
  have z1 : okSz (min p.toNat hs.length + 1) = true := okSz_ok (by omega)
  have z2 : okSz (min p.toNat hs.length + (hs.length - (p.toNat + 1) + 1)) = true := okSz_ok (by omega)
  have z4 : okSz (min p.toNat hs.length + 1 + (hs.length - (p.toNat + 1))) = true := okSz_ok (by omega)
  have z3 : okSz 1 = true := by decide
  simp [runF, raisedFn, e1, e2, e3, z1, z2, z3, z4, e4]
def PStepBy (G : Fs) (f : Nat) : Prop := ∀ p hs s, IsSt p hs → G f [.fz (sD p hs), .fz (.int s)] = some (.fz (sD (p + s) (raiseH hs p)), [.fz (sD p hs), .fz (.int s)])
theorem stepBy_run {G : Fs} {ra : Nat} (hr : PRaised G ra) {p : Int} {hs : List Int} {s : Int} (h : IsSt p hs) : runF G (stepByFn ra) [.fz (sD p hs), .fz (.int s)] = some (.fz (sD (p + s) (raiseH hs p)), [.fz (sD p hs), .fz (.int s)]) := by
  have e1 := hr p hs h
  have z3 : okSz 2 = true := by decide
  simp only [sD, tI'] at *
  simp [runF, stepByFn, e1, z3]
/-- the steps that are let -/
def lets (p : Int) (hs : List Int) : List Int := [-1, 1].filter (letB p hs)
def PStepsBy (G : Fs) (f : Nat) : Prop := ∀ p hs, IsSt p hs → G f [.fz (sD p hs)] = some (.fz (tI' (lets p hs)), [.fz (sD p hs)])
theorem stepsBy_run {G : Fs} {il : Nat} (hl : PLet G il) {p : Int} {hs : List Int} (h : IsSt p hs) : runF G (stepsByFn il) [.fz (sD p hs)] = some (.fz (tI' (lets p hs)), [.fz (sD p hs)]) := by
  have ec : ev G ((E.var 1).comp (Tg.n 1) (It.li (E.glb sTup)) (some (E.call il [E.var 0, E.var 1])) [1] false) [some (.fz (sD p hs)), none] = some (.st (.ol (([-1, 1].filter (letB p hs)).map .int)), [some (.fz (sD p hs)), none]) := by
    refine ev_comp_filter ([-1, 1] : List Int) .int .int (letB p hs) (by simp [sTup]) (fun n _ => ?_) (by decide)
    have e1 := hl p hs n h
    simp only [sD, tI'] at *
    cases hb : letB p hs n <;> simp [turn0, wipeF, wipeP, e1, hb]
  simp only [sD, tI', lets] at *
  simp [runF, stepsByFn, ec]
def PSteps (G : Fs) (f : Nat) : Prop := PStepsBy G f
theorem steps_run {G : Fs} {ns sb : Nat} (hn : PNeed G ns) (hb : PStepsBy G sb) {p : Int} {hs : List Int} (h : IsSt p hs) : runF G (stepsFn ns sb) [.fz (sD p hs)] = some (.fz (tI' (lets p hs)), [.fz (sD p hs)]) := by
  have e1 := hn p hs h
  have e2 := hb p hs h
  simp only [sD, tI'] at *
  simp [runF, stepsFn, e1, e2]
def IsStp (s : Int) : Prop := s = -1 ∨ s = 1
def PIsStep (G : Fs) (f : Nat) : Prop := ∀ s, IsStp s → G f [.fz (.int s)] = some (.fz (.bool true), [.fz (.int s)])
theorem isStep_run {G : Fs} {iw : Nat} (hw : PWhole G iw) {s : Int} (h : IsStp s) : runF G (isStepFn iw) [.fz (.int s)] = some (.fz (.bool true), [.fz (.int s)]) := by
  have e1 := hw (.int s)
  have e2 : cmpD .isin (.int s) sTup = some true := by
    rcases h with rfl | rfl <;> decide +kernel
  simp [runF, isStepFn, e1, e2, isWhole]
def PNeedStep (G : Fs) (f : Nat) : Prop := ∀ s, IsStp s → G f [.fz (.int s)] = some (.fz .none, [.fz (.int s)])
theorem needStep_run {G : Fs} {is : Nat} (hi : PIsStep G is) {s : Int} (h : IsStp s) : runF G (needStepFn is) [.fz (.int s)] = some (.fz .none, [.fz (.int s)]) := by
  simp [runF, needStepFn, hi s h]
def PNeedLet (G : Fs) (f : Nat) : Prop := ∀ p hs s, IsSt p hs → IsStp s → letB p hs s = true → G f [.fz (sD p hs), .fz (.int s)] = some (.fz .none, [.fz (sD p hs), .fz (.int s)])
theorem needLet_run {G : Fs} {ns nt il : Nat} (h1 : PNeed G ns) (h2 : PNeedStep G nt) (h3 : PLet G il) {p : Int} {hs : List Int} {s : Int} (h : IsSt p hs) (hs' : IsStp s) (hl : letB p hs s = true) :
    runF G (needLetFn ns nt il) [.fz (sD p hs), .fz (.int s)] = some (.fz .none, [.fz (sD p hs), .fz (.int s)]) := by
  have e1 := h1 p hs h
  have e2 := h2 s hs'
  have e3 := h3 p hs s h
  rw [hl] at e3
  simp only [sD, tI'] at *
  simp [runF, needLetFn, e1, e2, e3]
def PStepped (G : Fs) (f : Nat) : Prop := ∀ p hs s, IsSt p hs → IsStp s → letB p hs s = true → G f [.fz (sD p hs), .fz (.int s)] = some (.fz (sD (p + s) (raiseH hs p)), [.fz (sD p hs), .fz (.int s)])
theorem stepped_run {G : Fs} {nl sb : Nat} (h1 : PNeedLet G nl) (h2 : PStepBy G sb) {p : Int} {hs : List Int} {s : Int} (h : IsSt p hs) (hs' : IsStp s) (hl : letB p hs s = true) :
    runF G (steppedFn nl sb) [.fz (sD p hs), .fz (.int s)] = some (.fz (sD (p + s) (raiseH hs p)), [.fz (sD p hs), .fz (.int s)]) := by
  have e1 := h1 p hs s h hs' hl
  have e2 := h2 p hs s h
  simp only [sD, tI'] at *
  simp [runF, steppedFn, e1, e2]
theorem IsSt.step {p : Int} {hs : List Int} {s : Int} (h : IsSt p hs) (hl : letB p hs s = true) : IsSt (p + s) (raiseH hs p) := by
  obtain ⟨⟨h1, h2, h3⟩, h4, h5⟩ := h
  unfold letB at hl
  simp only [Bool.and_eq_true, decide_eq_true_eq] at hl
  have hlen : (raiseH hs p).length = hs.length := by unfold raiseH; rw [List.length_set]
  refine ⟨⟨by omega, by omega, fun x hx => ?_⟩, by omega, by omega⟩
  unfold raiseH at hx
  rcases List.mem_or_eq_of_mem_set hx with hx | rfl
  · exact h3 x hx
  · have : p.toNat < hs.length := by omega
    have : at' hs p ∈ hs := by
      unfold at'
      rw [List.getD_eq_getElem?_getD, List.getElem?_eq_getElem this]
      exact List.getElem_mem _
    have := h3 _ this
    omega
end Tr

set_option Elab.async false
set_option linter.all false
set_option maxRecDepth 100000
set_option maxHeartbeats 4000000
/-! The laws' own small defs. -/
namespace Tr
open PySem
def cellAtFn : Fn := ⟨2, 2, [S.iff (E.cmp Cop.lt (E.var 1) (E.bi Bi.len [E.var 0])) [S.ret ((E.var 0).idx (E.var 1))] [], S.ret (cI 0)]⟩
def penFn : Fn := ⟨1, 1, [S.ret (E.lst [E.bi Bi.max [cI 0, E.bin Bop.sub (E.var 0) (E.bin Bop.pow (cI 10) (cI 18))], E.bin Bop.add (E.bin Bop.mod (E.var 0) (cI 2147483629)) (cI 1), cI 0])]⟩
def drawFn : Fn := ⟨2, 4, [S.iff (E.cmp Cop.gt ((E.var 0).idx (cI 0)) (cI 0)) [S.asg (Tg.n 2) (E.bin Bop.mod ((E.var 0).idx (cI 0)) (E.var 1)), S.sidx 0 (cI 0) (E.bin Bop.fdiv ((E.var 0).idx (cI 0)) (E.var 1)), S.retv 2] [], S.sidx 0 (cI 2) (E.bin Bop.add ((E.var 0).idx (cI 2)) (cI 1)), S.sidx 0 (cI 1) (E.bin Bop.mod (E.bin Bop.add (E.bin Bop.add (E.bin Bop.mul ((E.var 0).idx (cI 1)) (cI 48271)) (E.bin Bop.mul (cI 1009) ((E.var 0).idx (cI 2)))) (cI 7)) (cI 2147483647)), S.asg (Tg.n 3) (E.bin Bop.mod (E.bin Bop.add (E.bin Bop.add (E.bin Bop.mul ((E.var 0).idx (cI 1)) ((E.var 0).idx (cI 1))) (E.bin Bop.mul (cI 69621) ((E.var 0).idx (cI 1)))) (cI 11)) (cI 2147483629)), S.asg (Tg.n 3) (E.bin Bop.mod (E.bin Bop.add (E.bin Bop.mul (E.var 3) (E.var 3)) (E.bin Bop.mul (cI 40014) (E.var 3))) (cI 2147483587)), S.ret (E.bin Bop.mod (E.bin Bop.fdiv (E.var 3) (cI 16)) (E.var 1))]⟩
def pickFn (dr : Nat) : Fn := ⟨2, 2, [S.ret ((E.var 1).idx (E.call dr [E.var 0, E.bi Bi.len [E.var 1]]))]⟩
def sameFn : Fn := ⟨2, 2, [S.ret (E.cmp Cop.eq (E.bi Bi.repr [E.var 0]) (E.bi Bi.repr [E.var 1]))]⟩
/-- where the draws come from -/
def IsPen (x : Vl) : Prop := ∃ a b c : Int, x = .ol [.int a, .int b, .int c] ∧ 0 ≤ b ∧ b < 2 ^ 32
@[simp] theorem cmpD_eqI (a b : Int) : cmpD .eq (.int a) (.int b) = some (a == b) := by
  simp [cmpD, okEq, SeqAt.shaped, PyData.canLay0, PyData.depth, PyData.eqv]
@[simp] theorem binD_modI (a b : Int) : binD .mod (.int a) (.int b) = if decide (0 < b) then some (.fz (.int (a % b))) else none := rfl
@[simp] theorem binD_divI (a b : Int) : binD .fdiv (.int a) (.int b) = if decide (0 < b) && decide (b < 1073741824) then some (.fz (.int (a / b))) else none := rfl
theorem binD_mulL {a b : Int} (h : a.natAbs < 18446744073709551616) : binD .mul (.int a) (.int b) = some (.fz (.int (a * b))) := by
  show (if (decide (a.natAbs < 18446744073709551616) || decide (b.natAbs < 18446744073709551616) || decide (a.natAbs.log2 + b.natAbs.log2 < 1000000)) = true then _ else _) = _
  rw [if_pos]
  simp [h]
theorem binD_mulR {a b : Int} (h : b.natAbs < 18446744073709551616) : binD .mul (.int a) (.int b) = some (.fz (.int (a * b))) := by
  show (if (decide (a.natAbs < 18446744073709551616) || decide (b.natAbs < 18446744073709551616) || decide (a.natAbs.log2 + b.natAbs.log2 < 1000000)) = true then _ else _) = _
  rw [if_pos]
  simp [h]
theorem idxL (xs : List D) (i : Int) : idxD (.list xs) (.int i) = (placeD xs.length i).bind fun j => xs[j]? := rfl
theorem place0 : placeD 3 0 = some 0 := by decide
theorem place1 : placeD 3 1 = some 1 := by decide
theorem place2 : placeD 3 2 = some 2 := by decide
theorem draw_run (G : Fs) {x : Vl} {many : Int} (hx : IsPen x) (h0 : 0 < many) (h1 : many < 2 ^ 30) : ∃ (r : Int) (x' : Vl), runF G drawFn [x, .fz (.int many)] = some (.fz (.int r), [x', .fz (.int many)]) ∧ 0 ≤ r ∧ r < many ∧ IsPen x' := by
  obtain ⟨a, b, c, rfl, hb, hb2⟩ := hx
  have hm2 : many < 1073741824 := by omega
  by_cases ha : a > 0
  · refine ⟨a % many, .ol [.int (a / many), .int b, .int c], ?_, Int.emod_nonneg a (by omega), Int.emod_lt_of_pos a h0, ⟨_, _, _, rfl, hb, hb2⟩⟩
    simp [runF, drawFn, idxL, place0, ha, h0, hm2]
  · let b1 := (b * 48271 + 1009 * (c + 1) + 7) % 2147483647
    have b1a : 0 ≤ b1 := Int.emod_nonneg _ (by omega)
    have b1b : b1 < 2147483647 := Int.emod_lt_of_pos _ (by omega)
    let m1 := (b1 * b1 + 69621 * b1 + 11) % 2147483629
    have m1a : 0 ≤ m1 := Int.emod_nonneg _ (by omega)
    have m1b : m1 < 2147483629 := Int.emod_lt_of_pos _ (by omega)
    let m2 := (m1 * m1 + 40014 * m1) % 2147483587
    refine ⟨m2 / 16 % many, .ol [.int a, .int b1, .int (c + 1)], ?_, Int.emod_nonneg _ (by omega), Int.emod_lt_of_pos _ h0, ⟨_, _, _, rfl, b1a, by omega⟩⟩
    have e1 : binD .mul (.int b) (.int 48271) = some (.fz (.int (b * 48271))) := binD_mulR (by decide)
    have e2 : binD .mul (.int 1009) (.int (c + 1)) = some (.fz (.int (1009 * (c + 1)))) := binD_mulL (by decide)
    have e3 : binD .mul (.int b1) (.int b1) = some (.fz (.int (b1 * b1))) := binD_mulL (by omega)
    have e4 : binD .mul (.int 69621) (.int b1) = some (.fz (.int (69621 * b1))) := binD_mulL (by decide)
    have e5 : binD .mul (.int m1) (.int m1) = some (.fz (.int (m1 * m1))) := binD_mulL (by omega)
    have e6 : binD .mul (.int 40014) (.int m1) = some (.fz (.int (40014 * m1))) := binD_mulL (by decide)
    have f1 : (b * 48271 + 1009 * (c + 1) + 7) % 2147483647 = b1 := rfl
    have f2 : (b1 * b1 + 69621 * b1 + 11) % 2147483629 = m1 := rfl
    have f3 : (m1 * m1 + 40014 * m1) % 2147483587 = m2 := rfl
    clear_value b1
    clear_value m1
    clear_value m2
    simp [runF, drawFn, idxL, place0, place1, place2, ha, h0, e1, e2, f1, e3, e4, f2, e5, e6, f3]
/-! ### texts of data: how long at the most -/
mutual
def cnt : D → Nat
  | .int _ => 24
  | .list xs => cntL xs + 4
  | .tuple xs => cntL xs + 6
  | .str _ => 30
  | _ => 8
def cntL : List D → Nat
  | [] => 0
  | x :: xs => cnt x + 2 + cntL xs
end
mutual
def tame : D → Bool
  | .none => true
  | .bool _ => true
  | .int i => decide (i.natAbs < 10 ^ 20)
  | .list xs => tameL xs
  | .tuple xs => tameL xs
  | .str x => decide ((PyData.str x).shown.length ≤ 30)
  | _ => false
def tameL : List D → Bool
  | [] => true
  | x :: xs => tame x && tameL xs
end
theorem str_len (x : String) : (Str.ofString x).length = x.length := ofString_length x
theorem textFrom_le : ∀ (ts : List Str) (k : Nat) (acc : Str), (textFrom k acc ts).length ≤ acc.length + piled ts
  | [], k, acc => by simp [textFrom, piled_nil]
  | t :: ts, k, acc => by
    unfold textFrom
    refine Nat.le_trans (textFrom_le ts _ _) ?_
    rw [piled_cons, Str.length_append, Str.length_append]
    have : (Str.ofString (if k > 0 then ", " else "")).length ≤ 2 := by
      split <;> decide
    omega
theorem listText_le (ts : List Str) : (listText ts).length ≤ piled ts + 2 := by
  unfold listText
  rw [Str.length_append]
  have h := textFrom_le ts 0 "["
  have e1 : (Str.ofString "[").length = 1 := by decide
  have e2 : (Str.ofString "]").length = 1 := by decide
  omega
theorem tupleText_le (ts : List Str) : (tupleText ts).length ≤ piled ts + 3 := by
  unfold tupleText
  rw [Str.length_append, Str.length_append]
  have e1 : (Str.ofString "(").length = 1 := by decide
  have e2 : (Str.ofString (if ts.length == 1 then ",)" else ")")).length ≤ 2 := by
    split <;> decide
  cases ts with
  | nil =>
    have e3 : (Str.join ", " []).length = 0 := by decide
    omega
  | cons t ts =>
    have := join_length_add (t :: ts) (by simp)
    omega
mutual
theorem shown_le : ∀ d : D, tame d = true → d.shown.length ≤ cnt d ∧ d.showable = true ∧ d.hasDict = false
  | .none, _ => ⟨by show (Str.ofString "None").length ≤ 8; decide, rfl, rfl⟩
  | .bool b, _ => ⟨by cases b <;> decide, rfl, rfl⟩
  | .int i, h => by
    unfold tame at h
    have h := of_decide_eq_true h
    refine ⟨?_, ?_, rfl⟩
    · show (Str.ofString (toString i)).length ≤ 24
      rw [str_len]
      exact Nat.le_trans (int_text_length_le10 (k := 20) (by decide) h) (by decide)
    · show decide (i.natAbs.log2 < 1920) = true
      refine decide_eq_true ?_
      by_cases hz : i.natAbs = 0
      · rw [hz]; decide
      · exact Nat.lt_of_lt_of_le ((Nat.log2_lt (k := 67) hz).mpr (Nat.lt_of_lt_of_le h (by decide))) (by decide)
  | .list xs, h => by
    unfold tame at h
    obtain ⟨h1, h2, h3⟩ := shownL_le xs h
    refine ⟨?_, h2, h3⟩
    show (listText (PyData.shownAll xs)).length ≤ cntL xs + 4
    have := listText_le (PyData.shownAll xs)
    omega
  | .tuple xs, h => by
    unfold tame at h
    obtain ⟨h1, h2, h3⟩ := shownL_le xs h
    refine ⟨?_, h2, h3⟩
    show (tupleText (PyData.shownAll xs)).length ≤ cntL xs + 6
    have := tupleText_le (PyData.shownAll xs)
    omega
  | .str x, h => by
    unfold tame at h
    exact ⟨of_decide_eq_true h, rfl, rfl⟩
  | .dict _, h => by unfold tame at h; cases h
theorem shownL_le : ∀ xs : List D, tameL xs = true → piled (PyData.shownAll xs) ≤ cntL xs ∧ PyData.showableAll xs = true ∧ PyData.hasDictAll xs = false
  | [], _ => ⟨Nat.le_refl _, rfl, rfl⟩
  | x :: xs, h => by
    unfold tameL at h
    rw [Bool.and_eq_true] at h
    obtain ⟨a1, a2, a3⟩ := shown_le x h.1
    obtain ⟨b1, b2, b3⟩ := shownL_le xs h.2
    refine ⟨?_, ?_, ?_⟩
    · show piled (x.shown :: PyData.shownAll xs) ≤ cnt x + 2 + cntL xs
      rw [piled_cons]
      omega
    · show (x.showable && PyData.showableAll xs) = true
      rw [a2, b2]; rfl
    · show (x.hasDict || PyData.hasDictAll xs) = false
      rw [a3, b3]; rfl
end
theorem okShow_of {d : D} (h : tame d = true) (h1 : cnt d ≤ 16777216) (h2 : d.depth ≤ 64) : okShow d = true := by
  obtain ⟨a1, a2, a3⟩ := shown_le d h
  unfold okShow
  have : d.shown.length ≤ 16777216 := by omega
  simp [a2, a3, this, h2]
theorem tameL_ints : ∀ {ns : List Int}, (∀ n ∈ ns, n.natAbs < 10 ^ 20) → tameL (ns.map .int) = true
  | [], _ => rfl
  | n :: ns, h => by
    rw [List.map_cons]
    unfold tameL tame
    rw [tameL_ints fun m hm => h m (List.mem_cons_of_mem _ hm), Bool.and_true]
    exact decide_eq_true (h n List.mem_cons_self)
theorem cntL_ints : ∀ (ns : List Int), cntL (ns.map .int) = 26 * ns.length
  | [] => rfl
  | n :: ns => by
    rw [List.map_cons, List.length_cons]
    unfold cntL cnt
    rw [cntL_ints ns]
    omega
theorem depthL_ints : ∀ (ns : List Int), PyData.depthAll (ns.map .int) = 0
  | [] => rfl
  | n :: ns => by
    rw [List.map_cons]
    show max 0 (PyData.depthAll (ns.map .int)) = 0
    rw [depthL_ints ns]
    rfl
@[simp] theorem cmpD_eqS (a b : Str) : cmpD .eq (.str a) (.str b) = some (decide (a = b)) := rfl
@[simp] theorem biD_repr (d : D) : biD .repr [d] = if okShow d then some (.fz (.str d.shown)) else none := rfl
def PSame (G : Fs) (f : Nat) : Prop := ∀ (x y : Vl) (d : D), x.flat = some d → y.flat = some d → okShow d = true → x.own = true → y.own = true → (∃ a b, x = a ∧ y = b) → G f [x, y] = some (.fz (.bool true), [x, y])
theorem same_ll (G : Fs) {xs : List D} (h : okShow (.list xs) = true) : runF G sameFn [.ol xs, .ol xs] = some (.fz (.bool true), [.ol xs, .ol xs]) := by
  simp [runF, sameFn, h]
/-! ### the script and the pen -/
def PCell (G : Fs) (f : Nat) : Prop := ∀ (ns : List Int) (k : Int), 0 ≤ k → ∃ v : Int, G f [.scr ns, .fz (.int k)] = some (.fz (.int v), [.scr ns, .fz (.int k)])
theorem cell_run (G : Fs) {ns : List Int} {k : Int} (h : 0 ≤ k) : ∃ v : Int, runF G cellAtFn [.scr ns, .fz (.int k)] = some (.fz (.int v), [.scr ns, .fz (.int k)]) := by
  by_cases hk : k < ns.length
  · have e := idx_lst h hk
    exact ⟨at' ns k, by simp [runF, cellAtFn, hk, e]⟩
  · exact ⟨0, by simp [runF, cellAtFn, hk]⟩
def PPen (G : Fs) (f : Nat) : Prop := ∀ v : Int, ∃ x, G f [.fz (.int v)] = some (x, [.fz (.int v)]) ∧ IsPen x
theorem pow18 : binD .pow (.int 10) (.int 18) = some (.fz (.int 1000000000000000000)) := by
  show (if (decide ((0 : Int) ≤ 18) && decide ((18 : Int) ≤ 1000000) && decide ((10 : Int).natAbs < 18446744073709551616)) = true then some (Vl.fz (.int ((10 : Int) ^ (18 : Int).toNat))) else none) = _
  rw [if_pos (by decide)]
  rfl
theorem pen_run (G : Fs) (v : Int) : ∃ x, runF G penFn [.fz (.int v)] = some (x, [.fz (.int v)]) ∧ IsPen x := by
  have h1 : 0 ≤ v % 2147483629 := Int.emod_nonneg _ (by omega)
  have h2 : v % 2147483629 < 2147483629 := Int.emod_lt_of_pos _ (by omega)
  refine ⟨.ol [.int (if v - 1000000000000000000 > 0 then v - 1000000000000000000 else 0), .int (v % 2147483629 + 1), .int 0], ?_, ⟨_, _, _, rfl, by omega, by omega⟩⟩
  have z3 : okSz 3 = true := by decide
  simp [runF, penFn, pow18, z3]
def PDraw (G : Fs) (f : Nat) : Prop := ∀ (x : Vl) (many : Int), IsPen x → 0 < many → many < 2 ^ 30 → ∃ (r : Int) (x' : Vl), G f [x, .fz (.int many)] = some (.fz (.int r), [x', .fz (.int many)]) ∧ 0 ≤ r ∧ r < many ∧ IsPen x'
/-- a list that one picks from: owned, or standing -/
def listy (y : Vl) (xs : List D) : Prop := y = .ol xs ∨ y = .fz (.list xs) ∨ y = .fz (.tuple xs)
def PPick (G : Fs) (f : Nat) : Prop := ∀ (x y : Vl) (xs : List D), IsPen x → listy y xs → 0 < xs.length → xs.length < 2 ^ 30 → ∃ (d : D) (x' : Vl), G f [x, y] = some (.fz d, [x', y]) ∧ d ∈ xs ∧ IsPen x'
theorem pick_run {G : Fs} {dr : Nat} (hd : PDraw G dr) {x y : Vl} {xs : List D} (hx : IsPen x) (hy : listy y xs) (h0 : 0 < xs.length) (h1 : xs.length < 2 ^ 30) : ∃ (d : D) (x' : Vl), runF G (pickFn dr) [x, y] = some (.fz d, [x', y]) ∧ d ∈ xs ∧ IsPen x' := by
  obtain ⟨r, x', e, r0, r1, hx'⟩ := hd x xs.length hx (by omega) (by omega)
  obtain ⟨a, b, c, rfl, -, -⟩ := id hx
  obtain ⟨a', b', c', rfl, -, -⟩ := id hx'
  have hr : r.toNat < xs.length := by omega
  have hp : placeD xs.length r = some r.toNat := place_ok r0 r1
  have hg : xs[r.toNat]? = some xs[r.toNat] := List.getElem?_eq_getElem hr
  refine ⟨xs[r.toNat], .ol [.int a', .int b', .int c'], ?_, List.getElem_mem _, hx'⟩
  rcases hy with rfl | rfl | rfl
  · simp [runF, pickFn, e, idxL, hp, hg]
  · simp [runF, pickFn, e, idxL, hp, hg]
  · have idxT : idxD (.tuple xs) (.int r) = (placeD xs.length r).bind fun j => xs[j]? := rfl
    simp [runF, pickFn, e, idxT, hp, hg]
end Tr

set_option Elab.async false
set_option linter.all false
set_option maxRecDepth 100000
set_option maxHeartbeats 4000000
/-! Drawn stands and walks. -/
namespace Tr
open PySem
theorem forN_ix {turn : D → Fm → R Sg} (I : Nat → Fm → Prop) : ∀ {ds : List D} {k : Nat} {fr : Fm}, I k fr → (∀ i d g, ds[i]? = some d → I (k + i) g → ∃ g', turn d g = some (.nx, g') ∧ I (k + i + 1) g') → ∃ g', forN turn ds fr = some (.nx, g') ∧ I (k + ds.length) g'
  | [], k, fr, h0, _ => ⟨fr, rfl, h0⟩
  | d :: ds, k, fr, h0, hs => by
    obtain ⟨g, e1, i1⟩ := hs 0 d fr rfl h0
    obtain ⟨g', e2, i2⟩ := forN_ix (ds := ds) (k := k + 1) I i1 (fun i d' g' hd hi => by
      have := hs (i + 1) d' g' (by simpa using hd) (by rw [show k + (i + 1) = k + 1 + i by omega]; exact hi)
      rw [show k + (i + 1) + 1 = k + 1 + i + 1 by omega] at this
      exact this)
    refine ⟨g', ?_, by rw [List.length_cons, show k + (ds.length + 1) = k + 1 + ds.length by omega]; exact i2⟩
    unfold forN
    rw [e1]
    exact e2
def standFn (dr pk : Nat) : Fn := ⟨3, 8, [S.par [3, 4] [E.bin .add (cI 2) (E.call dr [E.var 0, E.bin .sub (E.var 1) (cI 1)]), E.call dr [E.var 0, E.bin .add (E.var 2) (cI 1)]], S.asg (Tg.n 5) (E.lst []), S.for (Tg.n 6) (It.rg1 (E.var 3)) [S.app 5 (E.var 4), S.asg (Tg.n 7) (E.bin .add (E.var 4) (E.call pk [E.var 0, E.lst [cI 0, cI 0, cI 1, nI 1, cI 1, nI 1, cI 2, nI 2]])), S.asg (Tg.n 4) ((E.lst [E.var 7, E.call dr [E.var 0, E.bin .add (E.var 2) (cI 1)]]).idx (E.bi .int [E.cmp .eq (E.call dr [E.var 0, cI 4]) (cI 0)])), S.asg (Tg.n 4) (E.bi .max [cI 0, E.bi .min [E.var 2, E.var 4]])], S.ret (E.tup [E.call dr [E.var 0, E.var 3], E.bi .tuple [E.var 5]])]⟩
theorem rangeD_length (n : Int) : (rangeD 0 n).length = n.toNat := by rw [rangeD_len, Int.sub_zero]
theorem small_ok {n : Int} (h0 : 0 ≤ n) (h1 : n ≤ 1000000) : smallI n = true := by
  unfold smallI
  simp only [Bool.and_eq_true, decide_eq_true_eq]
  omega
theorem standDraw_run {G : Fs} {dr pk : Nat} (hd : PDraw G dr) (hp : PPick G pk) {x : Vl} {most high : Int} (hx : IsPen x) (h1 : 2 ≤ most) (h2 : most ≤ 5) (h3 : 0 ≤ high) (h4 : high ≤ 1000000) :
    ∃ (p : Int) (hs : List Int) (x' : Vl), runF G (standFn dr pk) [x, .fz (.int most), .fz (.int high)] = some (.fz (sD p hs), [x', .fz (.int most), .fz (.int high)]) ∧ IsSt p hs ∧ (∀ h ∈ hs, h ≤ high) ∧ (hs.length : Int) ≤ most ∧ IsPen x' := by
  obtain ⟨m0, x1, e1, m0a, m0b, hx1⟩ := hd x (most - 1) hx (by omega) (by omega)
  obtain ⟨here0, x2, e2, h0a, h0b, hx2⟩ := hd x1 (high + 1) hx1 (by omega) (by omega)
  let I : Nat → Fm → Prop := fun k fr => ∃ (y : Vl) (here : Int) (hs : List Int) (o6 o7 : Option Vl), fr = [some y, some (.fz (.int most)), some (.fz (.int high)), some (.fz (.int (2 + m0))), some (.fz (.int here)), some (.ol (hs.map .int)), o6, o7] ∧ IsPen y ∧ 0 ≤ here ∧ here ≤ high ∧ hs.length = k ∧ ∀ h ∈ hs, 0 ≤ h ∧ h ≤ high
  have loop : ∃ g', forN (turnF G [0] (Tg.n 6) [S.app 5 (E.var 4), S.asg (Tg.n 7) (E.bin .add (E.var 4) (E.call pk [E.var 0, E.lst [cI 0, cI 0, cI 1, nI 1, cI 1, nI 1, cI 2, nI 2]])), S.asg (Tg.n 4) ((E.lst [E.var 7, E.call dr [E.var 0, E.bin .add (E.var 2) (cI 1)]]).idx (E.bi .int [E.cmp .eq (E.call dr [E.var 0, cI 4]) (cI 0)])), S.asg (Tg.n 4) (E.bi .max [cI 0, E.bi .min [E.var 2, E.var 4]])]) (rangeD 0 (2 + m0)) [some x2, some (.fz (.int most)), some (.fz (.int high)), some (.fz (.int (2 + m0))), some (.fz (.int here0)), some (.ol []), none, none] = some (.nx, g') ∧ I (0 + (rangeD 0 (2 + m0)).length) g' := by
    refine forN_ix I ⟨x2, here0, [], none, none, rfl, hx2, h0a, by omega, rfl, by simp⟩ ?_
    rintro i d g hi ⟨y, here, hs, o6, o7, rfl, hy, y0, y1, hl, hh⟩
    have hil : i < 5 := by
      have := (List.getElem?_eq_some_iff.mp hi).1
      rw [rangeD_length] at this
      omega
    obtain ⟨v, z1, e3, hv, hz1⟩ := hp y (.ol [.int 0, .int 0, .int 1, .int (-1), .int 1, .int (-1), .int 2, .int (-2)]) _ hy (.inl rfl) (by decide) (by decide)
    obtain ⟨n, rfl⟩ : ∃ n, v = .int n := by
      simp only [List.mem_cons, List.not_mem_nil, or_false] at hv
      rcases hv with h | h | h | h | h | h | h | h <;> exact ⟨_, h⟩
    obtain ⟨q, z2, e4, q0, q1, hz2⟩ := hd z1 (high + 1) hz1 (by omega) (by omega)
    obtain ⟨t, z3, e5, t0, t1, hz3⟩ := hd z2 4 hz2 (by omega) (by omega)
    obtain ⟨a, b, c, rfl, -, -⟩ := id hy
    obtain ⟨a1, b1, c1, rfl, -, -⟩ := id hz1
    obtain ⟨a2, b2, c2, rfl, -, -⟩ := id hz2
    obtain ⟨a3, b3, c3, rfl, -, -⟩ := id hz3
    have zs : okSz 8 = true := by decide
    have zs2 : okSz 2 = true := by decide
    have zl : hs.length < 16777216 := by omega
    let nx : Int := if t = 0 then q else here + n
    let nx2 : Int := if (if nx < high then nx else high) > 0 then (if nx < high then nx else high) else 0
    refine ⟨[some (.ol [.int a3, .int b3, .int c3]), some (.fz (.int most)), some (.fz (.int high)), some (.fz (.int (2 + m0))), some (.fz (.int nx2)), some (.ol ((hs ++ [here]).map .int)), some (.fz d), some (.fz (.int (here + n)))], ?_, ⟨_, _, _, _, _, rfl, hz3, ?_, ?_, ?_, ?_⟩⟩
    · have idx2 : idxD (.list [.int (here + n), .int q]) (.int (if (t == 0) = true then 1 else 0)) = some (.int nx) := by
        show _ = some (PyData.int (if t = 0 then q else here + n))
        by_cases ht : t = 0
        · subst ht; rfl
        · have : (t == 0) = false := by simpa using ht
          rw [this, if_neg ht]; rfl
      have idx3 : idxD (.list [.int (here + n), .int q]) (.int (if t = 0 then 1 else 0)) = some (.int nx) := by
        rw [← idx2]; simp
      clear_value nx
      simp [turnF, e3, e4, e5, zs, zs2, zl, idx3, nx2]
    · show 0 ≤ nx2
      simp only [nx2]
      split <;> omega
    · show nx2 ≤ high
      simp only [nx2]
      split <;> (try split) <;> omega
    · simp [hl]
    · intro h hm
      rcases List.mem_append.mp hm with hm | hm
      · exact hh h hm
      · rw [List.mem_singleton.mp hm]; exact ⟨y0, y1⟩
  obtain ⟨g', el, y, here, hs, o6, o7, rfl, hy, -, -, hl, hh⟩ := loop
  rw [rangeD_length] at hl
  obtain ⟨p, x', e6, p0, p1, hx'⟩ := hd y (2 + m0) hy (by omega) (by omega)
  obtain ⟨a, b, c, rfl, -, -⟩ := id hx
  obtain ⟨a1, b1, c1, rfl, -, -⟩ := id hx1
  obtain ⟨a2, b2, c2, rfl, -, -⟩ := id hx2
  obtain ⟨a3, b3, c3, rfl, -, -⟩ := id hy
  obtain ⟨a4, b4, c4, rfl, -, -⟩ := id hx'
  have zs0 : okSz 0 = true := by decide
  have zs2 : okSz 2 = true := by decide
  have sm := small_ok (n := 2 + m0) (by omega) (by omega)
  refine ⟨p, hs, _, ?_, ⟨⟨by omega, by omega, fun h hm => (hh h hm).1⟩, p0, by omega⟩, fun h hm => (hh h hm).2, by omega, hx'⟩
  simp [runF, standFn, e1, e2, zs0, zs2, sm, el, e6, sD, tI']
end Tr

set_option Elab.async false
set_option linter.all false
set_option maxRecDepth 100000
set_option maxHeartbeats 4000000
/-! Walks as the laws lead them. -/
namespace Tr
open PySem
def lawLetFn : Fn := ⟨2, 4, [S.asg (Tg.t [Tg.n 2, Tg.n 3]) (E.var 0), S.iff (E.chn Cop.le Cop.lt (cI 0) (E.bin Bop.add (E.var 2) (E.var 1)) (E.bi Bi.len [E.var 3])).not [S.ret (E.con (.bool false))] [], S.ret (E.cmp Cop.isin (E.bin Bop.sub ((E.var 3).idx (E.bin Bop.add (E.var 2) (E.var 1))) ((E.var 3).idx (E.var 2))) (E.tup [nI 1, cI 0, cI 1]))]⟩
def lawStepFn : Fn := ⟨2, 6, [S.asg (Tg.t [Tg.n 2, Tg.n 3]) (E.var 0), S.ret (E.tup [E.bin Bop.add (E.var 2) (E.var 1), E.bi Bi.tuple [(E.bin Bop.add (E.var 5) (E.bi Bi.int [E.cmp Cop.eq (E.var 4) (E.var 2)])).comp (Tg.t [Tg.n 4, Tg.n 5]) (It.en (E.var 3)) none [4, 5] false]])]⟩
def lawStepsFn (ll : Nat) : Fn := ⟨1, 2, [S.ret ((E.var 1).comp (Tg.n 1) (It.li (E.tup [nI 1, cI 1])) (some (E.call ll [E.var 0, E.var 1])) [1] false)]⟩
def walkFn (dr st pk sp : Nat) : Fn := ⟨3, 7, [S.asg (Tg.n 3) (E.tup []), S.for (Tg.n 4) (It.rg1 (E.call dr [E.var 0, E.bin Bop.add (E.var 2) (cI 1)])) [S.asg (Tg.n 5) (E.call st [E.var 1]), S.iff (E.cmp Cop.ne (E.var 5) (E.lst [])) [S.asg (Tg.n 6) (E.call pk [E.var 0, E.var 5]), S.par [3, 1] [E.bin Bop.add (E.var 3) (E.tup [E.var 6]), E.call sp [E.var 1, E.var 6]]] []], S.ret (E.tup [E.var 3, E.var 1])]⟩
theorem lawLet_run (G : Fs) {p : Int} {hs : List Int} {s : Int} (h : IsSt p hs) : runF G lawLetFn [.fz (sD p hs), .fz (.int s)] = some (.fz (.bool (letB p hs s)), [.fz (sD p hs), .fz (.int s)]) := by
  obtain ⟨h1, h2, h3⟩ := h
  have e1 := idx_tup h2 h3
  have z3 : okSz 3 = true := by decide
  simp only [sD, tI']
  by_cases c : 0 ≤ p + s ∧ p + s < hs.length
  · have e2 := idx_tup c.1 c.2
    have e3 : ∀ x : Int, cmpD .isin (.int x) (.tuple [.int (-1), .int 0, .int 1]) = some (decide (x ≤ 1) && decide (-1 ≤ x)) := fun x => by
      have : inD (.int x) [.int (-1), .int 0, .int 1] = (decide (x ≤ 1) && decide (-1 ≤ x)) := by
        simp only [inD, List.any_cons, List.any_nil, PyData.eqv, Bool.or_false]
        rw [Bool.eq_iff_iff]
        simp
        omega
      rw [← this]
      rfl
    simp [runF, lawLetFn, letB, e1, e2, c.1, c.2, z3, e3]
  · by_cases c0 : 0 ≤ p + s
    · have c1 : ¬ (p + s < hs.length) := fun z => c ⟨c0, z⟩
      simp [runF, lawLetFn, letB, c0, c1]
    · simp [runF, lawLetFn, letB, c0]
theorem pairs_enum : ∀ (hs : List Int) (k : Nat), pairs ((List.range' k hs.length).map fun (i : Nat) => PyData.int (i : Int)) (hs.map .int) = (hs.zipIdx k).map fun x => .tuple [.int (x.2 : Nat), .int x.1]
  | [], _ => rfl
  | h :: hs, k => by
    rw [List.length_cons, List.range'_succ, List.map_cons, List.map_cons]
    unfold pairs
    rw [pairs_enum hs (k + 1), List.zipIdx_cons, List.map_cons]
theorem enum_ints (hs : List Int) : enumD (hs.map .int) = hs.zipIdx.map fun x => .tuple [.int (x.2 : Nat), .int x.1] := by
  unfold enumD
  rw [List.length_map, List.range_eq_range']
  exact pairs_enum hs 0
theorem raise_zip {p : Int} : ∀ (hs : List Int) (k : Nat), (k : Int) ≤ p → p < k + hs.length → (hs.zipIdx k).map (fun x => x.1 + if ((x.2 : Nat) : Int) = p then 1 else 0) = hs.set (p - k).toNat (hs.getD (p - k).toNat 0 + 1)
  | [], k, h1, h2 => by simp at h2; omega
  | h :: hs, k, h1, h2 => by
    rw [List.zipIdx_cons, List.map_cons]
    by_cases e : (k : Int) = p
    · have : (p - k).toNat = 0 := by omega
      rw [this, List.set_cons_zero]
      simp only [e, if_true, List.getD_cons_zero]
      congr 1
      have tail : ∀ (l : List Int) (j : Nat), p < j → (l.zipIdx j).map (fun x => x.1 + if ((x.2 : Nat) : Int) = p then 1 else 0) = l := by
        intro l
        induction l with
        | nil => intro j _; rfl
        | cons a l ih =>
          intro j hj
          rw [List.zipIdx_cons, List.map_cons, ih (j + 1) (by omega)]
          have : ¬ ((j : Nat) : Int) = p := by omega
          simp [this]
      exact tail hs (k + 1) (by omega)
    · have h2' : p < ((k + 1 : Nat) : Int) + hs.length := by simp only [List.length_cons] at h2; omega
      rw [raise_zip hs (k + 1) (by omega) h2']
      have : (p - (k : Int)).toNat = (p - ((k + 1 : Nat) : Int)).toNat + 1 := by omega
      rw [this, List.set_cons_succ, List.getD_cons_succ, if_neg e]
      simp
theorem lawStep_run (G : Fs) {p : Int} {hs : List Int} {s : Int} (h : IsSt p hs) : runF G lawStepFn [.fz (sD p hs), .fz (.int s)] = some (.fz (sD (p + s) (raiseH hs p)), [.fz (sD p hs), .fz (.int s)]) := by
  obtain ⟨⟨h1, h5, h6⟩, h2, h3⟩ := h
  have ec : ev G ((E.bin Bop.add (E.var 5) (E.bi Bi.int [E.cmp Cop.eq (E.var 4) (E.var 2)])).comp (Tg.t [Tg.n 4, Tg.n 5]) (It.en (E.var 3)) none [4, 5] false) [some (.fz (.tuple [.int p, .tuple (hs.map .int)])), some (.fz (.int s)), some (.fz (.int p)), some (.fz (.tuple (hs.map .int))), none, none] = some (.st (.ol (hs.zipIdx.map fun x => .int (x.1 + if ((x.2 : Nat) : Int) = p then 1 else 0))), [some (.fz (.tuple [.int p, .tuple (hs.map .int)])), some (.fz (.int s)), some (.fz (.int p)), some (.fz (.tuple (hs.map .int))), none, none]) := by
    refine ev_comp_map hs.zipIdx (fun x => .tuple [.int (x.2 : Nat), .int x.1]) (fun x => .int (x.1 + if ((x.2 : Nat) : Int) = p then 1 else 0)) ?_ (fun x hx => ?_) (by rw [List.length_zipIdx]; omega)
    · simp [enum_ints]
    · simp [turn0, wipeF, wipeP]
  have er : (hs.zipIdx.map fun x => PyData.int (x.1 + if ((x.2 : Nat) : Int) = p then 1 else 0)) = (raiseH hs p).map .int := by
    have := raise_zip (p := p) hs 0 (by omega) (by omega)
    unfold raiseH at'
    have e0 : (p - ((0 : Nat) : Int)).toNat = p.toNat := by omega
    rw [e0] at this
    rw [← this, List.map_map]
    rfl
  have z2 : okSz 2 = true := by decide
  rw [er] at ec
  simp only [sD, tI']
  simp [runF, lawStepFn, ec, z2]
theorem lawSteps_run {G : Fs} {ll : Nat} (hl : PLet G ll) {p : Int} {hs : List Int} (h : IsSt p hs) : runF G (lawStepsFn ll) [.fz (sD p hs)] = some (.ol ((lets p hs).map .int), [.fz (sD p hs)]) := by
  have z2 : okSz 2 = true := by decide
  have ec : ev G ((E.var 1).comp (Tg.n 1) (It.li (E.tup [nI 1, cI 1])) (some (E.call ll [E.var 0, E.var 1])) [1] false) [some (.fz (sD p hs)), none] = some (.st (.ol (([-1, 1].filter (letB p hs)).map .int)), [some (.fz (sD p hs)), none]) := by
    refine ev_comp_filter ([-1, 1] : List Int) .int .int (letB p hs) (by simp [z2]) (fun n _ => ?_) (by decide)
    have e1 := hl p hs n h
    simp only [sD, tI'] at *
    cases hb : letB p hs n <;> simp [turn0, wipeF, wipeP, e1, hb]
  simp only [sD, tI', lets] at *
  simp [runF, lawStepsFn, ec]
/-! ### walks -/
def IsWalk (p : Int) (hs : List Int) : List Int → Prop
  | [] => True
  | s :: ws => IsStp s ∧ letB p hs s = true ∧ IsWalk (p + s) (raiseH hs p) ws
def wEnd (p : Int) (hs : List Int) : List Int → Int × List Int
  | [] => (p, hs)
  | s :: ws => wEnd (p + s) (raiseH hs p) ws
theorem walk_snoc : ∀ {ws : List Int} {p : Int} {hs : List Int} {s : Int}, IsWalk p hs ws → IsStp s → letB (wEnd p hs ws).1 (wEnd p hs ws).2 s = true → IsWalk p hs (ws ++ [s]) ∧ wEnd p hs (ws ++ [s]) = ((wEnd p hs ws).1 + s, raiseH (wEnd p hs ws).2 (wEnd p hs ws).1)
  | [], p, hs, s, _, h1, h2 => ⟨⟨h1, h2, trivial⟩, rfl⟩
  | t :: ws, p, hs, s, ⟨q1, q2, q3⟩, h1, h2 => by
    obtain ⟨r1, r2⟩ := walk_snoc q3 h1 h2
    exact ⟨⟨q1, q2, r1⟩, r2⟩
theorem walk_end : ∀ {ws : List Int} {p : Int} {hs : List Int}, IsSt p hs → IsWalk p hs ws → IsSt (wEnd p hs ws).1 (wEnd p hs ws).2
  | [], _, _, h, _ => h
  | s :: ws, p, hs, h, ⟨_, q2, q3⟩ => walk_end (ws := ws) (p := p + s) (hs := raiseH hs p) (h.step q2) q3
def Hi (hs : List Int) (m : Int) : Prop := ∀ h ∈ hs, h ≤ m
theorem Hi.raise {hs : List Int} {m p : Int} (h : Hi hs m) (h0 : 0 ≤ p) (h1 : p < hs.length) : Hi (raiseH hs p) (m + 1) := by
  intro x hx
  unfold raiseH at hx
  rcases List.mem_or_eq_of_mem_set hx with hx | rfl
  · have := h x hx; omega
  · have : p.toNat < hs.length := by omega
    have hm : at' hs p ∈ hs := by
      unfold at'
      rw [List.getD_eq_getElem?_getD, List.getElem?_eq_getElem this]
      exact List.getElem_mem _
    have := h _ hm
    omega
theorem lets_stp {p : Int} {hs : List Int} {s : Int} (h : s ∈ lets p hs) : IsStp s ∧ letB p hs s = true := by
  unfold lets at h
  rw [List.mem_filter] at h
  refine ⟨?_, h.2⟩
  have := h.1
  simp at this
  exact this
def PLawSteps (G : Fs) (f : Nat) : Prop := ∀ p hs, IsSt p hs → G f [.fz (sD p hs)] = some (.ol ((lets p hs).map .int), [.fz (sD p hs)])
theorem eqv_nilL (xs : List D) : PyData.eqv (.list xs) (.list []) = xs.isEmpty := by
  cases xs <;> simp [PyData.eqv, PyData.eqvAll]
theorem shaped_ints (ns : List Int) : SeqAt.shaped (.list (ns.map .int)) = true := by
  unfold SeqAt.shaped
  rw [Bool.and_eq_true]
  refine ⟨?_, ?_⟩
  · show PyData.canLayAll0 (ns.map .int) = true
    induction ns with
    | nil => rfl
    | cons n ns ih =>
      rw [List.map_cons]
      show (true && PyData.canLayAll0 (ns.map .int)) = true
      rw [ih]; rfl
  · refine decide_eq_true ?_
    show PyData.depthAll (ns.map .int) + 1 ≤ 64
    rw [depthL_ints]
    omega
theorem ne_nil (ns : List Int) : cmpD .ne (.list (ns.map .int)) (.list []) = some (!ns.isEmpty) := by
  have h1 := shaped_ints ns
  have h2 := shaped_ints []
  show (if okEq (.list (ns.map .int)) (.list []) = true then some (!PyData.eqv (.list (ns.map .int)) (.list [])) else none) = _
  rw [if_pos (by unfold okEq; rw [h1]; exact h2), eqv_nilL]
  cases ns <;> rfl
theorem walk_run {G : Fs} {dr st pk sp : Nat} (hd : PDraw G dr) (hst : PLawSteps G st) (hp : PPick G pk) (hsp : PStepBy G sp) {x : Vl} {p : Int} {hs : List Int} {most : Int} (hx : IsPen x) (h : IsSt p hs) (h0 : 0 ≤ most) (h1 : most ≤ 1000) :
    ∃ (ws : List Int) (x' : Vl), runF G (walkFn dr st pk sp) [x, .fz (sD p hs), .fz (.int most)] = some (.fz (.tuple [tI' ws, sD (wEnd p hs ws).1 (wEnd p hs ws).2]), [x', .fz (sD p hs), .fz (.int most)]) ∧ IsWalk p hs ws ∧ (ws.length : Int) ≤ most ∧ IsPen x' := by
  obtain ⟨n, x1, e1, n0, n1, hx1⟩ := hd x (most + 1) hx (by omega) (by omega)
  let I : Nat → Fm → Prop := fun k fr => ∃ (y : Vl) (ws : List Int) (o4 o5 o6 : Option Vl), fr = [some y, some (.fz (sD (wEnd p hs ws).1 (wEnd p hs ws).2)), some (.fz (.int most)), some (.fz (tI' ws)), o4, o5, o6] ∧ IsPen y ∧ IsWalk p hs ws ∧ ws.length ≤ k
  have loop : ∃ g', forN (turnF G [0] (Tg.n 4) [S.asg (Tg.n 5) (E.call st [E.var 1]), S.iff (E.cmp Cop.ne (E.var 5) (E.lst [])) [S.asg (Tg.n 6) (E.call pk [E.var 0, E.var 5]), S.par [3, 1] [E.bin Bop.add (E.var 3) (E.tup [E.var 6]), E.call sp [E.var 1, E.var 6]]] []]) (rangeD 0 n) [some x1, some (.fz (sD p hs)), some (.fz (.int most)), some (.fz (tI' [])), none, none, none] = some (.nx, g') ∧ I (0 + (rangeD 0 n).length) g' := by
    refine forN_ix I ⟨x1, [], none, none, none, rfl, hx1, trivial, Nat.le_refl _⟩ ?_
    rintro i d g hi ⟨y, ws, o4, o5, o6, rfl, hy, hw, hl⟩
    have hil : (i : Int) ≤ most := by
      have := (List.getElem?_eq_some_iff.mp hi).1
      rw [rangeD_length] at this
      omega
    have hst' := walk_end h hw
    generalize hq : wEnd p hs ws = q at *
    obtain ⟨q1, q2⟩ := q
    have e2 := hst q1 q2 hst'
    have e3 := ne_nil (lets q1 q2)
    have z0 : okSz 0 = true := by decide
    have z1 : okSz 1 = true := by decide
    obtain ⟨a, b, c, rfl, -, -⟩ := id hy
    by_cases hem : lets q1 q2 = []
    · refine ⟨[some (.ol [.int a, .int b, .int c]), some (.fz (sD q1 q2)), some (.fz (.int most)), some (.fz (tI' ws)), some (.fz d), some (.ol []), o6], ?_, ⟨_, ws, _, _, _, by rw [hq], hy, hw, by omega⟩⟩
      rw [hem] at e2 e3
      simp only [sD, tI'] at *
      simp at e2 e3
      simp [turnF, e2, e3, z0]
    · obtain ⟨v, y2, e4, hv, hy2⟩ := hp (.ol [.int a, .int b, .int c]) (.ol ((lets q1 q2).map .int)) _ hy (.inl rfl) (by rw [List.length_map]; exact List.length_pos_iff.mpr hem) (by
        rw [List.length_map]
        have : (lets q1 q2).length ≤ 2 := List.length_filter_le _ _
        omega)
      obtain ⟨s, hs', rfl⟩ := List.mem_map.mp hv
      obtain ⟨st1, st2⟩ := lets_stp hs'
      have e5 := hsp q1 q2 s hst'
      obtain ⟨a2, b2, c2, rfl, -, -⟩ := id hy2
      have sn := walk_snoc hw st1 (by rw [hq]; exact st2)
      rw [hq] at sn
      have zl : okSz (ws.length + 1) = true := okSz_ok (by omega)
      have e6 : (!(lets q1 q2).isEmpty) = true := by
        cases hc : lets q1 q2 with
        | nil => exact (hem hc).elim
        | cons _ _ => rfl
      rw [e6] at e3
      refine ⟨[some (.ol [.int a2, .int b2, .int c2]), some (.fz (sD (q1 + s) (raiseH q2 q1))), some (.fz (.int most)), some (.fz (tI' (ws ++ [s]))), some (.fz d), some (.ol ((lets q1 q2).map .int)), some (.fz (.int s))], ?_, ⟨_, ws ++ [s], _, _, _, by rw [sn.2], hy2, sn.1, by simp; omega⟩⟩
      simp only [sD, tI'] at *
      simp [turnF, e2, e3, e4, e5, z0, z1, zl]
  obtain ⟨g', el, y, ws, o4, o5, o6, rfl, hy, hw, hl⟩ := loop
  rw [rangeD_length] at hl
  obtain ⟨a, b, c, rfl, -, -⟩ := id hx
  obtain ⟨a1, b1, c1, rfl, -, -⟩ := id hx1
  obtain ⟨a2, b2, c2, rfl, -, -⟩ := id hy
  have z0 : okSz 0 = true := by decide
  have z2 : okSz 2 = true := by decide
  have sm := small_ok (n := n) n0 (by omega)
  refine ⟨ws, _, ?_, hw, by omega, hy⟩
  simp only [sD, tI', List.map_nil] at *
  simp [runF, walkFn, e1, z0, z2, sm, el]
end Tr

set_option Elab.async false
set_option linter.all false
set_option maxRecDepth 100000
set_option maxHeartbeats 4000000
/-! k02: the law's own part. -/
namespace Tr
open PySem
def rightFn (sm ss is sp : Nat) : Fn := ⟨1, 9, [S.par [1, 2] [E.bi Bi.repr [E.var 0], E.lst []], S.asg (Tg.t [Tg.n 3, Tg.n 4]) (E.var 0), S.for (Tg.n 5) (It.li (E.tup [nI 1, cI 1])) [S.asg (Tg.n 6) (E.bin Bop.add (E.var 3) (E.var 5)), S.iff ((E.chn Cop.le Cop.lt (cI 0) (E.var 6) (E.bi Bi.len [E.var 4])).and (E.chn Cop.le Cop.le (E.bin Bop.sub ((E.var 4).idx (E.var 6)) (cI 1)) ((E.var 4).idx (E.var 3)) (E.bin Bop.add ((E.var 4).idx (E.var 6)) (cI 1)))) [S.app 2 (E.var 5)] []], S.iff ((E.call sm [E.lst [E.call ss [E.var 0], E.call ss [E.var 0]], E.lst [E.bi Bi.tuple [E.var 2], E.bi Bi.tuple [E.var 2]]]).not.or ((E.call is [E.var 0]).isc (.bool true) true)) [S.ret (E.con (.bool false))] [], S.for (Tg.n 5) (It.li (E.var 2)) [S.asg (Tg.n 7) (E.bi Bi.list [E.var 4]), S.sidx 7 (E.var 3) (E.bin Bop.add ((E.var 7).idx (E.var 3)) (cI 1)), S.asg (Tg.n 8) (E.tup [E.bin Bop.add (E.var 3) (E.var 5), E.bi Bi.tuple [E.var 7]]), S.iff (E.call sm [E.lst [E.call sp [E.var 0, E.var 5], E.call sp [E.var 0, E.var 5]], E.lst [E.var 8, E.var 8]]).not [S.ret (E.con (.bool false))] []], S.ret (E.cmp Cop.eq (E.bi Bi.repr [E.var 0]) (E.var 1))]⟩
def PSameL (G : Fs) (f : Nat) : Prop := ∀ xs : List D, okShow (.list xs) = true → G f [.ol xs, .ol xs] = some (.fz (.bool true), [.ol xs, .ol xs])
theorem tame_st {p : Int} {hs : List Int} (h : IsSt p hs) (hi : Hi hs 1000000) : tame (sD p hs) = true ∧ cnt (sD p hs) ≤ 1000 ∧ (sD p hs).depth ≤ 2 := by
  obtain ⟨⟨h1, h2, h3⟩, h4, h5⟩ := h
  have t1 := tameL_ints (ns := hs) fun n hn => by
    have a := h3 n hn
    have b := hi n hn
    omega
  have t2 : p.natAbs < 10 ^ 20 := by omega
  refine ⟨?_, ?_, ?_⟩
  · simp only [sD, tI', tame, tameL, t1, decide_eq_true t2]; rfl
  · simp only [sD, tI', cnt, cntL, cntL_ints]; omega
  · simp only [sD, tI', PyData.depth, PyData.depthAll, depthL_ints]; decide
theorem okShow_st {p : Int} {hs : List Int} (h : IsSt p hs) (hi : Hi hs 1000000) : okShow (sD p hs) = true := by
  obtain ⟨a, b, c⟩ := tame_st h hi
  exact okShow_of a (by omega) (by omega)
theorem okShow_two {d : D} (a : tame d = true) (b : cnt d ≤ 1000) (c : d.depth ≤ 2) : okShow (.list [d, d]) = true := by
  refine okShow_of ?_ ?_ ?_
  · simp only [tame, tameL, a]; rfl
  · simp only [cnt, cntL]; omega
  · simp only [PyData.depth, PyData.depthAll]; omega
theorem right_run {G : Fs} {sm ss is sp : Nat} (hsm : PSameL G sm) (hss : PStepsBy G ss) (his : PStand G is) (hsp : PStepped G sp) {p : Int} {hs : List Int} (h : IsSt p hs) (hi : Hi hs 100000) : runF G (rightFn sm ss is sp) [.fz (sD p hs)] = some (.fz (.bool true), [.fz (sD p hs)]) := by
  obtain ⟨⟨h1, h2, h3⟩, h4, h5⟩ := id h
  have hi6 : Hi hs 1000000 := fun x hx => by have := hi x hx; omega
  have sh := okShow_st h hi6
  have e1 := hss p hs h
  have e2 := his p hs h
  have ix := idx_tup h4 h5
  -- the first loop's turn
  have turn1 : ∀ (s : Int) (xs : List D) (o5 o6 : Option Vl), IsStp s → xs.length < 5 → ∃ o6', turnF G [] (Tg.n 5) [S.asg (Tg.n 6) (E.bin Bop.add (E.var 3) (E.var 5)), S.iff ((E.chn Cop.le Cop.lt (cI 0) (E.var 6) (E.bi Bi.len [E.var 4])).and (E.chn Cop.le Cop.le (E.bin Bop.sub ((E.var 4).idx (E.var 6)) (cI 1)) ((E.var 4).idx (E.var 3)) (E.bin Bop.add ((E.var 4).idx (E.var 6)) (cI 1)))) [S.app 2 (E.var 5)] []] (.int s)
      [some (.fz (sD p hs)), some (.fz (.str (sD p hs).shown)), some (.ol xs), some (.fz (.int p)), some (.fz (tI' hs)), o5, o6, none, none] = some (.nx, [some (.fz (sD p hs)), some (.fz (.str (sD p hs).shown)), some (.ol (if letB p hs s then xs ++ [.int s] else xs)), some (.fz (.int p)), some (.fz (tI' hs)), some (.fz (.int s)), o6', none, none]) := by
    intro s xs o5 o6 hs' hxs
    refine ⟨some (.fz (.int (p + s))), ?_⟩
    have zx : xs.length < 16777216 := by omega
    simp only [sD, tI'] at *
    by_cases c : 0 ≤ p + s ∧ p + s < hs.length
    · have ix2 := idx_tup c.1 c.2
      by_cases c2 : at' hs (p + s) - 1 ≤ at' hs p ∧ at' hs p ≤ at' hs (p + s) + 1
      · have hl : letB p hs s = true := by
          unfold letB
          simp only [Bool.and_eq_true, decide_eq_true_eq]
          omega
        simp [turnF, c.1, c.2, ix, ix2, c2.1, c2.2, hl, zx]
      · have hl : letB p hs s = false := by
          unfold letB
          rw [Bool.and_eq_false_iff, Bool.and_eq_false_iff]
          by_cases c3 : at' hs (p + s) - 1 ≤ at' hs p
          · have c4 : ¬ at' hs p ≤ at' hs (p + s) + 1 := fun z => c2 ⟨c3, z⟩
            exact .inr (decide_eq_false (by omega))
          · exact .inl (.inr (decide_eq_false (by omega)))
        by_cases c3 : at' hs (p + s) - 1 ≤ at' hs p
        · have c4 : ¬ at' hs p ≤ at' hs (p + s) + 1 := fun z => c2 ⟨c3, z⟩
          simp [turnF, c.1, c.2, ix, ix2, c3, c4, hl]
        · simp [turnF, c.1, c.2, ix, ix2, c3, hl]
    · have hl : letB p hs s = false := by
        unfold letB
        by_cases c0 : 0 ≤ p + s
        · have c1 : ¬ (p + s < hs.length) := fun z => c ⟨c0, z⟩
          simp [c1]
        · simp [c0]
      by_cases c0 : 0 ≤ p + s
      · have c1 : ¬ (p + s < hs.length) := fun z => c ⟨c0, z⟩
        simp [turnF, c0, c1, hl]
      · simp [turnF, c0, hl]
  obtain ⟨o6a, t1⟩ := turn1 (-1) [] none none (.inl rfl) (by decide)
  obtain ⟨o6b, t2⟩ := turn1 1 (if letB p hs (-1) then [] ++ [.int (-1)] else []) (some (.fz (.int (-1)))) o6a (.inr rfl) (by split <;> decide)
  have el : (if letB p hs 1 then (if letB p hs (-1) then [] ++ [PyData.int (-1)] else []) ++ [.int 1] else (if letB p hs (-1) then [] ++ [PyData.int (-1)] else [])) = (lets p hs).map .int := by
    unfold lets
    cases ha : letB p hs (-1) <;> cases hb : letB p hs 1 <;> simp [ha, hb]
  rw [el] at t2
  have loop1 : forN (turnF G [] (Tg.n 5) [S.asg (Tg.n 6) (E.bin Bop.add (E.var 3) (E.var 5)), S.iff ((E.chn Cop.le Cop.lt (cI 0) (E.var 6) (E.bi Bi.len [E.var 4])).and (E.chn Cop.le Cop.le (E.bin Bop.sub ((E.var 4).idx (E.var 6)) (cI 1)) ((E.var 4).idx (E.var 3)) (E.bin Bop.add ((E.var 4).idx (E.var 6)) (cI 1)))) [S.app 2 (E.var 5)] []]) [.int (-1), .int 1]
      [some (.fz (sD p hs)), some (.fz (.str (sD p hs).shown)), some (.ol []), some (.fz (.int p)), some (.fz (tI' hs)), none, none, none, none] = some (.nx, [some (.fz (sD p hs)), some (.fz (.str (sD p hs).shown)), some (.ol ((lets p hs).map .int)), some (.fz (.int p)), some (.fz (tI' hs)), some (.fz (.int 1)), o6b, none, none]) := by
    unfold forN
    rw [t1]
    show forN _ [PyData.int 1] _ = _
    unfold forN
    rw [t2]
    rfl
  -- both answers the same
  have ln : (lets p hs).length ≤ 2 := List.length_filter_le _ _
  have tl : tame (tI' (lets p hs)) = true ∧ cnt (tI' (lets p hs)) ≤ 1000 ∧ (tI' (lets p hs)).depth ≤ 2 := by
    refine ⟨?_, ?_, ?_⟩
    · show tameL _ = true
      exact tameL_ints fun n hn => by
        rcases (lets_stp hn).1 with rfl | rfl <;> decide
    · simp only [tI', cnt, cntL_ints]; omega
    · simp only [tI', PyData.depth, depthL_ints]; decide
  have s1 := hsm [tI' (lets p hs), tI' (lets p hs)] (okShow_two tl.1 tl.2.1 tl.2.2)
  -- the second loop
  let I : Fm → Prop := fun fr => ∃ o5 o7 o8 : Option Vl, fr = [some (.fz (sD p hs)), some (.fz (.str (sD p hs).shown)), some (.fz (.list ((lets p hs).map .int))), some (.fz (.int p)), some (.fz (tI' hs)), o5, o6b, o7, o8]
  have loop2 : ∃ g', forN (turnF G [] (Tg.n 5) [S.asg (Tg.n 7) (E.bi Bi.list [E.var 4]), S.sidx 7 (E.var 3) (E.bin Bop.add ((E.var 7).idx (E.var 3)) (cI 1)), S.asg (Tg.n 8) (E.tup [E.bin Bop.add (E.var 3) (E.var 5), E.bi Bi.tuple [E.var 7]]), S.iff (E.call sm [E.lst [E.call sp [E.var 0, E.var 5], E.call sp [E.var 0, E.var 5]], E.lst [E.var 8, E.var 8]]).not [S.ret (E.con (.bool false))] []]) ((lets p hs).map .int)
      [some (.fz (sD p hs)), some (.fz (.str (sD p hs).shown)), some (.fz (.list ((lets p hs).map .int))), some (.fz (.int p)), some (.fz (tI' hs)), some (.fz (.int 1)), o6b, none, none] = some (.nx, g') ∧ I g' := by
    refine forN_inv I ⟨_, _, _, rfl⟩ ?_
    rintro d g ⟨o5, o7, o8, rfl⟩ hd
    obtain ⟨s, hs', rfl⟩ := List.mem_map.mp hd
    obtain ⟨st1, st2⟩ := lets_stp hs'
    have e3 := hsp p hs s h st1 st2
    have hstep := h.step st2
    have hi7 : Hi (raiseH hs p) 1000000 := fun x hx => by have := (hi.raise h4 h5) x hx; omega
    obtain ⟨a, b, c⟩ := tame_st hstep hi7
    have s2 := hsm [sD (p + s) (raiseH hs p), sD (p + s) (raiseH hs p)] (okShow_two a b c)
    have ixl := idx_lst h4 h5
    have pl : placeD hs.length p = some p.toNat := place_ok h4 h5
    have st : (hs.map PyData.int).set p.toNat (.int (at' hs p + 1)) = (raiseH hs p).map .int := by
      unfold raiseH
      rw [List.map_set]
    have z2 : okSz 2 = true := by decide
    refine ⟨_, ?_, ⟨some (.fz (.int s)), some (.ol ((raiseH hs p).map .int)), some (.fz (sD (p + s) (raiseH hs p))), rfl⟩⟩
    simp only [sD, tI'] at *
    simp [turnF, ixl, pl, st, z2, e3, s2]
  obtain ⟨g', el2, o5, o7, o8, rfl⟩ := loop2
  have z0 : okSz 0 = true := by decide
  have z2 : okSz 2 = true := by decide
  simp only [sD, tI'] at *
  simp [runF, rightFn, sh, z0, z2, loop1, e1, s1, e2, el2]
def lawFn (ce pe dr st wk sp rt : Nat) : Fn := ⟨1, 7, [S.for (Tg.n 1) (It.rg1 (E.bi Bi.max [cI 1, E.bi Bi.min [E.bi Bi.len [E.var 0], cI 4]])) [S.asg (Tg.n 2) (E.call pe [E.call ce [E.var 0, E.var 1]]), S.for (Tg.n 3) (It.rg1 (cI 6)) [S.asg (Tg.n 4) (E.call st [E.var 2, cI 5, cI 5]), S.iff (E.bi Bi.all [(E.call rt [E.tup [E.var 5, (E.var 4).idx (cI 1)]]).comp (Tg.n 5) (It.rg1 (E.bi Bi.len [(E.var 4).idx (cI 1)])) none [5] false]).not [S.ret (E.con (.bool false))] [], S.for (Tg.n 6) (It.li ((E.call wk [E.var 2, E.var 4, cI 40]).idx (cI 0))) [S.asg (Tg.n 4) (E.call sp [E.var 4, E.var 6])], S.iff (E.call rt [E.var 4]).not [S.ret (E.con (.bool false))] []]], S.ret (E.con (.bool true))]⟩
def PStandDraw (G : Fs) (f : Nat) : Prop := ∀ (x : Vl) (most high : Int), IsPen x → 2 ≤ most → most ≤ 5 → 0 ≤ high → high ≤ 1000000 → ∃ (p : Int) (hs : List Int) (x' : Vl), G f [x, .fz (.int most), .fz (.int high)] = some (.fz (sD p hs), [x', .fz (.int most), .fz (.int high)]) ∧ IsSt p hs ∧ (∀ h ∈ hs, h ≤ high) ∧ (hs.length : Int) ≤ most ∧ IsPen x'
def PWalk (G : Fs) (f : Nat) : Prop := ∀ (x : Vl) (p : Int) (hs : List Int) (most : Int), IsPen x → IsSt p hs → 0 ≤ most → most ≤ 1000 → ∃ (ws : List Int) (x' : Vl), G f [x, .fz (sD p hs), .fz (.int most)] = some (.fz (.tuple [tI' ws, sD (wEnd p hs ws).1 (wEnd p hs ws).2]), [x', .fz (sD p hs), .fz (.int most)]) ∧ IsWalk p hs ws ∧ (ws.length : Int) ≤ most ∧ IsPen x'
def PRight (G : Fs) (f : Nat) : Prop := ∀ p hs, IsSt p hs → Hi hs 100000 → G f [.fz (sD p hs)] = some (.fz (.bool true), [.fz (sD p hs)])
theorem mem_range {n : Int} {d : D} (h : d ∈ rangeD 0 n) : ∃ i : Int, d = .int i ∧ 0 ≤ i ∧ i < n := by
  unfold rangeD at h
  obtain ⟨i, hi, rfl⟩ := List.mem_map.mp h
  rw [List.mem_range] at hi
  exact ⟨_, rfl, by omega, by omega⟩
theorem its_rg1_of {G : Fs} {e : E} {fr fr' : Fm} {n : Int} (h : ev G e fr = some (.st (.fz (.int n)), fr')) (hs : smallI n = true) : its G (.rg1 e) fr = some (rangeD 0 n, fr') := by
  rw [its_rg1, h]
  show (if smallI n = true then some (rangeD 0 n, fr') else none) = _
  rw [if_pos hs]
theorem rangeD_nat (n : Nat) : rangeD 0 (n : Int) = (List.range n).map fun (i : Nat) => PyData.int (i : Int) := by
  unfold rangeD
  rw [Int.sub_zero, Int.toNat_natCast]
  refine List.map_congr_left fun i _ => ?_
  rw [Int.zero_add]
theorem all_true' (hs : List Int) : ((List.range hs.length).map fun _ => true).all id = true := by simp
theorem law_run {G : Fs} {ce pe dr st wk sp rt : Nat} (hce : PCell G ce) (hpe : PPen G pe) (hst : PStandDraw G st) (hwk : PWalk G wk) (hsp : PStepped G sp) (hrt : PRight G rt) (ns : List Int) : ∃ ps, runF G (lawFn ce pe dr st wk sp rt) [.scr ns] = some (.fz (.bool true), ps) := by
  let inner : List S := [S.asg (Tg.n 4) (E.call st [E.var 2, cI 5, cI 5]), S.iff (E.bi Bi.all [(E.call rt [E.tup [E.var 5, (E.var 4).idx (cI 1)]]).comp (Tg.n 5) (It.rg1 (E.bi Bi.len [(E.var 4).idx (cI 1)])) none [5] false]).not [S.ret (E.con (.bool false))] [], S.for (Tg.n 6) (It.li ((E.call wk [E.var 2, E.var 4, cI 40]).idx (cI 0))) [S.asg (Tg.n 4) (E.call sp [E.var 4, E.var 6])], S.iff (E.call rt [E.var 4]).not [S.ret (E.con (.bool false))] []]
  have z2 : okSz 2 = true := by decide
  have innerTurn : ∀ (d : D) (y : Vl) (o1 o3 o4 o5 o6 : Option Vl), IsPen y → ∃ (y' : Vl) (o3' o4' o5' o6' : Option Vl), turnF G [] (Tg.n 3) inner d [some (.scr ns), o1, some y, o3, o4, o5, o6] = some (.nx, [some (.scr ns), o1, some y', o3', o4', o5', o6']) ∧ IsPen y' := by
    intro d y o1 o3 o4 o5 o6 hy
    obtain ⟨p, hs, y1, e1, h, hh, hl, hy1⟩ := hst y 5 5 hy (by decide) (by decide) (by decide) (by decide)
    obtain ⟨ws, y2, e2, hw, hwl, hy2⟩ := hwk y1 p hs 40 hy1 h (by decide) (by decide)
    obtain ⟨a, b, c, rfl, -, -⟩ := id hy
    obtain ⟨a1, b1, c1, rfl, -, -⟩ := id hy1
    obtain ⟨a2, b2, c2, rfl, -, -⟩ := id hy2
    have hi : Hi hs 5 := hh
    have ec : ev G ((E.call rt [E.tup [E.var 5, (E.var 4).idx (cI 1)]]).comp (Tg.n 5) (It.rg1 (E.bi Bi.len [(E.var 4).idx (cI 1)])) none [5] false) [some (.scr ns), o1, some (.ol [.int a1, .int b1, .int c1]), some (.fz d), some (.fz (sD p hs)), o5, o6] = some (.st (.ol ((List.range hs.length).map fun _ => .bool true)), [some (.scr ns), o1, some (.ol [.int a1, .int b1, .int c1]), some (.fz d), some (.fz (sD p hs)), o5, o6]) := by
      have hlen : (List.range hs.length).length ≤ 16777216 := by rw [List.length_range]; have := h.1.2.1; omega
      refine ev_comp_map (List.range hs.length) (fun (i : Nat) => .int (i : Int)) (fun _ => .bool true) ?_ (fun i hi' => ?_) hlen
      · have sm := small_ok (n := (hs.length : Int)) (by omega) (by have := h.1.2.1; omega)
        have e9 := rangeD_nat hs.length
        rw [← e9]
        exact its_rg1_of (by simp [sD, tI']) sm
      · rw [List.mem_range] at hi'
        have hq : IsSt (i : Int) hs := ⟨h.1, by omega, by omega⟩
        have e3 := hrt (i : Int) hs hq (fun x hx => by have := hi x hx; omega)
        simp only [sD, tI'] at *
        simp [turn0, wipeF, wipeP, z2, e3]
    have eb := bools_map (fun _ : Nat => true) (List.range hs.length)
    have ea := all_true' hs
    let I3 : Nat → Fm → Prop := fun k fr => ∃ (q : Int) (hs' : List Int) (x6 : Option Vl), fr = [some (.scr ns), o1, some (.ol [.int a2, .int b2, .int c2]), some (.fz d), some (.fz (sD q hs')), o5, x6] ∧ IsSt q hs' ∧ IsWalk q hs' (ws.drop k) ∧ Hi hs' (5 + k)
    have loop : ∃ g', forN (turnF G [] (Tg.n 6) [S.asg (Tg.n 4) (E.call sp [E.var 4, E.var 6])]) (ws.map .int) [some (.scr ns), o1, some (.ol [.int a2, .int b2, .int c2]), some (.fz d), some (.fz (sD p hs)), o5, o6] = some (.nx, g') ∧ I3 (0 + (ws.map PyData.int).length) g' := by
      refine forN_ix I3 ⟨p, hs, o6, rfl, h, hw, hi⟩ ?_
      rintro i d' g hd ⟨q, hs', x6, rfl, hq, hwq, hiq⟩
      rw [Nat.zero_add] at hwq
      rw [List.getElem?_map] at hd
      obtain ⟨s, hs1, rfl⟩ := Option.map_eq_some_iff.mp hd
      have hil := (List.getElem?_eq_some_iff.mp hs1).1
      have hdrop : ws.drop i = s :: ws.drop (i + 1) := by
        rw [List.drop_eq_getElem_cons hil]
        rw [List.getElem?_eq_getElem hil] at hs1
        rw [Option.some.inj hs1]
      rw [hdrop] at hwq
      obtain ⟨w1, w2, w3⟩ := hwq
      have e4 := hsp q hs' s hq w1 w2
      refine ⟨_, ?_, ⟨q + s, raiseH hs' q, some (.fz (.int s)), rfl, hq.step w2, by rw [Nat.zero_add]; exact w3, fun x hx => ?_⟩⟩
      · simp only [sD, tI'] at *
        simp [turnF, e4]
      · have := (hiq.raise hq.2.1 hq.2.2) x hx
        push_cast at *
        omega
    obtain ⟨g', el, q, hs', x6, rfl, hq, -, hiq⟩ := loop
    have e5 := hrt q hs' hq (fun x hx => by
      have := hiq x hx
      rw [Nat.zero_add, List.length_map] at this
      omega)
    refine ⟨.ol [.int a2, .int b2, .int c2], some (.fz d), some (.fz (sD q hs')), o5, x6, ?_, hy2⟩
    simp only [sD, tI'] at *
    simp [turnF, inner, e1, ec, eb, e2, el, e5]
  let J : Fm → Prop := fun fr => ∃ (y : Vl) (o1 o3 o4 o5 o6 : Option Vl), fr = [some (.scr ns), o1, some y, o3, o4, o5, o6] ∧ IsPen y
  let I : Fm → Prop := fun fr => ∃ (o1 o2 o3 o4 o5 o6 : Option Vl), fr = [some (.scr ns), o1, o2, o3, o4, o5, o6]
  let n : Int := if (if 4 < (ns.length : Int) then 4 else (ns.length : Int)) > 1 then (if 4 < (ns.length : Int) then 4 else (ns.length : Int)) else 1
  have loop : ∃ g', forN (turnF G [] (Tg.n 1) [S.asg (Tg.n 2) (E.call pe [E.call ce [E.var 0, E.var 1]]), S.for (Tg.n 3) (It.rg1 (cI 6)) inner]) (rangeD 0 n) [some (.scr ns), none, none, none, none, none, none] = some (.nx, g') ∧ I g' := by
    refine forN_inv I ⟨_, _, _, _, _, _, rfl⟩ ?_
    rintro d g ⟨o1, o2, o3, o4, o5, o6, rfl⟩ hd
    obtain ⟨i, rfl, i0, -⟩ := mem_range hd
    obtain ⟨v, e1⟩ := hce ns i i0
    obtain ⟨y, e2, hy⟩ := hpe v
    have lp : ∃ g', forN (turnF G [] (Tg.n 3) inner) (rangeD 0 6) [some (.scr ns), some (.fz (.int i)), some y, o3, o4, o5, o6] = some (.nx, g') ∧ J g' := by
      refine forN_inv J ⟨_, _, _, _, _, _, rfl, hy⟩ ?_
      rintro d g ⟨y, o1, o3, o4, o5, o6, rfl, hy⟩ -
      obtain ⟨y', a3, a4, a5, a6, et, hy'⟩ := innerTurn d y o1 o3 o4 o5 o6 hy
      exact ⟨_, et, ⟨_, _, _, _, _, _, rfl, hy'⟩⟩
    obtain ⟨g', el, y', b1, b3, b4, b5, b6, rfl, -⟩ := lp
    obtain ⟨a, b, c, rfl, -, -⟩ := id hy
    have sm : smallI 6 = true := by decide
    refine ⟨_, ?_, ⟨b1, some y', b3, b4, b5, b6, rfl⟩⟩
    simp [turnF, e1, e2, sm, el]
  obtain ⟨g', el, o1, o2, o3, o4, o5, o6, rfl⟩ := loop
  have sm : smallI n = true := small_ok (by simp only [n]; split <;> (try split) <;> omega) (by simp only [n]; split <;> (try split) <;> omega)
  refine ⟨[.scr ns], ?_⟩
  have en : (if (if 4 < (ns.length : Int) then 4 else (ns.length : Int)) > 1 then (if 4 < (ns.length : Int) then 4 else (ns.length : Int)) else 1) = n := rfl
  clear_value n
  have en' : (if 1 < (if 4 < (ns.length : Int) then 4 else (ns.length : Int)) then (if 4 < (ns.length : Int) then 4 else (ns.length : Int)) else 1) = n := en
  simp [runF, lawFn, en', sm, el, inner]
end Tr

set_option Elab.async false
set_option linter.all false
set_option maxRecDepth 100000
set_option maxHeartbeats 4000000
/-! k28: stands ahead. -/
namespace Tr
open PySem
def backFn (il : Nat) : Fn := ⟨2, 6, [S.asg (Tg.t [Tg.n 2, Tg.n 3]) (E.var 0), S.asg (Tg.n 4) (E.bin Bop.sub (E.var 2) (E.var 1)), S.iff ((E.chn Cop.le Cop.lt (cI 0) (E.var 4) (E.bi Bi.len [E.var 3])).not.or (E.cmp Cop.eq ((E.var 3).idx (E.var 4)) (cI 0))) [S.ret (E.con .none)] [], S.asg (Tg.n 5) (E.tup [E.var 4, E.bin Bop.add (E.bin Bop.add ((E.var 3).slc none (some (E.var 4)) false) (E.tup [E.bin Bop.sub ((E.var 3).idx (E.var 4)) (cI 1)])) ((E.var 3).slc (some (E.bin Bop.add (E.var 4) (cI 1))) none false)]), S.ret ((E.call il [E.var 5, E.var 1]).ite (E.var 5) (E.con .none))]⟩
/-- one lower at a place -/
def lowH (hs : List Int) (q : Int) : List Int := hs.set q.toNat (at' hs q - 1)
/-- the stand behind which step s leads to (p, hs), if any -/
def backB (p : Int) (hs : List Int) (s : Int) : Bool := decide (0 ≤ p - s) && decide (p - s < hs.length) && decide (1 ≤ at' hs (p - s)) && letB (p - s) (lowH hs (p - s)) s
def backD (p : Int) (hs : List Int) (s : Int) : D := if backB p hs s then sD (p - s) (lowH hs (p - s)) else .none
theorem at_mem {hs : List Int} {q : Int} (h0 : 0 ≤ q) (h1 : q < hs.length) : at' hs q ∈ hs := by
  have : q.toNat < hs.length := by omega
  unfold at'
  rw [List.getD_eq_getElem?_getD, List.getElem?_eq_getElem this]
  exact List.getElem_mem _
theorem low_st {p q : Int} {hs : List Int} (h : IsSt p hs) (h0 : 0 ≤ q) (h1 : q < hs.length) (h2 : 1 ≤ at' hs q) : IsSt q (lowH hs q) := by
  obtain ⟨⟨a1, a2, a3⟩, a4, a5⟩ := h
  have hl : (lowH hs q).length = hs.length := by unfold lowH; rw [List.length_set]
  refine ⟨⟨by omega, by omega, fun x hx => ?_⟩, h0, by omega⟩
  unfold lowH at hx
  rcases List.mem_or_eq_of_mem_set hx with hx | rfl
  · exact a3 x hx
  · omega
theorem low_eq {hs : List Int} {p : Int} (h0 : 0 ≤ p) (h1 : p < hs.length) : (hs.map PyData.int).take p.toNat ++ (.int (at' hs p - 1) :: (hs.map PyData.int).drop (p.toNat + 1)) = (lowH hs p).map .int := by
  unfold lowH
  have : p.toNat < hs.length := by omega
  rw [List.set_eq_take_append_cons_drop, if_pos this]
  simp
def PBack (G : Fs) (f : Nat) : Prop := ∀ p hs s, IsSt p hs → G f [.fz (sD p hs), .fz (.int s)] = some (.fz (backD p hs s), [.fz (sD p hs), .fz (.int s)])
theorem back_run {G : Fs} {il : Nat} (hl : PLet G il) {p : Int} {hs : List Int} {s : Int} (h : IsSt p hs) : runF G (backFn il) [.fz (sD p hs), .fz (.int s)] = some (.fz (backD p hs s), [.fz (sD p hs), .fz (.int s)]) := by
  obtain ⟨⟨h1, h2, h3⟩, h4, h5⟩ := id h
  by_cases c0 : 0 ≤ p - s
  · have c0' : s ≤ p := by omega
    by_cases c1 : p - s < hs.length
    · have e1 := idx_tup c0 c1
      by_cases c2 : at' hs (p - s) = 0
      · have hb : backD p hs s = .none := by
          unfold backD backB
          rw [c2]
          simp
        rw [hb]
        simp only [sD, tI']
        simp [runF, backFn, c0, c0', c1, e1, c2]
      · have hn : 1 ≤ at' hs (p - s) := by
          have := h3 _ (at_mem c0 c1)
          omega
        have e2 := cut_take c0 c1
        have e3 := cut_drop c0 c1
        have e4 := low_eq c0 c1
        have e5 := hl (p - s) (lowH hs (p - s)) s (low_st h c0 c1 hn)
        have z1 : okSz (min (p - s).toNat hs.length + 1) = true := okSz_ok (by omega)
        have z4 : okSz (min (p - s).toNat hs.length + 1 + (hs.length - ((p - s).toNat + 1))) = true := okSz_ok (by omega)
        have z3 : okSz 1 = true := by decide
        have z2 : okSz 2 = true := by decide
        have hb : backD p hs s = if letB (p - s) (lowH hs (p - s)) s then sD (p - s) (lowH hs (p - s)) else .none := by
          unfold backD backB
          simp [c0, c0', c1, hn]
        rw [hb]
        simp only [sD, tI'] at *
        cases hc : letB (p - s) (lowH hs (p - s)) s <;> simp [runF, backFn, c0, c0', c1, e1, c2, e2, e3, e4, e5, z1, z2, z3, z4, hc]
    · have hb : backD p hs s = .none := by unfold backD backB; simp [c1]
      rw [hb]
      simp only [sD, tI']
      simp [runF, backFn, c0, c0', c1]
  · have c0' : ¬ s ≤ p := by omega
    have hb : backD p hs s = .none := by unfold backD backB; simp [c0, c0']
    rw [hb]
    simp only [sD, tI']
    simp [runF, backFn, c0, c0']
end Tr

set_option Elab.async false
set_option linter.all false
set_option maxRecDepth 100000
set_option maxHeartbeats 4000000
/-! k28: the stands ahead, in order. -/
namespace Tr
open PySem
def Bk (p : Int) (hs : List Int) (s : Int) : List D := if backB p hs s then [sD (p - s) (lowH hs (p - s))] else []
def aheadL (p : Int) (hs : List Int) : List D := Bk p hs 1 ++ Bk p hs (-1)
theorem alike_st (p q : Int) (hs hs' : List Int) : PySem.W.alike (sD p hs) (sD q hs') = true := by
  simp [sD, tI', PySem.W.alike, PySem.W.alikeAll, PySem.W.alike_ints]
theorem lt_st {p q : Int} (hs hs' : List Int) (h : p < q) : PySem.W.dataLt (sD p hs) (sD q hs') = true := by
  have n : p ≠ q := by omega
  simp only [sD]
  rw [PySem.W.dataLt_pair (by simp [PySem.W.alike]) (by simp [tI', PySem.W.alike, PySem.W.alike_ints]), PySem.W.dataLt_int]
  simp [PyData.eqv, n, h]
theorem lt_st' {p q : Int} (hs hs' : List Int) (h : p < q) : PySem.W.dataLt (sD q hs') (sD p hs) = false := by
  have n : q ≠ p := by omega
  have g : ¬ q < p := by omega
  simp only [sD]
  rw [PySem.W.dataLt_pair (by simp [PySem.W.alike]) (by simp [tI', PySem.W.alike, PySem.W.alike_ints]), PySem.W.dataLt_int]
  simp [PyData.eqv, n, g]
theorem sort_up {p q : Int} (hs hs' : List Int) (h : p < q) : sortD [sD p hs, sD q hs'] = [sD p hs, sD q hs'] := by
  have a : PySem.W.dataLe false id (sD p hs) (sD q hs') = true := by
    show (!PySem.W.dataLt (sD q hs') (sD p hs)) = true
    rw [lt_st' hs hs' h]; rfl
  unfold sortD
  simp [List.mergeSort, List.merge, List.MergeSort.Internal.splitInTwo, a]
theorem sort_down {p q : Int} (hs hs' : List Int) (h : p < q) : sortD [sD q hs', sD p hs] = [sD p hs, sD q hs'] := by
  have a : PySem.W.dataLe false id (sD q hs') (sD p hs) = false := by
    show (!PySem.W.dataLt (sD p hs) (sD q hs')) = false
    rw [lt_st hs hs' h]; rfl
  unfold sortD
  simp [List.mergeSort, List.merge, List.MergeSort.Internal.splitInTwo, a]
theorem depth_st (p : Int) (hs : List Int) : (sD p hs).depth ≤ 64 := by
  simp only [sD, tI', PyData.depth, PyData.depthAll, depthL_ints]
  decide
theorem okSort_st : ∀ xs : List D, (∀ x ∈ xs, ∃ p hs, x = sD p hs) → xs.length ≤ 2 → okSort xs = true := by
  intro xs h hl
  unfold okSort
  rw [Bool.and_eq_true, Bool.and_eq_true, Bool.and_eq_true]
  refine ⟨⟨⟨?_, ?_⟩, okSz_ok (by omega)⟩, ?_⟩
  · unfold allAlikeB
    rw [List.all_eq_true]
    intro x hx
    rw [List.all_eq_true]
    intro y hy
    obtain ⟨p, hs, rfl⟩ := h x hx
    obtain ⟨q, hs', rfl⟩ := h y hy
    exact alike_st p q hs hs'
  · rw [Bool.or_eq_true]
    left
    rw [List.all_eq_true]
    intro x hx
    obtain ⟨p, hs, rfl⟩ := h x hx
    rfl
  · rw [List.all_eq_true]
    intro x hx
    obtain ⟨p, hs, rfl⟩ := h x hx
    exact decide_eq_true (depth_st p hs)
theorem Bk_is {p : Int} {hs : List Int} {s : Int} : ∀ x ∈ Bk p hs s, ∃ p hs, x = sD p hs := by
  intro x hx
  unfold Bk at hx
  split at hx
  · rw [List.mem_singleton] at hx; exact ⟨_, _, hx⟩
  · exact absurd hx (List.not_mem_nil)
theorem Bk_len {p : Int} {hs : List Int} {s : Int} : (Bk p hs s).length ≤ 1 := by unfold Bk; split <;> simp
theorem sorted_up (p : Int) (hs : List Int) : biD .sorted [.list (aheadL p hs)] = some (.ol (aheadL p hs)) := by
  have ok : okSort (aheadL p hs) = true := okSort_st _ (fun x hx => by
    rcases List.mem_append.mp hx with h | h <;> exact Bk_is x h) (by
    unfold aheadL
    have a := @Bk_len p hs 1
    have b := @Bk_len p hs (-1)
    rw [List.length_append]; omega)
  have es : sortD (aheadL p hs) = aheadL p hs := by
    unfold aheadL Bk
    split <;> split
    · exact sort_up _ _ (by omega)
    all_goals simp [sortD]
  show (if okSort (aheadL p hs) = true then some (Vl.ol (sortD (aheadL p hs))) else none) = _
  rw [if_pos ok, es]
theorem sorted_down (p : Int) (hs : List Int) : biD .sorted [.list (Bk p hs (-1) ++ Bk p hs 1)] = some (.ol (aheadL p hs)) := by
  have ok : okSort (Bk p hs (-1) ++ Bk p hs 1) = true := okSort_st _ (fun x hx => by
    rcases List.mem_append.mp hx with h | h <;> exact Bk_is x h) (by
    have a := @Bk_len p hs 1
    have b := @Bk_len p hs (-1)
    rw [List.length_append]; omega)
  have es : sortD (Bk p hs (-1) ++ Bk p hs 1) = aheadL p hs := by
    unfold aheadL Bk
    split <;> split
    · exact sort_down _ _ (by omega)
    all_goals simp [sortD]
  show (if okSort (Bk p hs (-1) ++ Bk p hs 1) = true then some (Vl.ol (sortD (Bk p hs (-1) ++ Bk p hs 1))) else none) = _
  rw [if_pos ok, es]
def aheadOfFn (bb : Nat) : Fn := ⟨1, 4, [S.asg (Tg.n 1) ((E.call bb [E.var 0, E.var 2]).comp (Tg.n 2) (It.li (E.glb sTup)) none [2] false), S.ret ((E.var 3).comp (Tg.n 3) (It.li (E.var 1)) (some ((E.var 3).isc PyData.none true)) [3] false)]⟩
def PAheadOf (G : Fs) (f : Nat) : Prop := ∀ p hs, IsSt p hs → G f [.fz (sD p hs)] = some (.ol (Bk p hs (-1) ++ Bk p hs 1), [.fz (sD p hs)])
theorem aheadOf_run {G : Fs} {bb : Nat} (hb : PBack G bb) {p : Int} {hs : List Int} (h : IsSt p hs) : runF G (aheadOfFn bb) [.fz (sD p hs)] = some (.ol (Bk p hs (-1) ++ Bk p hs 1), [.fz (sD p hs)]) := by
  have e1 : ev G ((E.call bb [E.var 0, E.var 2]).comp (Tg.n 2) (It.li (E.glb sTup)) none [2] false) [some (.fz (sD p hs)), none, none, none] = some (.st (.ol (([-1, 1] : List Int).map (backD p hs))), [some (.fz (sD p hs)), none, none, none]) := by
    refine ev_comp_map ([-1, 1] : List Int) .int (backD p hs) (by simp [sTup]) (fun n _ => ?_) (by decide)
    have e := hb p hs n h
    simp only [sD, tI'] at *
    simp [turn0, wipeF, wipeP, e]
  have e2 : ev G ((E.var 3).comp (Tg.n 3) (It.li (E.var 1)) (some ((E.var 3).isc PyData.none true)) [3] false) [some (.fz (sD p hs)), some (.ol (([-1, 1] : List Int).map (backD p hs))), none, none] = some (.st (.ol ((([-1, 1] : List Int).filter (backB p hs)).map (backD p hs))), [some (.fz (sD p hs)), some (.fz (.list (([-1, 1] : List Int).map (backD p hs)))), none, none]) := by
    refine ev_comp_filter ([-1, 1] : List Int) (backD p hs) (backD p hs) (backB p hs) (by simp) (fun n _ => ?_) (by decide)
    cases hc : backB p hs n
    · have : backD p hs n = .none := by unfold backD; rw [hc]; rfl
      rw [this]
      simp [turn0, wipeF, wipeP]
    · have : backD p hs n = sD (p - n) (lowH hs (p - n)) := by unfold backD; rw [hc]; rfl
      rw [this]
      simp only [sD, tI'] at *
      simp [turn0, wipeF, wipeP]
  have e3 : (([-1, 1] : List Int).filter (backB p hs)).map (backD p hs) = Bk p hs (-1) ++ Bk p hs 1 := by
    unfold Bk
    cases ha : backB p hs (-1) <;> cases hc : backB p hs 1 <;> simp [backD, ha, hc]
  rw [e3] at e2
  simp only [sD, tI'] at *
  simp [runF, aheadOfFn] at e1 e2 ⊢
  simp [e1, e2]
def aheadFn (ns ao : Nat) : Fn := ⟨1, 1, [S.exp (E.call ns [E.var 0]), S.ret (E.bi Bi.tuple [E.bi Bi.sorted [E.call ao [E.var 0]]])]⟩
def PAhead (G : Fs) (f : Nat) : Prop := ∀ p hs, IsSt p hs → G f [.fz (sD p hs)] = some (.fz (.tuple (aheadL p hs)), [.fz (sD p hs)])
theorem ahead_run {G : Fs} {ns ao : Nat} (hn : PNeed G ns) (ha : PAheadOf G ao) {p : Int} {hs : List Int} (h : IsSt p hs) : runF G (aheadFn ns ao) [.fz (sD p hs)] = some (.fz (.tuple (aheadL p hs)), [.fz (sD p hs)]) := by
  have e1 := hn p hs h
  have e2 := ha p hs h
  have e3 := sorted_down p hs
  simp only [sD, tI'] at *
  simp only [runF, aheadFn]
  simp [e1, e2, e3]
end Tr

set_option Elab.async false
set_option linter.all false
set_option maxRecDepth 100000
set_option maxHeartbeats 4000000
/-! k28: the law's own search. -/
namespace Tr
open PySem
theorem low_zip {p : Int} : ∀ (hs : List Int) (k : Nat), (k : Int) ≤ p → p < k + hs.length → (hs.zipIdx k).map (fun x => x.1 - if ((x.2 : Nat) : Int) = p then 1 else 0) = hs.set (p - k).toNat (hs.getD (p - k).toNat 0 - 1)
  | [], k, h1, h2 => by simp at h2; omega
  | h :: hs, k, h1, h2 => by
    rw [List.zipIdx_cons, List.map_cons]
    by_cases e : (k : Int) = p
    · have : (p - k).toNat = 0 := by omega
      rw [this, List.set_cons_zero]
      simp only [e, if_true, List.getD_cons_zero]
      congr 1
      have tail : ∀ (l : List Int) (j : Nat), p < j → (l.zipIdx j).map (fun x => x.1 - if ((x.2 : Nat) : Int) = p then 1 else 0) = l := by
        intro l
        induction l with
        | nil => intro j _; rfl
        | cons a l ih =>
          intro j hj
          rw [List.zipIdx_cons, List.map_cons, ih (j + 1) (by omega)]
          have : ¬ ((j : Nat) : Int) = p := by omega
          simp [this]
      exact tail hs (k + 1) (by omega)
    · have h2' : p < ((k + 1 : Nat) : Int) + hs.length := by simp only [List.length_cons] at h2; omega
      rw [low_zip hs (k + 1) (by omega) h2']
      have : (p - (k : Int)).toNat = (p - ((k + 1 : Nat) : Int)).toNat + 1 := by omega
      rw [this, List.set_cons_succ, List.getD_cons_succ, if_neg e]
      simp
theorem foldl_min : ∀ (ns : List Int) (n : Int), 0 ≤ ns.foldl min n ↔ 0 ≤ n ∧ ∀ x ∈ ns, 0 ≤ x
  | [], n => by simp
  | x :: ns, n => by
    rw [List.foldl_cons, foldl_min ns (min n x)]
    simp only [List.mem_cons, forall_eq_or_imp]
    constructor
    · rintro ⟨a, b⟩; exact ⟨by omega, by omega, b⟩
    · rintro ⟨a, b, c⟩; exact ⟨by omega, c⟩
theorem okMin_ints (ns : List Int) : okMin (ns.map .int) = true := by
  unfold okMin
  rw [Bool.and_eq_true, Bool.and_eq_true]
  refine ⟨⟨?_, ?_⟩, ?_⟩
  · unfold allAlikeB
    rw [List.all_eq_true]
    intro x hx
    rw [List.all_eq_true]
    intro y hy
    obtain ⟨a, -, rfl⟩ := List.mem_map.mp hx
    obtain ⟨b, -, rfl⟩ := List.mem_map.mp hy
    simp [PySem.W.alike]
  · rw [List.all_eq_true]
    intro x hx
    obtain ⟨a, -, rfl⟩ := List.mem_map.mp hx
    rfl
  · rw [depthL_ints]; decide
theorem min_ints (n : Int) (ns : List Int) : biD .min [.tuple ((n :: ns).map .int)] = some (.fz (.int (ns.foldl min n))) := by
  have ok := okMin_ints (n :: ns)
  show (if okMin ((n :: ns).map .int) = true then some (Vl.fz (PySem.W.minD (.int n) (ns.map .int))) else none) = _
  rw [if_pos ok, PySem.W.minD_ints]
theorem min_low {hs : List Int} {q : Int} (h : IsHs hs) (h0 : 0 ≤ q) (h1 : q < hs.length) : ∃ m, biD .min [.tuple ((lowH hs q).map .int)] = some (.fz (.int m)) ∧ (0 ≤ m ↔ 1 ≤ at' hs q) := by
  obtain ⟨a1, a2, a3⟩ := h
  have key : (∀ x ∈ lowH hs q, 0 ≤ x) ↔ 1 ≤ at' hs q := by
    constructor
    · intro hx
      have : at' hs q - 1 ∈ lowH hs q := by
        unfold lowH
        exact List.mem_set (by omega) _
      have := hx _ this
      omega
    · intro hq x hx
      unfold lowH at hx
      rcases List.mem_or_eq_of_mem_set hx with hx | rfl
      · exact a3 x hx
      · omega
  cases hl : lowH hs q with
  | nil =>
    have : (lowH hs q).length = hs.length := by unfold lowH; rw [List.length_set]
    rw [hl] at this
    simp at this
    omega
  | cons n ns =>
    refine ⟨_, min_ints n ns, ?_⟩
    rw [foldl_min, ← key, hl]
    simp
theorem raise_low {hs : List Int} {q : Int} (h0 : 0 ≤ q) (h1 : q < hs.length) : raiseH (lowH hs q) q = hs := by
  have : q.toNat < hs.length := by omega
  unfold raiseH lowH at'
  rw [List.set_set]
  have e : (hs.set q.toNat (hs.getD q.toNat 0 - 1)).getD q.toNat 0 = hs.getD q.toNat 0 - 1 := by
    rw [List.getD_eq_getElem?_getD, List.getElem?_set_self this]; rfl
  rw [e, show hs.getD q.toNat 0 - 1 + 1 = hs.getD q.toNat 0 by omega, List.getD_eq_getElem?_getD, List.getElem?_eq_getElem this]
  exact List.set_getElem_self this
theorem lay_ints : ∀ ns : List Int, PyData.canLayAll0 (ns.map .int) = true
  | [] => rfl
  | n :: ns => by
    rw [List.map_cons]
    show (true && PyData.canLayAll0 (ns.map .int)) = true
    rw [lay_ints ns]; rfl
theorem shaped_st (p : Int) (hs : List Int) : SeqAt.shaped (sD p hs) = true := by
  unfold SeqAt.shaped
  rw [Bool.and_eq_true]
  refine ⟨?_, decide_eq_true (depth_st p hs)⟩
  show (true && (PyData.canLayAll0 (hs.map .int) && true)) = true
  rw [lay_ints]; rfl
theorem eqv_ints : ∀ ns : List Int, PyData.eqvAll (ns.map .int) (ns.map .int) = true
  | [] => by simp [PyData.eqvAll]
  | n :: ns => by
    rw [List.map_cons, PyData.eqvAll, eqv_ints ns]
    simp [PyData.eqv]
theorem eq_st (q p : Int) (hs : List Int) : cmpD .eq (sD q hs) (sD p hs) = some (decide (q = p)) := by
  have h1 := shaped_st q hs
  have h2 := shaped_st p hs
  show (if okEq (sD q hs) (sD p hs) = true then some (PyData.eqv (sD q hs) (sD p hs)) else none) = _
  rw [if_pos (by unfold okEq; rw [h1, h2]; rfl)]
  have e := eqv_ints hs
  simp only [sD, tI', PyData.eqv, PyData.eqvAll, e]
  congr 1
  by_cases c : q = p <;> simp [c]
theorem low_is {hs : List Int} (p s q : Int) (h0 : 0 ≤ q) (h1 : q < hs.length) : (if q = p - s then Bk p hs s else []) = if decide (1 ≤ at' hs q) && (letB q (lowH hs q) s && decide (q + s = p)) then [sD q (lowH hs q)] else [] := by
  by_cases c : q = p - s
  · subst c
    have e : p - s + s = p := by omega
    unfold Bk backB
    rw [if_pos rfl, e]
    simp only [h0, h1, decide_true, Bool.true_and, Bool.and_true]
  · have e : ¬ q + s = p := by omega
    rw [if_neg c]
    simp [e]
def findIn (ll sp : Nat) : List S := [S.asg (Tg.n 6) (E.tup [E.var 3, E.var 4]), S.iff ((E.cmp Cop.ge (E.bi Bi.min [E.var 4]) (cI 0)).and ((E.call ll [E.var 6, E.var 7]).and (E.cmp Cop.eq (E.call sp [E.var 6, E.var 7]) (E.var 0)))) [S.app 1 (E.var 6)] []]
def findOut (ll sp : Nat) : List S := [S.asg (Tg.n 4) (E.bi Bi.tuple [(E.bin Bop.sub (E.var 6) (E.bi Bi.int [E.cmp Cop.eq (E.var 5) (E.var 3)])).comp (Tg.t [Tg.n 5, Tg.n 6]) (It.en (E.var 2)) none [5, 6] false]), S.for (Tg.n 7) (It.li (E.tup [nI 1, cI 1])) (findIn ll sp)]
def lawAheadFn (ll sp : Nat) : Fn := ⟨1, 8, [S.par [1, 2] [E.lst [], (E.var 0).idx (cI 1)], S.for (Tg.n 3) (It.rg1 (E.bi Bi.len [E.var 2])) (findOut ll sp), S.ret (E.bi Bi.tuple [E.bi Bi.sorted [E.var 1]])]⟩
theorem findIn_turn {G : Fs} {ll sp : Nat} (hl : PLet G ll) (hsp : PStepBy G sp) {p : Int} {hs : List Int} (h : IsSt p hs) {q : Int} (h0 : 0 ≤ q) (h1 : q < hs.length) (s : Int) (acc : List D) (o5 o6 o7 : Option Vl) (hacc : acc.length < 1000) :
    turnF G [] (Tg.n 7) (findIn ll sp) (.int s) [some (.fz (sD p hs)), some (.ol acc), some (.fz (tI' hs)), some (.fz (.int q)), some (.fz (tI' (lowH hs q))), o5, o6, o7] = some (.nx, [some (.fz (sD p hs)), some (.ol (acc ++ if q = p - s then Bk p hs s else [])), some (.fz (tI' hs)), some (.fz (.int q)), some (.fz (tI' (lowH hs q))), o5, some (.fz (sD q (lowH hs q))), some (.fz (.int s))]) := by
  rw [low_is p s q h0 h1]
  obtain ⟨m, em, im⟩ := min_low h.1 h0 h1
  have z2 : okSz 2 = true := by decide
  have zx : acc.length < 16777216 := by omega
  by_cases c : 1 ≤ at' hs q
  · have hm : 0 ≤ m := im.mpr c
    have hq : IsSt q (lowH hs q) := low_st (p := q) ⟨h.1, h0, h1⟩ h0 h1 c
    have e1 := hl q (lowH hs q) s hq
    have e2 := hsp q (lowH hs q) s hq
    rw [raise_low h0 h1] at e2
    have e3 := eq_st (q + s) p hs
    have e3p := eq_st p p hs
    by_cases c2 : q + s = p
    · cases hb : letB q (lowH hs q) s <;> rw [hb] at e1 <;> simp only [sD, tI'] at * <;> simp [turnF, findIn, em, hm, c, e1, e2, e3, e3p, c2, z2, zx]
    · cases hb : letB q (lowH hs q) s <;> rw [hb] at e1 <;> simp only [sD, tI'] at * <;> simp [turnF, findIn, em, hm, c, e1, e2, e3, e3p, c2, z2, zx]
  · have hm : ¬ 0 ≤ m := fun z => c (im.mp z)
    simp only [sD, tI'] at *
    simp [turnF, findIn, em, hm, c, z2]
def accK (p : Int) (hs : List Int) (k : Int) : List D := (if p - 1 < k then Bk p hs 1 else []) ++ if p + 1 < k then Bk p hs (-1) else []
theorem accK_len (p : Int) (hs : List Int) (k : Int) : (accK p hs k).length ≤ 2 := by
  have a := @Bk_len p hs 1
  have b := @Bk_len p hs (-1)
  unfold accK
  rw [List.length_append]
  split <;> split <;> (try simp only [List.length_nil]) <;> omega
theorem accK_step (p : Int) (hs : List Int) (k : Int) : (accK p hs k ++ if k = p - -1 then Bk p hs (-1) else []) ++ (if k = p - 1 then Bk p hs 1 else []) = accK p hs (k + 1) := by
  unfold accK
  by_cases c1 : k = p + 1
  · subst c1
    have a1 : p - 1 < p + 1 := by omega
    have a2 : ¬ p + 1 < p + 1 := by omega
    have a3 : p + 1 = p - -1 := by omega
    have a4 : ¬ p + 1 = p - 1 := by omega
    have a5 : p - 1 < p + 1 + 1 := by omega
    have a6 : p + 1 < p + 1 + 1 := by omega
    rw [if_pos a1, if_neg a2, if_pos a3, if_neg a4, if_pos a5, if_pos a6]
    simp
  · have a3 : ¬ k = p - -1 := by omega
    rw [if_neg a3]
    by_cases c2 : k = p - 1
    · subst c2
      have a1 : ¬ p - 1 < p - 1 := by omega
      have a2 : ¬ p + 1 < p - 1 := by omega
      have a5 : p - 1 < p - 1 + 1 := by omega
      have a6 : ¬ p + 1 < p - 1 + 1 := by omega
      rw [if_neg a1, if_neg a2, if_pos rfl, if_pos a5, if_neg a6]
      simp
    · rw [if_neg c2]
      have e1 : (p - 1 < k + 1) = (p - 1 < k) := propext (by omega)
      have e2 : (p + 1 < k + 1) = (p + 1 < k) := propext (by omega)
      simp only [e1, e2, List.append_nil]
theorem accK_0 (p : Int) (hs : List Int) : accK p hs 0 = [] ∨ ¬ 0 ≤ p := by
  by_cases h : 0 ≤ p
  · left
    have a2 : ¬ p + 1 < 0 := by omega
    unfold accK
    rw [if_neg a2]
    by_cases c : p - 1 < 0
    · have : ¬ 0 ≤ p - 1 := by omega
      rw [if_pos c]
      have e : backB p hs 1 = false := by unfold backB; rw [decide_eq_false this]; rfl
      unfold Bk
      rw [e]; rfl
    · rw [if_neg c]; rfl
  · exact .inr h
theorem accK_end {p : Int} {hs : List Int} (h1 : p < hs.length) : accK p hs hs.length = aheadL p hs := by
  unfold accK aheadL
  rw [if_pos (by omega)]
  by_cases c : p + 1 < hs.length
  · rw [if_pos c]
  · rw [if_neg c]
    have : ¬ p - -1 < hs.length := by omega
    have e : backB p hs (-1) = false := by unfold backB; rw [decide_eq_false this]; simp
    unfold Bk
    rw [e]; rfl
def PLawAhead (G : Fs) (f : Nat) : Prop := ∀ p hs, IsSt p hs → G f [.fz (sD p hs)] = some (.fz (.tuple (aheadL p hs)), [.fz (sD p hs)])
theorem lawAhead_run {G : Fs} {ll sp : Nat} (hl : PLet G ll) (hsp : PStepBy G sp) {p : Int} {hs : List Int} (h : IsSt p hs) : runF G (lawAheadFn ll sp) [.fz (sD p hs)] = some (.fz (.tuple (aheadL p hs)), [.fz (sD p hs)]) := by
  have z2 : okSz 2 = true := by decide
  have z0 : okSz 0 = true := by decide
  let I : Nat → Fm → Prop := fun k fr => ∃ (o3 o4 o6 o7 : Option Vl), fr = [some (.fz (sD p hs)), some (.ol (accK p hs k)), some (.fz (tI' hs)), o3, o4, none, o6, o7]
  have hk0 : accK p hs ((0 : Nat) : Int) = [] := (accK_0 p hs).resolve_right (fun z => z h.2.1)
  have loop : ∃ g', forN (turnF G [] (Tg.n 3) (findOut ll sp)) (rangeD 0 hs.length) [some (.fz (sD p hs)), some (.ol []), some (.fz (tI' hs)), none, none, none, none, none] = some (.nx, g') ∧ I (0 + (rangeD 0 (hs.length : Int)).length) g' := by
    refine forN_ix I ⟨none, none, none, none, by rw [hk0]⟩ ?_
    rintro i d g hi ⟨o3, o4, o6, o7, rfl⟩
    rw [Nat.zero_add]
    have hil := (List.getElem?_eq_some_iff.mp hi).1
    rw [rangeD_nat] at hi hil
    rw [List.length_map, List.length_range] at hil
    rw [List.getElem?_map, List.getElem?_range hil] at hi
    obtain rfl := Option.some.inj hi
    have q0 : (0 : Int) ≤ i := by omega
    have q1 : (i : Int) < hs.length := by omega
    have ec : ev G ((E.bin Bop.sub (E.var 6) (E.bi Bi.int [E.cmp Cop.eq (E.var 5) (E.var 3)])).comp (Tg.t [Tg.n 5, Tg.n 6]) (It.en (E.var 2)) none [5, 6] false) [some (.fz (sD p hs)), some (.ol (accK p hs i)), some (.fz (tI' hs)), some (.fz (.int i)), o4, none, o6, o7] = some (.st (.ol (hs.zipIdx.map fun x => .int (x.1 - if ((x.2 : Nat) : Int) = i then 1 else 0))), [some (.fz (sD p hs)), some (.ol (accK p hs i)), some (.fz (tI' hs)), some (.fz (.int i)), o4, none, o6, o7]) := by
      refine ev_comp_map hs.zipIdx (fun x => .tuple [.int (x.2 : Nat), .int x.1]) (fun x => .int (x.1 - if ((x.2 : Nat) : Int) = i then 1 else 0)) ?_ (fun x hx => ?_) (by rw [List.length_zipIdx]; have := h.1.2.1; omega)
      · simp [enum_ints, tI']
      · simp only [sD, tI'] at *
        simp [turn0, wipeF, wipeP]
    have er : (hs.zipIdx.map fun x => PyData.int (x.1 - if ((x.2 : Nat) : Int) = i then 1 else 0)) = (lowH hs i).map .int := by
      have := low_zip (p := i) hs 0 (by omega) (by omega)
      unfold lowH at'
      have e0 : ((i : Int) - ((0 : Nat) : Int)).toNat = (i : Int).toNat := by omega
      rw [e0] at this
      rw [← this, List.map_map]
      rfl
    rw [er] at ec
    have t1 := findIn_turn hl hsp h q0 q1 (-1) (accK p hs i) none o6 o7 (by have := accK_len p hs i; omega)
    have t2 := findIn_turn hl hsp h q0 q1 1 (accK p hs i ++ if (i : Int) = p - -1 then Bk p hs (-1) else []) none (some (.fz (sD i (lowH hs i)))) (some (.fz (.int (-1)))) (by
      have := accK_len p hs i
      have := @Bk_len p hs (-1)
      rw [List.length_append]
      split <;> (try simp only [List.length_nil]) <;> omega)
    rw [accK_step] at t2
    have lp : forN (turnF G [] (Tg.n 7) (findIn ll sp)) [.int (-1), .int 1] [some (.fz (sD p hs)), some (.ol (accK p hs i)), some (.fz (tI' hs)), some (.fz (.int i)), some (.fz (tI' (lowH hs i))), none, o6, o7] = some (.nx, [some (.fz (sD p hs)), some (.ol (accK p hs (i + 1))), some (.fz (tI' hs)), some (.fz (.int i)), some (.fz (tI' (lowH hs i))), none, some (.fz (sD i (lowH hs i))), some (.fz (.int 1))]) := by
      unfold forN
      rw [t1]
      show forN _ [PyData.int 1] _ = _
      unfold forN
      rw [t2]
      rfl
    refine ⟨_, ?_, ⟨some (.fz (.int i)), some (.fz (tI' (lowH hs i))), some (.fz (sD i (lowH hs i))), some (.fz (.int 1)), rfl⟩⟩
    simp only [sD, tI'] at *
    simp [turnF, findOut, ec, lp, z2]
  obtain ⟨g', el, o3, o4, o6, o7, rfl⟩ := loop
  have e9 := sorted_up p hs
  rw [Nat.zero_add, rangeD_length] at el
  simp only [Int.sub_zero, Int.toNat_natCast] at el
  rw [accK_end h.2.2] at el
  have sm := small_ok (n := (hs.length : Int)) (by omega) (by have := h.1.2.1; omega)
  have ei : its G (It.rg1 (E.bi Bi.len [E.var 2])) [some (.fz (sD p hs)), some (.ol []), some (.fz (tI' hs)), none, none, none, none, none] = some (rangeD 0 (hs.length : Int), [some (.fz (sD p hs)), some (.ol []), some (.fz (tI' hs)), none, none, none, none, none]) := its_rg1_of (by simp [sD, tI']) sm
  simp only [sD, tI'] at *
  simp [-its_rg1, runF, lawAheadFn, z0, el, e9, ei]
end Tr

set_option Elab.async false
set_option linter.all false
set_option maxRecDepth 100000
set_option maxHeartbeats 4000000
/-! k28: the law. -/
namespace Tr
open PySem
theorem tameL_app : ∀ xs ys : List D, tameL xs = true → tameL ys = true → tameL (xs ++ ys) = true
  | [], ys, _, h => h
  | x :: xs, ys, h1, h2 => by
    simp only [List.cons_append, tameL, Bool.and_eq_true] at *
    exact ⟨h1.1, tameL_app xs ys h1.2 h2⟩
theorem cntL_app : ∀ xs ys : List D, cntL (xs ++ ys) = cntL xs + cntL ys
  | [], ys => by simp [cntL]
  | x :: xs, ys => by simp only [List.cons_append, cntL, cntL_app xs ys]; omega
theorem depthL_app : ∀ xs ys : List D, PyData.depthAll (xs ++ ys) ≤ max (PyData.depthAll xs) (PyData.depthAll ys)
  | [], ys => by simp [PyData.depthAll]
  | x :: xs, ys => by
    have := depthL_app xs ys
    simp only [List.cons_append, PyData.depthAll] at *
    omega
theorem Bk_tame {p : Int} {hs : List Int} (h : IsSt p hs) (hi : Hi hs 1000000) (s : Int) : tameL (Bk p hs s) = true ∧ cntL (Bk p hs s) ≤ 1002 ∧ PyData.depthAll (Bk p hs s) ≤ 2 := by
  unfold Bk
  by_cases c : backB p hs s = true
  · rw [if_pos c]
    unfold backB at c
    simp only [Bool.and_eq_true, decide_eq_true_eq] at c
    have hq := low_st h c.1.1.1 c.1.1.2 c.1.2
    have hi' : Hi (lowH hs (p - s)) 1000000 := fun x hx => by
      unfold lowH at hx
      rcases List.mem_or_eq_of_mem_set hx with hx | rfl
      · exact hi x hx
      · have := hi _ (at_mem c.1.1.1 c.1.1.2)
        omega
    obtain ⟨t1, t2, t3⟩ := tame_st hq hi'
    refine ⟨?_, ?_, ?_⟩
    · simp only [tameL, t1]; rfl
    · simp only [cntL]; omega
    · simp only [PyData.depthAll]; omega
  · rw [if_neg c]
    exact ⟨rfl, by simp [cntL], by simp [PyData.depthAll]⟩
theorem ahead_show {p : Int} {hs : List Int} (h : IsSt p hs) (hi : Hi hs 1000000) : okShow (.list [.tuple (aheadL p hs), .tuple (aheadL p hs)]) = true := by
  obtain ⟨a1, a2, a3⟩ := Bk_tame h hi 1
  obtain ⟨b1, b2, b3⟩ := Bk_tame h hi (-1)
  have t := tameL_app _ _ a1 b1
  have c := cntL_app (Bk p hs 1) (Bk p hs (-1))
  have d := depthL_app (Bk p hs 1) (Bk p hs (-1))
  refine okShow_of ?_ ?_ ?_
  · simp only [tame, tameL, aheadL, t]; rfl
  · simp only [cnt, cntL, aheadL, c]; omega
  · simp only [PyData.depth, PyData.depthAll, aheadL]; omega
theorem walk_hi : ∀ {ws : List Int} {p : Int} {hs : List Int} {m : Int}, IsSt p hs → IsWalk p hs ws → Hi hs m → Hi (wEnd p hs ws).2 (m + ws.length)
  | [], p, hs, m, _, _, hi => fun x hx => by
    have := hi x hx
    simp only [List.length_nil]
    omega
  | s :: ws, p, hs, m, h, ⟨w1, w2, w3⟩, hi => fun x hx => by
    have := walk_hi (ws := ws) (h.step w2) w3 (hi.raise h.2.1 h.2.2) x hx
    simp only [List.length_cons]
    push_cast
    omega
def law28In (st wk la ah sm : Nat) : List S := [S.asg (Tg.n 4) ((E.call wk [E.var 2, E.call st [E.var 2, cI 5, (E.lst [cI 5, cI 2, cI 0, cI 3]).idx (E.bin Bop.mod (E.var 3) (cI 4))], (E.lst [cI 0, cI 6, cI 9, cI 4]).idx (E.bin Bop.mod (E.var 3) (cI 4))]).idx (cI 1)), S.par [5, 6] [E.bi Bi.repr [E.var 4], E.call la [E.var 4]], S.iff ((E.call sm [E.lst [E.call ah [E.var 4], E.call ah [E.var 4]], E.lst [E.var 6, E.var 6]]).not.or (E.cmp Cop.ne (E.bi Bi.repr [E.var 4]) (E.var 5))) [S.ret (E.con (.bool false))] []]
def law28Fn (ce pe st wk la ah sm : Nat) : Fn := ⟨1, 7, [S.for (Tg.n 1) (It.li (E.bin Bop.add (E.lst [E.call ce [E.var 0, cI 0]]) ((E.var 0).slc (some (cI 1)) (some (cI 4)) false))) [S.asg (Tg.n 2) (E.call pe [E.var 1]), S.for (Tg.n 3) (It.rg1 (cI 8)) (law28In st wk la ah sm)], S.ret (E.con (.bool true))]⟩
theorem idx4 (a b c d : Int) {j : Int} (h0 : 0 ≤ j) (h1 : j < 4) : ∃ r, idxD (.list [.int a, .int b, .int c, .int d]) (.int j) = some (.int r) ∧ (r = a ∨ r = b ∨ r = c ∨ r = d) := by
  have : j = 0 ∨ j = 1 ∨ j = 2 ∨ j = 3 := by omega
  rcases this with rfl | rfl | rfl | rfl
  · exact ⟨a, rfl, .inl rfl⟩
  · exact ⟨b, rfl, .inr (.inl rfl)⟩
  · exact ⟨c, rfl, .inr (.inr (.inl rfl))⟩
  · exact ⟨d, rfl, .inr (.inr (.inr rfl))⟩
theorem law28_in {G : Fs} {st wk la ah sm : Nat} (hst : PStandDraw G st) (hwk : PWalk G wk) (hla : PLawAhead G la) (hah : PAhead G ah) (hsm : PSameL G sm) (ns : List Int) (j : Int) (y : Vl) (o1 o3 o4 o5 o6 : Option Vl) (hy : IsPen y) (hj : 0 ≤ j) :
    ∃ (y' : Vl) (o3' o4' o5' o6' : Option Vl), turnF G [] (Tg.n 3) (law28In st wk la ah sm) (.int j) [some (.scr ns), o1, some y, o3, o4, o5, o6] = some (.nx, [some (.scr ns), o1, some y', o3', o4', o5', o6']) ∧ IsPen y' := by
  have m0 : 0 ≤ j % 4 := Int.emod_nonneg _ (by decide)
  have m1 : j % 4 < 4 := Int.emod_lt_of_pos _ (by decide)
  obtain ⟨hh, e1, r1⟩ := idx4 5 2 0 3 m0 m1
  obtain ⟨mm, e2, r2⟩ := idx4 0 6 9 4 m0 m1
  obtain ⟨p, hs, y1, e3, h, hi, -, hy1⟩ := hst y 5 hh hy (by decide) (by decide) (by omega) (by omega)
  obtain ⟨ws, y2, e4, hw, hwl, hy2⟩ := hwk y1 p hs mm hy1 h (by omega) (by omega)
  have hend := walk_end h hw
  have hi2 : Hi (wEnd p hs ws).2 1000000 := fun x hx => by
    have := walk_hi (m := hh) h hw hi x hx
    omega
  generalize wEnd p hs ws = q at *
  obtain ⟨q1, q2⟩ := q
  have e5 := okShow_st hend hi2
  have e6 := hla q1 q2 hend
  have e7 := hah q1 q2 hend
  have e8 := hsm _ (ahead_show hend hi2)
  obtain ⟨a, b, c, rfl, -, -⟩ := id hy
  obtain ⟨a1, b1, c1, rfl, -, -⟩ := id hy1
  obtain ⟨a2, b2, c2, rfl, -, -⟩ := id hy2
  have z2 : okSz 2 = true := by decide
  have z4 : okSz 4 = true := by decide
  have e9 : ∀ x : Str, cmpD .ne (.str x) (.str x) = some false := by
    intro x
    show some (!decide (x = x)) = _
    simp
  refine ⟨.ol [.int a2, .int b2, .int c2], some (.fz (.int j)), some (.fz (sD q1 q2)), some (.fz (.str (sD q1 q2).shown)), some (.fz (.tuple (aheadL q1 q2))), ?_, hy2⟩
  simp only [sD, tI'] at *
  simp [turnF, law28In, e1, e2, e3, e4, e5, e6, e7, e8, e9, z2, z4]
theorem law28_run {G : Fs} {ce pe st wk la ah sm : Nat} (hce : PCell G ce) (hpe : PPen G pe) (hst : PStandDraw G st) (hwk : PWalk G wk) (hla : PLawAhead G la) (hah : PAhead G ah) (hsm : PSameL G sm) (ns : List Int) : ∃ ps, runF G (law28Fn ce pe st wk la ah sm) [.scr ns] = some (.fz (.bool true), ps) := by
  let J : Fm → Prop := fun fr => ∃ (y : Vl) (o1 o3 o4 o5 o6 : Option Vl), fr = [some (.scr ns), o1, some y, o3, o4, o5, o6] ∧ IsPen y
  let I : Fm → Prop := fun fr => ∃ (o1 o2 o3 o4 o5 o6 : Option Vl), fr = [some (.scr ns), o1, o2, o3, o4, o5, o6]
  obtain ⟨v0, e0⟩ := hce ns 0 (by decide)
  have loop : ∃ g', forN (turnF G [] (Tg.n 1) [S.asg (Tg.n 2) (E.call pe [E.var 1]), S.for (Tg.n 3) (It.rg1 (cI 8)) (law28In st wk la ah sm)]) (.int v0 :: cutL (ns.map .int) (some 1) (some 4)) [some (.scr ns), none, none, none, none, none, none] = some (.nx, g') ∧ I g' := by
    refine forN_inv I ⟨_, _, _, _, _, _, rfl⟩ ?_
    rintro d g ⟨o1, o2, o3, o4, o5, o6, rfl⟩ hd
    have : ∃ n : Int, d = .int n := by
      rcases List.mem_cons.mp hd with rfl | hd
      · exact ⟨_, rfl⟩
      · unfold cutL at hd
        have := List.mem_of_mem_drop (List.mem_of_mem_take hd)
        obtain ⟨n, -, rfl⟩ := List.mem_map.mp this
        exact ⟨_, rfl⟩
    obtain ⟨n, rfl⟩ := this
    obtain ⟨y, e2, hy⟩ := hpe n
    have lp : ∃ g', forN (turnF G [] (Tg.n 3) (law28In st wk la ah sm)) (rangeD 0 8) [some (.scr ns), some (.fz (.int n)), some y, o3, o4, o5, o6] = some (.nx, g') ∧ J g' := by
      refine forN_inv J ⟨_, _, _, _, _, _, rfl, hy⟩ ?_
      rintro d g ⟨y, o1, o3, o4, o5, o6, rfl, hy⟩ hd
      obtain ⟨j, rfl, j0, -⟩ := mem_range hd
      obtain ⟨y', a3, a4, a5, a6, et, hy'⟩ := law28_in hst hwk hla hah hsm ns j y o1 o3 o4 o5 o6 hy j0
      exact ⟨_, et, ⟨_, _, _, _, _, _, rfl, hy'⟩⟩
    obtain ⟨g', el, y', b1, b3, b4, b5, b6, rfl, -⟩ := lp
    obtain ⟨a, b, c, rfl, -, -⟩ := id hy
    have sm : smallI 8 = true := by decide
    refine ⟨_, ?_, ⟨b1, some y', b3, b4, b5, b6, rfl⟩⟩
    simp [turnF, e2, sm, el]
  obtain ⟨g', el, o1, o2, o3, o4, o5, o6, rfl⟩ := loop
  have z1 : okSz 1 = true := by decide
  have zc : okSz ((cutL (ns.map PyData.int) (some 1) (some 4)).length + 1) = true := okSz_ok (by
    unfold cutL
    rw [List.length_take]
    have : HT.sIx (ns.map PyData.int).length (ns.map PyData.int).length (some 4) - HT.sIx (ns.map PyData.int).length 0 (some 1) ≤ 4 := by
      unfold HT.sIx
      simp
      omega
    omega)
  have zc' := zc
  rw [Nat.add_comm] at zc'
  refine ⟨[.scr ns], ?_⟩
  simp [runF, law28Fn, e0, z1, zc, zc', el]
end Tr

set_option Elab.async false
set_option linter.all false
set_option maxRecDepth 100000
set_option maxHeartbeats 1000000
/-! Rows done again and again: no program in sight. -/
namespace Tr
open PySem
/-- the place of the first step that bars -/
def bar (p : Int) (hs : List Int) : List Int → Option Nat
  | [] => none
  | s :: ws => if letB p hs s then (bar (p + s) (raiseH hs p) ws).map (· + 1) else some 0
def Stps (ws : List Int) : Prop := ∀ s ∈ ws, IsStp s
theorem bar_walk : ∀ {ws : List Int} {p : Int} {hs : List Int}, Stps ws → (bar p hs ws = none ↔ IsWalk p hs ws)
  | [], _, _, _ => ⟨fun _ => trivial, fun _ => rfl⟩
  | s :: ws, p, hs, h => by
    have ih := bar_walk (ws := ws) (p := p + s) (hs := raiseH hs p) fun x hx => h x (List.mem_cons_of_mem _ hx)
    unfold bar IsWalk
    cases c : letB p hs s with
    | true => simp [ih, h s List.mem_cons_self]
    | false => simp
/-- heights and so often more -/
def addN (hs : List Int) (n : Int) (ds : List Int) : List Int := List.zipWith (fun a b => a + n * b) hs ds
theorem addN_len {hs ds : List Int} (n : Int) (h : ds.length = hs.length) : (addN hs n ds).length = hs.length := by
  unfold addN; rw [List.length_zipWith]; omega
theorem addN_at {hs ds : List Int} (n : Int) (h : ds.length = hs.length) {q : Int} (h0 : 0 ≤ q) (h1 : q < hs.length) : at' (addN hs n ds) q = at' hs q + n * at' ds q := by
  unfold at' addN
  have a : q.toNat < hs.length := by omega
  have b : q.toNat < ds.length := by omega
  rw [List.getD_eq_getElem?_getD, List.getD_eq_getElem?_getD, List.getD_eq_getElem?_getD, List.getElem?_zipWith, List.getElem?_eq_getElem a, List.getElem?_eq_getElem b]
  rfl
theorem addN_zero {hs ds : List Int} (h : ds.length = hs.length) : addN hs 0 ds = hs := by
  unfold addN
  induction hs generalizing ds with
  | nil => rfl
  | cons a hs ih =>
    cases ds with
    | nil => cases h
    | cons b ds =>
      rw [List.zipWith_cons_cons, ih (by simpa using h)]
      simp
theorem addN_add : ∀ {hs ds : List Int} (m n : Int), ds.length = hs.length → addN (addN hs m ds) n ds = addN hs (m + n) ds
  | [], ds, m, n, h => by unfold addN; rfl
  | a :: hs, [], m, n, h => by cases h
  | a :: hs, b :: ds, m, n, h => by
    have ih := addN_add (hs := hs) (ds := ds) m n (by simpa using h)
    unfold addN at ih ⊢
    simp only [List.zipWith_cons_cons, ih]
    rw [Int.add_mul, Int.add_assoc]
theorem raise_addN {hs ds : List Int} (n : Int) (h : ds.length = hs.length) {p : Int} (h0 : 0 ≤ p) (h1 : p < hs.length) : raiseH (addN hs n ds) p = addN (raiseH hs p) n ds := by
  have e := addN_at n h h0 h1
  unfold raiseH
  rw [e]
  have a : p.toNat < hs.length := by omega
  have b : p.toNat < ds.length := by omega
  refine List.ext_getElem? fun i => ?_
  unfold addN
  rw [List.getElem?_set, List.getElem?_zipWith, List.getElem?_zipWith, List.getElem?_set, List.length_zipWith]
  by_cases hi : p.toNat = i
  · subst hi
    rw [if_pos rfl, if_pos (by omega), if_pos rfl, if_pos a, List.getElem?_eq_getElem b]
    have eb : at' ds p = ds[p.toNat] := by
      unfold at'
      rw [List.getD_eq_getElem?_getD, List.getElem?_eq_getElem b]
      rfl
    simp only []
    congr 1
    rw [eb]
    omega
  · rw [if_neg hi, if_neg hi]
theorem raise_len (hs : List Int) (p : Int) : (raiseH hs p).length = hs.length := by unfold raiseH; exact List.length_set
/-- what is let five times is let ever on -/
theorem let_addN {p : Int} {hs ds : List Int} {s : Int} (hl : ds.length = hs.length) (h0 : 0 ≤ p) (h1 : p < hs.length) (a : letB p hs s = true) (b : letB p (addN hs 4 ds) s = true) (n : Int) : letB p (addN hs n ds) s = true := by
  unfold letB at a b ⊢
  rw [addN_len _ hl] at b ⊢
  simp only [Bool.and_eq_true, decide_eq_true_eq] at a b ⊢
  obtain ⟨⟨⟨a1, a2⟩, a3⟩, a4⟩ := a
  obtain ⟨⟨_, b3⟩, b4⟩ := b
  rw [addN_at _ hl h0 h1, addN_at _ hl a1 a2] at b3 b4 ⊢
  have e : at' ds (p + s) = at' ds p := by omega
  rw [e]
  omega
theorem bar_addN : ∀ {ws : List Int} {p : Int} {hs ds : List Int}, ds.length = hs.length → 0 ≤ p → p < hs.length → bar p hs ws = none → bar p (addN hs 4 ds) ws = none → ∀ n : Int, bar p (addN hs n ds) ws = none
  | [], _, _, _, _, _, _, _, _, _ => rfl
  | s :: ws, p, hs, ds, hl, h0, h1, a, b, n => by
    unfold bar at a b ⊢
    cases c : letB p hs s with
    | false => rw [c] at a; simp at a
    | true =>
      cases c2 : letB p (addN hs 4 ds) s with
      | false => rw [c2] at b; simp at b
      | true =>
        rw [c] at a
        rw [c2] at b
        rw [let_addN hl h0 h1 c c2 n]
        simp only [if_true, Option.map_eq_none_iff] at a b ⊢
        rw [raise_addN _ hl h0 h1] at b ⊢
        have c' := c
        unfold letB at c'
        simp only [Bool.and_eq_true, decide_eq_true_eq] at c'
        refine bar_addN ?_ c'.1.1.1 ?_ a b n
        · rw [raise_len]; exact hl
        · rw [raise_len]; exact c'.1.1.2
theorem end_addN : ∀ {ws : List Int} {p : Int} {hs ds : List Int}, ds.length = hs.length → 0 ≤ p → p < hs.length → bar p hs ws = none → ∀ n : Int, wEnd p (addN hs n ds) ws = ((wEnd p hs ws).1, addN (wEnd p hs ws).2 n ds)
  | [], _, _, _, _, _, _, _, _ => rfl
  | s :: ws, p, hs, ds, hl, h0, h1, a, n => by
    unfold bar at a
    cases c : letB p hs s with
    | false => rw [c] at a; simp at a
    | true =>
      rw [c] at a
      simp only [if_true, Option.map_eq_none_iff] at a
      unfold letB at c
      simp only [Bool.and_eq_true, decide_eq_true_eq] at c
      show wEnd (p + s) (raiseH (addN hs n ds) p) ws = _
      rw [raise_addN _ hl h0 h1]
      exact end_addN (by rw [raise_len]; exact hl) c.1.1.1 (by rw [raise_len]; exact c.1.1.2) a n
theorem end_place : ∀ (ws : List Int) (p : Int) (hs : List Int), (wEnd p hs ws).1 = p + ws.sum
  | [], p, hs => by simp [wEnd]
  | s :: ws, p, hs => by
    show (wEnd (p + s) (raiseH hs p) ws).1 = _
    rw [end_place ws, List.sum_cons]
    omega
theorem end_len : ∀ (ws : List Int) (p : Int) (hs : List Int), (wEnd p hs ws).2.length = hs.length
  | [], p, hs => rfl
  | s :: ws, p, hs => by
    show (wEnd (p + s) (raiseH hs p) ws).2.length = _
    rw [end_len ws, raise_len]
/-- the stand behind so many laps -/
def lapE (row : List Int) : Nat → Int × List Int → Int × List Int
  | 0, st => st
  | n + 1, st => lapE row n (wEnd st.1 st.2 row)
theorem lapE_succ (row : List Int) : ∀ (n : Nat) (st : Int × List Int), lapE row (n + 1) st = wEnd (lapE row n st).1 (lapE row n st).2 row
  | 0, st => rfl
  | n + 1, st => by
    show lapE row (n + 1) (wEnd st.1 st.2 row) = _
    rw [lapE_succ row n]
    rfl
def barN (row : List Int) (n : Nat) (st : Int × List Int) : Option Nat := bar (lapE row n st).1 (lapE row n st).2 row
theorem lapE_st {row : List Int} (hr : Stps row) {st : Int × List Int} (h : IsSt st.1 st.2) : ∀ n : Nat, (∀ m < n, barN row m st = none) → IsSt (lapE row n st).1 (lapE row n st).2
  | 0, _ => h
  | n + 1, hb => by
    have ih := lapE_st hr h n fun m hm => hb m (by omega)
    rw [lapE_succ]
    exact walk_end ih ((bar_walk hr).mp (hb n (by omega)))
theorem lapE_place (row : List Int) : ∀ (n : Nat) (st : Int × List Int), (lapE row n st).1 = st.1 + n * row.sum
  | 0, st => by simp [lapE]
  | n + 1, st => by
    rw [lapE_succ, end_place, lapE_place row n]
    rw [Int.natCast_succ, Int.add_mul]
    omega
/-- by how much each place is higher behind a lap -/
def gain (row : List Int) (st : Int × List Int) : List Int := List.zipWith (fun a b => b - a) st.2 (wEnd st.1 st.2 row).2
theorem gain_len (row : List Int) (st : Int × List Int) : (gain row st).length = st.2.length := by
  unfold gain; rw [List.length_zipWith, end_len]; omega
theorem gain_add : ∀ (hs ks : List Int), hs.length = ks.length → addN hs 1 (List.zipWith (fun a b => b - a) hs ks) = ks
  | [], [], _ => rfl
  | [], _ :: _, h => by cases h
  | _ :: _, [], h => by cases h
  | a :: hs, b :: ks, h => by
    have ih := gain_add hs ks (by simpa using h)
    unfold addN at ih ⊢
    simp only [List.zipWith_cons_cons, ih]
    congr 1
    omega
theorem sum_zero {row : List Int} (hr : Stps row) {st : Int × List Int} (h : IsSt st.1 st.2) (hb : ∀ m < 5, barN row m st = none) : row.sum = 0 := by
  have h5 := lapE_st hr h 5 hb
  have e := lapE_place row 5 st
  have el : ∀ n, (lapE row n st).2.length = st.2.length := fun n => by
    induction n with
    | zero => rfl
    | succ n ih => rw [lapE_succ, end_len, ih]
  obtain ⟨⟨_, q1, _⟩, q2, q3⟩ := h
  obtain ⟨_, r2, r3⟩ := h5
  rw [el] at r3
  rw [e] at r2 r3
  omega
/-- behind n laps, where five are let: the place as ever, the heights so often higher; and no lap bars -/
theorem laps_go {row : List Int} (hr : Stps row) {st : Int × List Int} (h : IsSt st.1 st.2) (hb : ∀ m < 5, barN row m st = none) : ∀ n : Nat, lapE row n st = (st.1, addN st.2 n (gain row st)) ∧ barN row n st = none := by
  have s0 := sum_zero hr h hb
  have gl := gain_len row st
  obtain ⟨_, p0, p1⟩ := id h
  have b0 : bar st.1 st.2 row = none := hb 0 (by omega)
  have e1 : wEnd st.1 st.2 row = (st.1, addN st.2 1 (gain row st)) := by
    refine Prod.ext ?_ ?_
    · rw [end_place, s0]; simp
    · exact (gain_add st.2 _ (end_len row st.1 st.2).symm).symm
  have key : ∀ n : Nat, lapE row n st = (st.1, addN st.2 n (gain row st)) := by
    intro n
    induction n with
    | zero => 
      show st = _
      rw [show ((0 : Nat) : Int) = 0 from rfl, addN_zero gl]
    | succ n ih =>
      rw [lapE_succ, ih]
      rw [end_addN gl p0 p1 b0, e1]
      refine Prod.ext rfl ?_
      show addN (addN st.2 1 (gain row st)) n (gain row st) = _
      rw [addN_add _ _ gl]
      congr 1
      push_cast
      omega
  refine fun n => ⟨key n, ?_⟩
  have b4 : bar st.1 (addN st.2 4 (gain row st)) row = none := by
    have := hb 4 (by omega)
    unfold barN at this
    rw [key 4] at this
    exact this
  unfold barN
  rw [key n]
  exact bar_addN gl p0 p1 b0 b4 n
/-- what is told of a row done so often, lap by lap from the k-th -/
def rnd (row : List Int) : Nat → Nat → Int × List Int → D
  | 0, _, st => .tuple [.str "done", sD st.1 st.2]
  | n + 1, k, st => match bar st.1 st.2 row with
    | some a => .tuple [.str "barred", .int (k : Nat), .int (a : Nat)]
    | none => rnd row n (k + 1) (wEnd st.1 st.2 row)
theorem rnd_done (row : List Int) : ∀ (n k : Nat) (st : Int × List Int), (∀ m < n, barN row m st = none) → rnd row n k st = .tuple [.str "done", sD (lapE row n st).1 (lapE row n st).2]
  | 0, k, st, _ => rfl
  | n + 1, k, st, h => by
    have h0 : bar st.1 st.2 row = none := h 0 (by omega)
    unfold rnd
    rw [h0]
    exact rnd_done row n (k + 1) _ fun m hm => h (m + 1) (by omega)
theorem rnd_bar (row : List Int) : ∀ (m n k : Nat) (st : Int × List Int) (a : Nat), m < n → (∀ j < m, barN row j st = none) → barN row m st = some a → rnd row n k st = .tuple [.str "barred", .int ((k + m : Nat) : Int), .int (a : Nat)]
  | 0, 0, _, _, _, h, _, _ => by omega
  | 0, n + 1, k, st, a, _, _, hb => by
    have hb : bar st.1 st.2 row = some a := hb
    unfold rnd
    rw [hb]
    rfl
  | m + 1, 0, _, _, _, h, _, _ => by omega
  | m + 1, n + 1, k, st, a, h, h2, hb => by
    have h0 : bar st.1 st.2 row = none := h2 0 (by omega)
    unfold rnd
    rw [h0]
    show rnd row n (k + 1) (wEnd st.1 st.2 row) = _
    rw [rnd_bar row m n (k + 1) _ a (by omega) (fun j hj => h2 (j + 1) (by omega)) hb]
    congr 4
    omega
/-- either five laps are let, or one of them bars first -/
theorem five (row : List Int) (st : Int × List Int) : ∀ n : Nat, (∀ m < n, barN row m st = none) ∨ ∃ m a, m < n ∧ (∀ j < m, barN row j st = none) ∧ barN row m st = some a
  | 0 => .inl fun m hm => by omega
  | n + 1 => by
    rcases five row st n with h | ⟨m, a, h1, h2, h3⟩
    · cases c : barN row n st with
      | none =>
        refine .inl fun m hm => ?_
        by_cases e : m = n
        · rw [e]; exact c
        · exact h m (by omega)
      | some a => exact .inr ⟨n, a, by omega, h, c⟩
    · exact .inr ⟨m, a, by omega, h2, h3⟩
/-- what the program tells -/
def lapsD (row : List Int) (st : Int × List Int) (t : Nat) : D := rnd row t 0 st
end Tr

set_option Elab.async false
set_option linter.all false
set_option maxRecDepth 100000
set_option maxHeartbeats 4000000
/-! What more laws have alike: their outer loops, comprehensions that draw, more of data. -/
namespace Tr
open PySem
/-- a comprehension whose turns may change the frame's other slots -/
theorem compN_inv {turn : D → Fm → R (Option Vl)} (P : D → Prop) (I : Fm → Prop) : ∀ {ds : List D} {g : Fm}, I g → (∀ d g, I g → d ∈ ds → ∃ v g', turn d g = some (some (.fz v), g') ∧ P v ∧ I g') → ∃ (vs : List D) (g' : Fm), compN turn ds g = some (vs.map Vl.fz, g') ∧ vs.length = ds.length ∧ (∀ v ∈ vs, P v) ∧ I g'
  | [], g, h, _ => ⟨[], g, rfl, rfl, by simp, h⟩
  | d :: ds, g, h, ht => by
    obtain ⟨v, g1, e1, p1, i1⟩ := ht d g h List.mem_cons_self
    obtain ⟨vs, g2, e2, l2, p2, i2⟩ := compN_inv P I i1 fun d' g' hi hm => ht d' g' hi (List.mem_cons_of_mem _ hm)
    refine ⟨v :: vs, g2, ?_, by simp [l2], ?_, i2⟩
    · unfold compN
      rw [e1]
      simp only [Option.bind_some, e2, Option.map_some]
      rfl
    · intro w hw
      rcases List.mem_cons.mp hw with rfl | hw
      · exact p1
      · exact p2 w hw
theorem ev_comp_inv {G : Fs} {elt : E} {tg : Tg} {it : It} {cond : Option E} {ws : List Nat} {fr fr1 : Fm} {ds : List D} (P : D → Prop) (I : Fm → Prop) (hi : its G it fr = some (ds, fr1)) (h0 : I fr1)
    (ht : ∀ d g, I g → d ∈ ds → ∃ v g', turn0 G elt tg cond d (wipeF g ws) = some (some (.fz v), g') ∧ P v ∧ I g') (hsz : ds.length ≤ 16777216) :
    ∃ (vs : List D) (g : Fm), ev G (.comp elt tg it cond ws false) fr = some (.st (.ol vs), unwipe fr1 g ws) ∧ vs.length = ds.length ∧ (∀ v ∈ vs, P v) ∧ I g := by
  obtain ⟨vs, g, e1, l, p, i⟩ := compN_inv (turn := turnC G elt tg cond ws) P I h0 (fun d g hg hd => by
    obtain ⟨v, g', e, a, b⟩ := ht d g hg hd
    exact ⟨v, g', e, a, b⟩)
  refine ⟨vs, g, ?_, l, p, i⟩
  unfold ev
  rw [hi]
  show (compN (turnC G elt tg cond ws) ds fr1).bind _ = _
  rw [e1]
  have hs : okSz (vs.map Vl.fz).length = true := by
    unfold okSz
    exact decide_eq_true (by rw [List.length_map, l]; exact hsz)
  show (if okSz (vs.map Vl.fz).length then _ else _) = _
  rw [if_pos hs, if_neg (by decide)]
  have : froz (vs.map Vl.fz) = vs := by
    unfold froz
    rw [List.map_map]
    show vs.map (fun d => (Vl.fz d).strip) = vs
    simp [Vl.strip]
  rw [this]
/-- the loop over cells and laps that most laws have -/
theorem outer_run {G : Fs} {ce pe : Nat} (hce : PCell G ce) (hpe : PPen G pe) (ns : List Int) {N M : Int} (hN : 1 ≤ N ∧ N ≤ 100) (hM : 0 ≤ M ∧ M ≤ 1000) {m : Nat} {inner : List S}
    (hin : ∀ (j : Int) (y : Vl) (o1 o3 : Option Vl) (rest : Fm), IsPen y → 0 ≤ j → j < M → rest.length = m → ∃ (y' : Vl) (o3' : Option Vl) (rest' : Fm), turnF G [] (Tg.n 3) inner (.int j) (some (.scr ns) :: o1 :: some y :: o3 :: rest) = some (.nx, some (.scr ns) :: o1 :: some y' :: o3' :: rest') ∧ IsPen y' ∧ rest'.length = m) :
    ∃ ps, runF G ⟨1, m + 4, [S.for (Tg.n 1) (It.rg1 (E.bi Bi.max [cI 1, E.bi Bi.min [E.bi Bi.len [E.var 0], cI N]])) [S.asg (Tg.n 2) (E.call pe [E.call ce [E.var 0, E.var 1]]), S.for (Tg.n 3) (It.rg1 (cI M)) inner], S.ret (E.con (.bool true))]⟩ [.scr ns] = some (.fz (.bool true), ps) := by
  let J : Fm → Prop := fun fr => ∃ (y : Vl) (o1 o3 : Option Vl) (rest : Fm), fr = some (.scr ns) :: o1 :: some y :: o3 :: rest ∧ IsPen y ∧ rest.length = m
  let I : Fm → Prop := fun fr => ∃ (o1 o2 o3 : Option Vl) (rest : Fm), fr = some (.scr ns) :: o1 :: o2 :: o3 :: rest ∧ rest.length = m
  let n : Int := if (if N < (ns.length : Int) then N else (ns.length : Int)) > 1 then (if N < (ns.length : Int) then N else (ns.length : Int)) else 1
  have loop : ∃ g', forN (turnF G [] (Tg.n 1) [S.asg (Tg.n 2) (E.call pe [E.call ce [E.var 0, E.var 1]]), S.for (Tg.n 3) (It.rg1 (cI M)) inner]) (rangeD 0 n) (some (.scr ns) :: none :: none :: none :: List.replicate m none) = some (.nx, g') ∧ I g' := by
    refine forN_inv I ⟨_, _, _, _, rfl, List.length_replicate⟩ ?_
    rintro d g ⟨o1, o2, o3, rest, rfl, hr⟩ hd
    obtain ⟨i, rfl, i0, -⟩ := mem_range hd
    obtain ⟨v, e1⟩ := hce ns i i0
    obtain ⟨y, e2, hy⟩ := hpe v
    have lp : ∃ g', forN (turnF G [] (Tg.n 3) inner) (rangeD 0 M) (some (.scr ns) :: some (.fz (.int i)) :: some y :: o3 :: rest) = some (.nx, g') ∧ J g' := by
      refine forN_inv J ⟨_, _, _, _, rfl, hy, hr⟩ ?_
      rintro d g ⟨y, o1, o3, rest, rfl, hy, hr⟩ hd
      obtain ⟨j, rfl, j0, j1⟩ := mem_range hd
      obtain ⟨y', a3, r', et, hy', hr'⟩ := hin j y o1 o3 rest hy j0 j1 hr
      exact ⟨_, et, ⟨_, _, _, _, rfl, hy', hr'⟩⟩
    obtain ⟨g', el, y', b1, b3, br, rfl, -, hbr⟩ := lp
    obtain ⟨a, b, c, rfl, -, -⟩ := id hy
    have sm : smallI M = true := small_ok hM.1 (by omega)
    refine ⟨_, ?_, ⟨b1, some y', b3, br, rfl, hbr⟩⟩
    simp [turnF, e1, e2, sm, el]
  obtain ⟨g', el, o1, o2, o3, rest, rfl, -⟩ := loop
  have sm : smallI n = true := small_ok (by simp only [n]; split <;> (try split) <;> omega) (by simp only [n]; split <;> (try split) <;> omega)
  refine ⟨[.scr ns], ?_⟩
  have en : (if (if N < (ns.length : Int) then N else (ns.length : Int)) > 1 then (if N < (ns.length : Int) then N else (ns.length : Int)) else 1) = n := rfl
  clear_value n
  have en' : (if 1 < (if N < (ns.length : Int) then N else (ns.length : Int)) then (if N < (ns.length : Int) then N else (ns.length : Int)) else 1) = n := en
  have er : List.replicate (m + 3) (none : Option Vl) = none :: none :: none :: List.replicate m none := rfl
  have em : m + 4 - 1 = m + 3 := rfl
  simp [runF, en', sm, el, er]
/-- the loop over the first cell and up to so many more -/
theorem outer2_run {G : Fs} {ce pe : Nat} (hce : PCell G ce) (hpe : PPen G pe) (ns : List Int) {N M : Int} (hN : 1 ≤ N ∧ N ≤ 100) (hM : 0 ≤ M ∧ M ≤ 1000) {m : Nat} {inner : List S}
    (hin : ∀ (j : Int) (y : Vl) (o1 o3 : Option Vl) (rest : Fm), IsPen y → 0 ≤ j → j < M → rest.length = m → ∃ (y' : Vl) (o3' : Option Vl) (rest' : Fm), turnF G [] (Tg.n 3) inner (.int j) (some (.scr ns) :: o1 :: some y :: o3 :: rest) = some (.nx, some (.scr ns) :: o1 :: some y' :: o3' :: rest') ∧ IsPen y' ∧ rest'.length = m) :
    ∃ ps, runF G ⟨1, m + 4, [S.for (Tg.n 1) (It.li (E.bin Bop.add (E.lst [E.call ce [E.var 0, cI 0]]) ((E.var 0).slc (some (cI 1)) (some (cI N)) false))) [S.asg (Tg.n 2) (E.call pe [E.var 1]), S.for (Tg.n 3) (It.rg1 (cI M)) inner], S.ret (E.con (.bool true))]⟩ [.scr ns] = some (.fz (.bool true), ps) := by
  let J : Fm → Prop := fun fr => ∃ (y : Vl) (o1 o3 : Option Vl) (rest : Fm), fr = some (.scr ns) :: o1 :: some y :: o3 :: rest ∧ IsPen y ∧ rest.length = m
  let I : Fm → Prop := fun fr => ∃ (o1 o2 o3 : Option Vl) (rest : Fm), fr = some (.scr ns) :: o1 :: o2 :: o3 :: rest ∧ rest.length = m
  obtain ⟨v0, e0⟩ := hce ns 0 (by decide)
  have loop : ∃ g', forN (turnF G [] (Tg.n 1) [S.asg (Tg.n 2) (E.call pe [E.var 1]), S.for (Tg.n 3) (It.rg1 (cI M)) inner]) (.int v0 :: cutL (ns.map .int) (some 1) (some N)) (some (.scr ns) :: none :: none :: none :: List.replicate m none) = some (.nx, g') ∧ I g' := by
    refine forN_inv I ⟨_, _, _, _, rfl, List.length_replicate⟩ ?_
    rintro d g ⟨o1, o2, o3, rest, rfl, hr⟩ hd
    have : ∃ n : Int, d = .int n := by
      rcases List.mem_cons.mp hd with rfl | hd
      · exact ⟨_, rfl⟩
      · unfold cutL at hd
        have := List.mem_of_mem_drop (List.mem_of_mem_take hd)
        obtain ⟨n, -, rfl⟩ := List.mem_map.mp this
        exact ⟨_, rfl⟩
    obtain ⟨n, rfl⟩ := this
    obtain ⟨y, e2, hy⟩ := hpe n
    have lp : ∃ g', forN (turnF G [] (Tg.n 3) inner) (rangeD 0 M) (some (.scr ns) :: some (.fz (.int n)) :: some y :: o3 :: rest) = some (.nx, g') ∧ J g' := by
      refine forN_inv J ⟨_, _, _, _, rfl, hy, hr⟩ ?_
      rintro d g ⟨y, o1, o3, rest, rfl, hy, hr⟩ hd
      obtain ⟨j, rfl, j0, j1⟩ := mem_range hd
      obtain ⟨y', a3, r', et, hy', hr'⟩ := hin j y o1 o3 rest hy j0 j1 hr
      exact ⟨_, et, ⟨_, _, _, _, rfl, hy', hr'⟩⟩
    obtain ⟨g', el, y', b1, b3, br, rfl, -, hbr⟩ := lp
    obtain ⟨a, b, c, rfl, -, -⟩ := id hy
    have sm : smallI M = true := small_ok hM.1 (by omega)
    refine ⟨_, ?_, ⟨b1, some y', b3, br, rfl, hbr⟩⟩
    simp [turnF, e2, sm, el]
  obtain ⟨g', el, o1, o2, o3, rest, rfl, -⟩ := loop
  have z1 : okSz 1 = true := by decide
  have zc : okSz ((cutL (ns.map PyData.int) (some 1) (some N)).length + 1) = true := okSz_ok (by
    unfold cutL
    rw [List.length_take]
    have : HT.sIx (ns.map PyData.int).length (ns.map PyData.int).length (some N) - HT.sIx (ns.map PyData.int).length 0 (some 1) ≤ 100 := by
      unfold HT.sIx
      simp only []
      rw [if_neg (by omega : ¬ N < 0)]
      omega
    omega)
  have zc' := zc
  rw [Nat.add_comm] at zc'
  have er : List.replicate (m + 3) (none : Option Vl) = none :: none :: none :: List.replicate m none := rfl
  refine ⟨[.scr ns], ?_⟩
  simp [runF, e0, z1, zc, zc', el, er]
/-! ### more of data -/
theorem pairs_ints : ∀ (as bs : List Int), pairs (as.map .int) (bs.map .int) = (as.zip bs).map fun x => .tuple [.int x.1, .int x.2]
  | [], _ => rfl
  | _ :: _, [] => rfl
  | a :: as, b :: bs => by
    simp only [List.map_cons, pairs, List.zip_cons_cons, pairs_ints as bs]
theorem cutL_map {α β : Type} (f : α → β) (l : List α) (lo hi : Option Int) : cutL (l.map f) lo hi = (cutL l lo hi).map f := by
  unfold cutL
  rw [List.length_map, List.map_take, List.map_drop]
def repI (k : Int) (l : List Int) : List Int := (List.replicate k.toNat l).flatten
theorem repD_map (k : Int) (l : List Int) : repD k (l.map .int) = (repI k l).map .int := by
  unfold repD repI
  rw [List.map_flatten, List.map_replicate]
theorem repI_mem {k : Int} {l : List Int} {x : Int} (h : x ∈ repI k l) : x ∈ l := by
  unfold repI at h
  obtain ⟨m, h1, h2⟩ := List.mem_flatten.mp h
  rw [List.eq_of_mem_replicate h1] at h2
  exact h2
theorem repI_len (k : Int) (l : List Int) : (repI k l).length = k.toNat * l.length := by
  unfold repI
  induction k.toNat with
  | zero => simp
  | succ n ih => rw [List.replicate_succ, List.flatten_cons, List.length_append, ih, Nat.add_mul]; omega
theorem cutL_mem {α : Type} {l : List α} {lo hi : Option Int} {x : α} (h : x ∈ cutL l lo hi) : x ∈ l := by
  unfold cutL at h
  exact List.mem_of_mem_drop (List.mem_of_mem_take h)
theorem cutL_to {α : Type} (l : List α) {n : Int} (hn : 0 ≤ n) : cutL l none (some n) = l.take n.toNat := by
  unfold cutL HT.sIx
  simp only [List.drop_zero, Nat.sub_zero]
  rw [if_neg (by omega)]
  by_cases c : n.toNat ≤ l.length
  · rw [Nat.min_eq_left c]
  · rw [Nat.min_eq_right (by omega), List.take_length, List.take_of_length_le (by omega)]
end Tr

set_option Elab.async false
set_option linter.all false
set_option maxRecDepth 100000
set_option maxHeartbeats 4000000
/-! Equality of data with itself; walks mapped. -/
namespace Tr
open PySem
mutual
theorem eqv_self : ∀ d : D, d.canLay0 = true → PyData.eqv d d = true
  | .none, _ => by simp [PyData.eqv]
  | .bool _, _ => by simp [PyData.eqv]
  | .int _, _ => by simp [PyData.eqv]
  | .str _, _ => by simp [PyData.eqv]
  | .list xs, h => by
    have h' : PyData.canLayAll0 xs = true := h
    simp only [PyData.eqv]
    exact eqvAll_self xs h'
  | .tuple xs, h => by
    have h' : PyData.canLayAll0 xs = true := h
    simp only [PyData.eqv]
    exact eqvAll_self xs h'
  | .dict _, h => by cases h
theorem eqvAll_self : ∀ xs : List D, PyData.canLayAll0 xs = true → PyData.eqvAll xs xs = true
  | [], _ => by simp [PyData.eqvAll]
  | x :: xs, h => by
    have h' : (x.canLay0 && PyData.canLayAll0 xs) = true := h
    rw [Bool.and_eq_true] at h'
    simp only [PyData.eqvAll, eqv_self x h'.1, eqvAll_self xs h'.2]
    rfl
end
theorem eq_self {d : D} (h : SeqAt.shaped d = true) : cmpD .eq d d = some true := by
  have e := eqv_self d (SeqAt.canLay_of_shaped h)
  by_cases c : ∃ x, d = .str x
  · obtain ⟨x, rfl⟩ := c
    show some (decide (x = x)) = _
    simp
  · have : cmpD .eq d d = if okEq d d then some (PyData.eqv d d) else none := by
      cases d <;> first | rfl | exact (c ⟨_, rfl⟩).elim
    rw [this, e]
    unfold okEq
    rw [h]
    rfl
theorem ne_self {d : D} (h : SeqAt.shaped d = true) : cmpD .ne d d = some false := by
  have e := eqv_self d (SeqAt.canLay_of_shaped h)
  by_cases c : ∃ x, d = .str x
  · obtain ⟨x, rfl⟩ := c
    show some (!decide (x = x)) = _
    simp
  · have : cmpD .ne d d = if okEq d d then some (!PyData.eqv d d) else none := by
      cases d <;> first | rfl | exact (c ⟨_, rfl⟩).elim
    rw [this, e]
    unfold okEq
    rw [h]
    rfl
theorem ne_int (a b : Int) : cmpD .ne (.int a) (.int b) = some (!decide (a = b)) := by
  have : cmpD .ne (.int a) (.int b) = some (!PyData.eqv (.int a) (.int b)) := rfl
  rw [this]
  simp only [PyData.eqv]
  congr 2
@[simp] theorem idx_2 (x y z : D) (xs : List D) : idxD (.tuple (x :: y :: z :: xs)) (.int 2) = some z := by
  simp only [idxD, List.length_cons]
  rw [place_ok (by omega) (by omega)]
  rfl
theorem intsD_map : ∀ ns : List Int, intsD (ns.map .int) = some ns
  | [] => rfl
  | n :: ns => by
    rw [List.map_cons]
    show (intsD (ns.map .int)).map (n :: ·) = _
    rw [intsD_map ns]
    rfl
theorem sum_ints (ns : List Int) : biD .sum [.list (ns.map .int)] = some (.fz (.int ns.sum)) := by
  show (intsD (ns.map .int)).map _ = _
  rw [intsD_map]
  rfl
/-! ### walks mapped -/
/-- a way to map stands and steps that walks bear -/
structure Glass (f : Int × List Int → Int × List Int) (g : Int → Int) (P : Int × List Int → Prop) : Prop where
  lt : ∀ p hs s, IsSt p hs → P (p, hs) → letB (f (p, hs)).1 (f (p, hs)).2 (g s) = letB p hs s
  st : ∀ p hs s, IsSt p hs → P (p, hs) → letB p hs s = true → ((f (p, hs)).1 + g s, raiseH (f (p, hs)).2 (f (p, hs)).1) = f (p + s, raiseH hs p) ∧ P (p + s, raiseH hs p)
section
variable {f : Int × List Int → Int × List Int} {g : Int → Int} {P : Int × List Int → Prop}
theorem Glass.bar (R : Glass f g P) : ∀ {ws : List Int} {p : Int} {hs : List Int}, IsSt p hs → P (p, hs) → Tr.bar (f (p, hs)).1 (f (p, hs)).2 (ws.map g) = Tr.bar p hs ws
  | [], _, _, _, _ => rfl
  | s :: ws, p, hs, h, hp => by
    rw [List.map_cons]
    unfold Tr.bar
    rw [R.lt p hs s h hp]
    cases c : letB p hs s with
    | false => rfl
    | true =>
      obtain ⟨e, p2⟩ := R.st p hs s h hp c
      have ih := R.bar (ws := ws) (h.step c) p2
      rw [← e] at ih
      simp only [if_true]
      rw [ih]
theorem Glass.end (R : Glass f g P) : ∀ {ws : List Int} {p : Int} {hs : List Int}, IsSt p hs → P (p, hs) → IsWalk p hs ws → wEnd (f (p, hs)).1 (f (p, hs)).2 (ws.map g) = f (wEnd p hs ws) ∧ P (wEnd p hs ws)
  | [], _, _, _, hp, _ => ⟨rfl, hp⟩
  | s :: ws, p, hs, h, hp, ⟨_, c, hw⟩ => by
    obtain ⟨e, p2⟩ := R.st p hs s h hp c
    have ih := R.end (ws := ws) (h.step c) p2 hw
    rw [← e] at ih
    exact ih
theorem Glass.rnd (R : Glass f g P) {row : List Int} (hr : Stps row) : ∀ (n k : Nat) (st : Int × List Int), IsSt st.1 st.2 → P st →
    (∃ m a, Tr.rnd row n k st = .tuple [.str "barred", .int m, .int a] ∧ Tr.rnd (row.map g) n k (f st) = .tuple [.str "barred", .int m, .int a]) ∨
    (∃ q : Int × List Int, Tr.rnd row n k st = .tuple [.str "done", sD q.1 q.2] ∧ Tr.rnd (row.map g) n k (f st) = .tuple [.str "done", sD (f q).1 (f q).2] ∧ IsSt q.1 q.2 ∧ P q ∧ q.2.length = st.2.length)
  | 0, k, st, h, hp => .inr ⟨st, rfl, rfl, h, hp, rfl⟩
  | n + 1, k, (p, hs), h, hp => by
    have e1 := R.bar (ws := row) h hp
    unfold Tr.rnd
    simp only [e1]
    cases c : Tr.bar p hs row with
    | some a => exact .inl ⟨_, _, rfl, rfl⟩
    | none =>
      have hw := (bar_walk hr).mp c
      obtain ⟨e2, p2⟩ := R.end h hp hw
      simp only [e2]
      rcases R.rnd hr n (k + 1) (wEnd p hs row) (walk_end h hw) p2 with h1 | ⟨q, q1, q2, q3, q4, q5⟩
      · exact .inl h1
      · exact .inr ⟨q, q1, q2, q3, q4, q5.trans (end_len row p hs)⟩
end
/-- the other way about -/
def mirS (st : Int × List Int) : Int × List Int := ((st.2.length : Int) - 1 - st.1, st.2.reverse)
theorem at_rev {hs : List Int} {q : Int} (h0 : 0 ≤ q) (h1 : q < hs.length) : at' hs.reverse ((hs.length : Int) - 1 - q) = at' hs q := by
  unfold at'
  have a : q.toNat < hs.length := by omega
  have e : ((hs.length : Int) - 1 - q).toNat = hs.length - 1 - q.toNat := by omega
  rw [e, List.getD_eq_getElem?_getD, List.getD_eq_getElem?_getD, List.getElem?_reverse (by omega)]
  congr 2
  omega
theorem raise_rev {hs : List Int} {p : Int} (h0 : 0 ≤ p) (h1 : p < hs.length) : raiseH hs.reverse ((hs.length : Int) - 1 - p) = (raiseH hs p).reverse := by
  have ea := at_rev h0 h1
  unfold raiseH
  rw [ea]
  have e : ((hs.length : Int) - 1 - p).toNat = hs.length - 1 - p.toNat := by omega
  rw [e]
  refine List.ext_getElem? fun i => ?_
  by_cases hi : i < hs.length
  · rw [List.getElem?_set, List.getElem?_reverse hi, List.getElem?_reverse (by rw [List.length_set]; exact hi), List.getElem?_set, List.length_set, List.length_reverse]
    by_cases c : hs.length - 1 - p.toNat = i
    · have c2 : p.toNat = hs.length - 1 - i := by omega
      rw [if_pos c, if_pos (by omega), if_pos c2, if_pos (by omega)]
    · have c2 : ¬ p.toNat = hs.length - 1 - i := by omega
      rw [if_neg c, if_neg c2]
  · rw [List.getElem?_eq_none (by simp; omega), List.getElem?_eq_none (by simp; omega)]
theorem glass_mir : Glass mirS (fun s => 0 - s) fun _ => True where
  lt := fun p hs s h _ => by
    obtain ⟨_, p0, p1⟩ := h
    have e1 : (mirS (p, hs)).1 + (0 - s) = (hs.length : Int) - 1 - (p + s) := by simp only [mirS]; omega
    have e2 : (mirS (p, hs)).2.length = hs.length := by simp [mirS]
    unfold letB
    rw [e1, e2]
    by_cases c : 0 ≤ p + s ∧ p + s < hs.length
    · have a1 : at' (mirS (p, hs)).2 ((hs.length : Int) - 1 - (p + s)) = at' hs (p + s) := at_rev c.1 c.2
      have a2 : at' (mirS (p, hs)).2 (mirS (p, hs)).1 = at' hs p := at_rev p0 p1
      rw [a1, a2]
      congr 2
      rw [Bool.eq_iff_iff]
      simp only [Bool.and_eq_true, decide_eq_true_eq]
      omega
    · have f1 : (decide (0 ≤ p + s) && decide (p + s < (hs.length : Int))) = false := by
        rw [Bool.and_eq_false_iff, decide_eq_false_iff_not, decide_eq_false_iff_not]
        omega
      have f2 : (decide (0 ≤ (hs.length : Int) - 1 - (p + s)) && decide ((hs.length : Int) - 1 - (p + s) < (hs.length : Int))) = false := by
        rw [Bool.and_eq_false_iff, decide_eq_false_iff_not, decide_eq_false_iff_not]
        omega
      rw [f1, f2]
      rfl
  st := fun p hs s h _ c => by
    obtain ⟨_, p0, p1⟩ := h
    refine ⟨Prod.ext ?_ ?_, trivial⟩
    · simp only [mirS, raise_len]; omega
    · exact raise_rev p0 p1
/-- all heights as much higher -/
def liftS (c : Int) (st : Int × List Int) : Int × List Int := (st.1, st.2.map (· + c))
theorem at_lift {hs : List Int} {q c : Int} (h0 : 0 ≤ q) (h1 : q < hs.length) : at' (hs.map (· + c)) q = at' hs q + c := by
  unfold at'
  have a : q.toNat < hs.length := by omega
  rw [List.getD_eq_getElem?_getD, List.getD_eq_getElem?_getD, List.getElem?_map, List.getElem?_eq_getElem a]
  rfl
theorem glass_lift (c : Int) : Glass (liftS c) (fun s => s) fun _ => True where
  lt := fun p hs s h _ => by
    obtain ⟨_, p0, p1⟩ := h
    show letB p (hs.map (· + c)) s = letB p hs s
    unfold letB
    rw [List.length_map]
    by_cases k : 0 ≤ p + s ∧ p + s < hs.length
    · rw [at_lift k.1 k.2, at_lift p0 p1]
      congr 2
      · congr 1
        rw [eq_iff_iff]; omega
      · rw [eq_iff_iff]; omega
    · have f1 : (decide (0 ≤ p + s) && decide (p + s < (hs.length : Int))) = false := by
        rw [Bool.and_eq_false_iff, decide_eq_false_iff_not, decide_eq_false_iff_not]
        omega
      rw [f1]
      rfl
  st := fun p hs s h _ k => by
    obtain ⟨_, p0, p1⟩ := h
    refine ⟨Prod.ext rfl ?_, trivial⟩
    show raiseH (hs.map (· + c)) p = (raiseH hs p).map (· + c)
    unfold raiseH
    rw [at_lift p0 p1, List.map_set]
    congr 1
    omega
/-! ### sums -/
theorem sum_set : ∀ {hs : List Int} {i : Nat} {x : Int}, i < hs.length → (hs.set i x).sum = hs.sum - hs.getD i 0 + x
  | [], _, _, h => by simp at h
  | a :: hs, 0, x, _ => by simp [List.set_cons_zero]; omega
  | a :: hs, i + 1, x, h => by
    have := sum_set (hs := hs) (i := i) (x := x) (by simpa using h)
    simp only [List.set_cons_succ, List.sum_cons, this, List.getD_cons_succ]
    omega
theorem sum_raise {hs : List Int} {p : Int} (h0 : 0 ≤ p) (h1 : p < hs.length) : (raiseH hs p).sum = hs.sum + 1 := by
  unfold raiseH
  rw [sum_set (by omega)]
  unfold at'
  omega
theorem sum_end : ∀ {ws : List Int} {p : Int} {hs : List Int}, IsSt p hs → IsWalk p hs ws → (wEnd p hs ws).2.sum = hs.sum + ws.length
  | [], _, _, _, _ => by simp [wEnd]
  | s :: ws, p, hs, h, ⟨_, c, hw⟩ => by
    show (wEnd (p + s) (raiseH hs p) ws).2.sum = _
    rw [sum_end (h.step c) hw, sum_raise h.2.1 h.2.2, List.length_cons]
    push_cast
    omega
theorem sum_sub : ∀ (hs ks : List Int), hs.length = ks.length → (List.zipWith (fun a b => b - a) hs ks).sum = ks.sum - hs.sum
  | [], [], _ => rfl
  | [], _ :: _, h => by cases h
  | _ :: _, [], h => by cases h
  | a :: hs, b :: ks, h => by
    have ih := sum_sub hs ks (by simpa using h)
    simp only [List.zipWith_cons_cons, List.sum_cons, ih]
    omega
theorem sum_gain {row : List Int} {st : Int × List Int} (h : IsSt st.1 st.2) (hw : IsWalk st.1 st.2 row) : (gain row st).sum = row.length := by
  unfold gain
  rw [sum_sub _ _ (end_len row st.1 st.2).symm, sum_end h hw]
  omega
/-! ### walks one behind the other -/
theorem bar_cons (p : Int) (hs : List Int) (s : Int) (ws : List Int) : bar p hs (s :: ws) = if letB p hs s then (bar (p + s) (raiseH hs p) ws).map (· + 1) else some 0 := rfl
theorem bar_app : ∀ (xs ys : List Int) (p : Int) (hs : List Int), bar p hs (xs ++ ys) = match bar p hs xs with
    | some a => some a
    | none => (bar (wEnd p hs xs).1 (wEnd p hs xs).2 ys).map (· + xs.length)
  | [], ys, p, hs => by simp [bar, wEnd]
  | s :: xs, ys, p, hs => by
    rw [List.cons_append, bar_cons, bar_cons]
    cases c : letB p hs s with
    | false => simp
    | true =>
      simp only [if_true]
      rw [bar_app xs ys (p + s) (raiseH hs p)]
      cases c2 : bar (p + s) (raiseH hs p) xs with
      | some a => rfl
      | none =>
        show Option.map (fun x => x + 1) (Option.map (fun x => x + xs.length) (bar (wEnd (p + s) (raiseH hs p) xs).1 (wEnd (p + s) (raiseH hs p) xs).2 ys)) = Option.map (fun x => x + (s :: xs).length) (bar (wEnd (p + s) (raiseH hs p) xs).1 (wEnd (p + s) (raiseH hs p) xs).2 ys)
        rw [Option.map_map]
        congr 1
theorem end_app : ∀ (xs ys : List Int) (p : Int) (hs : List Int), wEnd p hs (xs ++ ys) = wEnd (wEnd p hs xs).1 (wEnd p hs xs).2 ys
  | [], ys, p, hs => rfl
  | s :: xs, ys, p, hs => end_app xs ys (p + s) (raiseH hs p)
theorem rep_succ (row : List Int) (t : Nat) : repI ((t + 1 : Nat) : Int) row = row ++ repI (t : Int) row := by
  unfold repI
  rw [Int.toNat_natCast, Int.toNat_natCast, List.replicate_succ, List.flatten_cons]
theorem bar_rep_none (row : List Int) : ∀ (t : Nat) (st : Int × List Int), (∀ m < t, barN row m st = none) → bar st.1 st.2 (repI (t : Int) row) = none ∧ wEnd st.1 st.2 (repI (t : Int) row) = lapE row t st
  | 0, st, _ => ⟨rfl, rfl⟩
  | t + 1, st, h => by
    have h0 : bar st.1 st.2 row = none := h 0 (by omega)
    obtain ⟨i1, i2⟩ := bar_rep_none row t (wEnd st.1 st.2 row) fun m hm => h (m + 1) (by omega)
    rw [rep_succ, bar_app, end_app, h0]
    simp only [i1, i2]
    exact ⟨rfl, rfl⟩
theorem bar_rep_some (row : List Int) : ∀ (m t : Nat) (st : Int × List Int) (a : Nat), m < t → (∀ j < m, barN row j st = none) → barN row m st = some a → bar st.1 st.2 (repI (t : Int) row) = some (m * row.length + a)
  | 0, 0, _, _, h, _, _ => by omega
  | 0, t + 1, st, a, _, _, hb => by
    have hb : bar st.1 st.2 row = some a := hb
    rw [rep_succ, bar_app, hb]
    simp
  | m + 1, 0, _, _, h, _, _ => by omega
  | m + 1, t + 1, st, a, h, h2, hb => by
    have h0 : bar st.1 st.2 row = none := h2 0 (by omega)
    have ih := bar_rep_some row m t (wEnd st.1 st.2 row) a (by omega) (fun j hj => h2 (j + 1) (by omega)) hb
    rw [rep_succ, bar_app, h0]
    simp only [ih, Option.map_some]
    congr 1
    rw [Nat.add_mul]
    omega
theorem rnd_add (row : List Int) : ∀ (a b k : Nat) (st : Int × List Int), (∀ m < a, barN row m st = none) → rnd row (a + b) k st = rnd row b (k + a) (lapE row a st)
  | 0, b, k, st, _ => by rw [Nat.zero_add]; rfl
  | a + 1, b, k, st, h => by
    have h0 : bar st.1 st.2 row = none := h 0 (by omega)
    rw [show a + 1 + b = (a + b) + 1 by omega]
    conv => lhs; unfold rnd
    rw [h0]
    simp only []
    rw [rnd_add row a b (k + 1) (wEnd st.1 st.2 row) fun m hm => h (m + 1) (by omega), show k + 1 + a = k + (a + 1) by omega]
    rfl
end Tr

set_option Elab.async false
set_option linter.all false
set_option maxRecDepth 100000
set_option maxHeartbeats 4000000
/-! More steps of the interpreter: calls by names, lists of lists, two clauses; minima, maxima, last items. -/
namespace Tr
open PySem
section
variable (G : Fs)
@[simp] theorem ev_callk (f : Nat) (args : List E) (perm : List Nat) (fr : Fm) : ev G (.callk f args perm) fr = (evs G args fr).bind fun r => (pickP r.1 perm).bind fun ps => (lend ps r.2).bind fun q => (G f q.1).map fun a => (.st a.1, give ps a.2 q.2) := by (conv => lhs; unfold ev) <;> rfl
@[simp] theorem ev_idx2 (s : Nat) (i : E) (j : Nat) (fr : Fm) : ev G (.idx2 s i j) fr = match fr[s]? with
    | some (some (.oo _)) => (ev G i fr).bind fun p => match look p.2 p.1, p.2[s]?, p.2[j]? with
      | some (.int a), some (some (.oo xss)), some (some (.fz (.int b))) => (placeD xss.length a).bind fun k => (xss[k]?).bind fun xs => match idxD (.list xs) (.int b) with
        | some (.int z) => some (.st (.fz (.int z)), p.2)
        | _ => none
      | _, _, _ => none
    | _ => none := by (conv => lhs; unfold ev) <;> rfl
variable (lk : List Nat)
@[simp] theorem exec_sidx2 (s : Nat) (i : E) (j : Nat) (v : E) (fr : Fm) : Tr.exec G lk (.sidx2 s i j v) fr = (ev G v fr).bind fun p => (force p.1 p.2).bind fun x => match x.1, x.2[s]? with
    | .fz (.int n), some (some (.oo _)) => (ev G i x.2).bind fun q => match look q.2 q.1, q.2[s]?, q.2[j]? with
      | some (.int a), some (some (.oo xss)), some (some (.fz (.int b))) => (placeD xss.length a).bind fun k => (xss[k]?).bind fun xs => (placeD xs.length b).map fun m => (.nx, q.2.set s (some (.oo (xss.set k (xs.set m (.int n))))))
      | _, _, _ => none
    | _, _ => none := by (conv => lhs; unfold Tr.exec) <;> rfl
end
@[simp] theorem pickP_nil {α : Type} (xs : List α) : pickP xs [] = some [] := rfl
@[simp] theorem pickP_cons {α : Type} (xs : List α) (i : Nat) (is : List Nat) : pickP xs (i :: is) = (xs[i]?).bind fun x => (pickP xs is).map (x :: ·) := rfl
/-! ### two clauses -/
theorem compFl_map {α : Type} {turn : D → Fm → R (List Vl)} {ws : List Nat} {g0 : Fm} {enc : α → D} {f : α → List D} : ∀ {l : List α}, (∀ x ∈ l, ∀ fr, wipeF fr ws = g0 → ∃ g, turn (enc x) fr = some ((f x).map Vl.fz, g) ∧ wipeF g ws = g0) → ∀ fr, wipeF fr ws = g0 → ∃ fr', compFl turn (l.map enc) fr = some ((l.flatMap f).map Vl.fz, fr') ∧ wipeF fr' ws = g0
  | [], _, fr, hf => ⟨fr, rfl, hf⟩
  | d :: ds, h, fr, hf => by
    obtain ⟨g, e1, e2⟩ := h d List.mem_cons_self fr hf
    obtain ⟨fr', e3, e4⟩ := compFl_map (fun d hd => h d (List.mem_cons_of_mem _ hd)) g e2
    refine ⟨fr', ?_, e4⟩
    rw [List.map_cons]
    unfold compFl
    rw [e1]
    show (compFl turn (ds.map enc) g).map _ = _
    rw [e3]
    simp
theorem ev_comp2_map {α : Type} {G : Fs} {elt : E} {tg : Tg} {it : It} {cond : Option E} {tg1 : Tg} {it1 : It} {cond1 : Option E} {ws ws1 : List Nat} {fr fr1 : Fm} (l : List α) (enc : α → D) (f : α → List D) (hi : its G it fr = some (l.map enc, fr1))
    (ht : ∀ x ∈ l, ∀ fr, wipeF fr ws = wipeF fr1 ws → ∃ g, turn2 G elt tg cond tg1 it1 cond1 ws ws1 (enc x) fr = some ((f x).map Vl.fz, g) ∧ wipeF g ws = wipeF fr1 ws) (hsz : (l.flatMap f).length ≤ 16777216) : ev G (.comp2 elt tg it cond tg1 it1 cond1 ws ws1) fr = some (.st (.ol (l.flatMap f)), fr1) := by
  obtain ⟨fr', e1, e2⟩ := compFl_map (ws := ws) (g0 := wipeF fr1 ws) (f := f) ht fr1 rfl
  unfold ev
  rw [hi]
  show (compFl (turn2 G elt tg cond tg1 it1 cond1 ws ws1) (l.map enc) fr1).bind _ = _
  rw [e1]
  have hs : okSz ((l.flatMap f).map Vl.fz).length = true := by
    unfold okSz
    exact decide_eq_true (by rw [List.length_map]; exact hsz)
  show (if okSz ((l.flatMap f).map Vl.fz).length then _ else _) = _
  rw [if_pos hs, unwipe_of e2]
  have : froz ((l.flatMap f).map Vl.fz) = l.flatMap f := by
    unfold froz
    rw [List.map_map]
    show (l.flatMap f).map (fun d => (Vl.fz d).strip) = _
    simp [Vl.strip]
  rw [this]
/-! ### lists of numbers -/
theorem minL_ints (n : Int) (ns : List Int) : biD .min [.list ((n :: ns).map .int)] = some (.fz (.int (ns.foldl min n))) := by
  have ok := okMin_ints (n :: ns)
  show (if okMin ((n :: ns).map .int) = true then some (Vl.fz (PySem.W.minD (.int n) (ns.map .int))) else none) = _
  rw [if_pos ok, PySem.W.minD_ints]
theorem maxL_ints (n : Int) (ns : List Int) : biD .max [.list ((n :: ns).map .int)] = some (.fz (.int (ns.foldl max n))) := by
  have ok := okMin_ints (n :: ns)
  show (if okMin ((n :: ns).map .int) = true then some (Vl.fz (PySem.W.maxD (.int n) (ns.map .int))) else none) = _
  rw [if_pos ok, PySem.W.maxD_ints]
theorem eq_nilL (ns : List Int) : cmpD .eq (.list (ns.map .int)) (.list []) = some ns.isEmpty := by
  have h1 := shaped_ints ns
  have h2 := shaped_ints []
  show (if okEq (.list (ns.map .int)) (.list []) = true then some (PyData.eqv (.list (ns.map .int)) (.list [])) else none) = _
  rw [if_pos (by unfold okEq; rw [h1]; exact h2), eqv_nilL]
  cases ns <;> rfl
theorem cutL_init {α : Type} (l : List α) : cutL l none (some (-1)) = l.dropLast := by
  unfold cutL HT.sIx
  simp only [List.drop_zero, Nat.sub_zero]
  rw [if_pos (by decide)]
  have : ((-1 : Int) + (l.length : Int)).toNat = l.length - 1 := by omega
  rw [this, List.dropLast_eq_take]
theorem place_last {n : Nat} (h : 0 < n) : placeD n (-1) = some (n - 1) := by
  unfold placeD L2.ixN
  simp
  omega
theorem enum_map {α : Type} (f : α → D) (l : List α) : enumD (l.map f) = l.zipIdx.map fun x => .tuple [.int (x.2 : Nat), f x.1] := by
  have key : ∀ (l : List α) (k : Nat), pairs ((List.range' k l.length).map fun (i : Nat) => PyData.int (i : Int)) (l.map f) = (l.zipIdx k).map fun x => .tuple [.int (x.2 : Nat), f x.1] := by
    intro l
    induction l with
    | nil => intro k; rfl
    | cons a l ih =>
      intro k
      rw [List.length_cons, List.range'_succ, List.map_cons, List.map_cons]
      unfold pairs
      rw [ih (k + 1), List.zipIdx_cons, List.map_cons]
  unfold enumD
  rw [List.length_map, List.range_eq_range']
  exact key l 0
end Tr

set_option Elab.async false
set_option linter.all false
set_option maxRecDepth 100000
set_option maxHeartbeats 4000000
/-! Rows and laps: the program's and the laws' defs. -/
namespace Tr
open PySem
def isWalkFn (isx : Nat) : Fn := ⟨1, 2, [S.ret ((E.bi (Bi.isinst Ty.tuple) [E.var 0]).and (E.bi Bi.all [(E.call isx [E.var 1]).comp (Tg.n 1) (It.li (E.var 0)) none [1] false]))]⟩
def barByFn (il sb : Nat) : Fn := ⟨2, 4, [S.for (Tg.t [Tg.n 2, Tg.n 3]) (It.en (E.var 1)) [S.iff (E.call il [E.var 0, E.var 3]).not [S.retv 2] [], S.asg (Tg.n 0) (E.call sb [E.var 0, E.var 3])], S.ret (E.con .none)]⟩
def behindByFn (sb : Nat) : Fn := ⟨2, 3, [S.for (Tg.n 2) (It.li (E.var 1)) [S.asg (Tg.n 0) (E.call sb [E.var 0, E.var 2])], S.retv 0]⟩
def needRowFn (il iw : Nat) : Fn := ⟨1, 1, [S.iff ((E.call il [E.var 0, cI 1, E.glb (.int 40)]).not.or (E.call iw [E.var 0]).not) [S.stop] []]⟩
def needTimesFn (iw : Nat) : Fn := ⟨1, 1, [S.iff (E.call iw [E.var 0, cI 0, E.glb (.int 1000000000)]).not [S.stop] []]⟩
def lapsFn (ns nr nt bb bb2 : Nat) : Fn := ⟨3, 10, [S.exp (E.call ns [E.var 0]), S.exp (E.call nr [E.var 1]), S.exp (E.call nt [E.var 2]), S.asg (Tg.n 3) (E.var 0), S.for (Tg.n 4) (It.rg1 (E.bi Bi.min [E.var 2, E.glb (.int 5)])) [S.asg (Tg.n 5) (E.call bb [E.var 3, E.var 1]), S.iff ((E.var 5).isc .none true) [S.ret (E.tup [E.glb (.str "barred"), E.var 4, E.var 5])] [], S.asg (Tg.n 3) (E.call bb2 [E.var 3, E.var 1])], S.iff (E.cmp Cop.le (E.var 2) (E.glb (.int 5))) [S.ret (E.tup [E.glb (.str "done"), E.var 3])] [], S.asg (Tg.n 6) ((E.call bb2 [E.var 3, E.var 1]).idx (cI 1)), S.asg (Tg.n 7) (E.bin Bop.sub (E.var 2) (E.glb (.int 5))), S.ret (E.tup [E.glb (.str "done"), E.tup [(E.var 3).idx (cI 0), E.bi Bi.tuple [(E.bin Bop.add (E.var 8) (E.bin Bop.mul (E.var 7) (E.bin Bop.sub (E.var 9) (E.var 8)))).comp (Tg.t [Tg.n 8, Tg.n 9]) (It.zp ((E.var 3).idx (cI 1)) (E.var 6)) none [8, 9] false]]])]⟩
def lawBarFn (ll ls : Nat) : Fn := ⟨2, 4, [S.for (Tg.t [Tg.n 2, Tg.n 3]) (It.en (E.var 1)) [S.iff (E.call ll [E.var 0, E.var 3]).not [S.ret (E.tup [E.var 2, E.var 0])] [], S.asg (Tg.n 0) (E.call ls [E.var 0, E.var 3])], S.ret (E.tup [E.con .none, E.var 0])]⟩
def lawRoundsFn (lb : Nat) : Fn := ⟨3, 6, [S.for (Tg.n 3) (It.rg1 (E.var 2)) [S.asg (Tg.t [Tg.n 4, Tg.n 5]) (E.call lb [E.var 0, E.var 1]), S.iff ((E.var 4).isc .none true) [S.ret (E.tup [E.con (.str "barred"), E.var 3, E.var 4])] [], S.asg (Tg.n 0) (E.var 5)], S.ret (E.tup [E.con (.str "done"), E.var 0])]⟩
theorem IsWalk.stps : ∀ {ws : List Int} {p : Int} {hs : List Int}, IsWalk p hs ws → Stps ws
  | [], _, _, _ => fun _ h => nomatch h
  | s :: ws, p, hs, ⟨h1, _, h3⟩ => fun x hx => by
    rcases List.mem_cons.mp hx with rfl | hx
    · exact h1
    · exact IsWalk.stps h3 x hx
/-! ### walks -/
def PIsWalk (G : Fs) (f : Nat) : Prop := ∀ ws : List Int, Stps ws → ws.length ≤ 1000 → G f [.fz (tI' ws)] = some (.fz (.bool true), [.fz (tI' ws)])
theorem isWalk_run {G : Fs} {isx : Nat} (hi : PIsStep G isx) {ws : List Int} (h : Stps ws) (hl : ws.length ≤ 1000) : runF G (isWalkFn isx) [.fz (tI' ws)] = some (.fz (.bool true), [.fz (tI' ws)]) := by
  have ec : ev G ((E.call isx [E.var 1]).comp (Tg.n 1) (It.li (E.var 0)) none [1] false) [some (.fz (.tuple (ws.map .int))), none] = some (.st (.ol (ws.map fun _ => .bool true)), [some (.fz (.tuple (ws.map .int))), none]) := by
    refine ev_comp_map ws .int (fun _ => .bool true) ?_ ?_ (by omega)
    · simp
    · intro n hn
      have := hi n (h n hn)
      simp [turn0, wipeF, wipeP, this]
  have e2 := bools_map (fun _ => true) ws
  have et : ∀ xs : List D, isTy Ty.tuple (.tuple xs) = true := fun _ => rfl
  simp only [tI'] at *
  simp [runF, isWalkFn, ec, e2, et]
def barD (p : Int) (hs ws : List Int) : D := match bar p hs ws with
  | none => .none
  | some a => .int (a : Nat)
def PBar (G : Fs) (f : Nat) : Prop := ∀ p hs ws, IsSt p hs → Stps ws → ws.length ≤ 1000 → G f [.fz (sD p hs), .fz (tI' ws)] = some (.fz (barD p hs ws), [.fz (sD p hs), .fz (tI' ws)])
theorem barBy_loop {G : Fs} {il sb : Nat} (hil : PLet G il) (hsb : PStepBy G sb) (r : Option Vl) : ∀ (ws : List Int) (k : Nat) (p : Int) (hs : List Int) (o2 o3 : Option Vl), IsSt p hs →
    (bar p hs ws = none ∧ ∃ a2 a3, forN (turnF G [] (Tg.t [Tg.n 2, Tg.n 3]) [S.iff (E.call il [E.var 0, E.var 3]).not [S.retv 2] [], S.asg (Tg.n 0) (E.call sb [E.var 0, E.var 3])]) ((ws.zipIdx k).map fun x => .tuple [.int (x.2 : Nat), .int x.1]) [some (.fz (sD p hs)), r, o2, o3] = some (.nx, [some (.fz (sD (wEnd p hs ws).1 (wEnd p hs ws).2)), r, a2, a3]))
    ∨ ∃ a, bar p hs ws = some a ∧ ∃ a0 a3, forN (turnF G [] (Tg.t [Tg.n 2, Tg.n 3]) [S.iff (E.call il [E.var 0, E.var 3]).not [S.retv 2] [], S.asg (Tg.n 0) (E.call sb [E.var 0, E.var 3])]) ((ws.zipIdx k).map fun x => .tuple [.int (x.2 : Nat), .int x.1]) [some (.fz (sD p hs)), r, o2, o3] = some (.rt (.fz (.int ((k + a : Nat) : Int))), [a0, r, none, a3])
  | [], k, p, hs, o2, o3, h => .inl ⟨rfl, o2, o3, rfl⟩
  | s :: ws, k, p, hs, o2, o3, h => by
    have e1 := hil p hs s h
    have e2 := hsb p hs s h
    rw [List.zipIdx_cons, List.map_cons]
    cases c : letB p hs s with
    | true =>
      rw [c] at e1
      have et : turnF G [] (Tg.t [Tg.n 2, Tg.n 3]) [S.iff (E.call il [E.var 0, E.var 3]).not [S.retv 2] [], S.asg (Tg.n 0) (E.call sb [E.var 0, E.var 3])] (.tuple [.int (k : Nat), .int s]) [some (.fz (sD p hs)), r, o2, o3] = some (.nx, [some (.fz (sD (p + s) (raiseH hs p))), r, some (.fz (.int (k : Nat))), some (.fz (.int s))]) := by
        simp only [sD, tI'] at *
        simp [turnF, e1, e2]
      unfold forN
      rw [et]
      simp only [Option.bind_some]
      unfold bar
      rw [c]
      rcases barBy_loop hil hsb r ws (k + 1) (p + s) (raiseH hs p) (some (.fz (.int (k : Nat)))) (some (.fz (.int s))) (h.step c) with ⟨q1, a2, a3, q2⟩ | ⟨a, q1, a0, a3, q2⟩
      · exact .inl ⟨by simp [q1], a2, a3, q2⟩
      · refine .inr ⟨a + 1, by simp [q1], a0, a3, ?_⟩
        rw [show k + (a + 1) = k + 1 + a by omega]
        exact q2
    | false =>
      rw [c] at e1
      have et : turnF G [] (Tg.t [Tg.n 2, Tg.n 3]) [S.iff (E.call il [E.var 0, E.var 3]).not [S.retv 2] [], S.asg (Tg.n 0) (E.call sb [E.var 0, E.var 3])] (.tuple [.int (k : Nat), .int s]) [some (.fz (sD p hs)), r, o2, o3] = some (.rt (.fz (.int (k : Nat))), [some (.fz (sD p hs)), r, none, some (.fz (.int s))]) := by
        simp only [sD, tI'] at *
        simp [turnF, e1]
      unfold forN
      rw [et]
      simp only [Option.bind_some]
      unfold bar
      rw [c]
      exact .inr ⟨0, rfl, _, _, rfl⟩
theorem barBy_run {G : Fs} {il sb : Nat} (hil : PLet G il) (hsb : PStepBy G sb) {p : Int} {hs ws : List Int} (h : IsSt p hs) : runF G (barByFn il sb) [.fz (sD p hs), .fz (tI' ws)] = some (.fz (barD p hs ws), [.fz (sD p hs), .fz (tI' ws)]) := by
  have en := enum_ints ws
  unfold barD
  rcases barBy_loop hil hsb (some (.fz (tI' ws))) ws 0 p hs none none h with ⟨q1, a2, a3, q2⟩ | ⟨a, q1, a0, a3, q2⟩
  · rw [q1]
    simp only [sD, tI'] at *
    simp [runF, barByFn, en, q2]
  · rw [q1]
    rw [Nat.zero_add] at q2
    simp only [sD, tI'] at *
    simp [runF, barByFn, en, q2]
def PBehind (G : Fs) (f : Nat) : Prop := ∀ p hs ws, IsSt p hs → IsWalk p hs ws → G f [.fz (sD p hs), .fz (tI' ws)] = some (.fz (sD (wEnd p hs ws).1 (wEnd p hs ws).2), [.fz (sD p hs), .fz (tI' ws)])
theorem behind_loop {G : Fs} {sb : Nat} (hsb : PStepBy G sb) (r : Option Vl) : ∀ (ws : List Int) (p : Int) (hs : List Int) (o2 : Option Vl), IsSt p hs → IsWalk p hs ws →
    ∃ a2, forN (turnF G [] (Tg.n 2) [S.asg (Tg.n 0) (E.call sb [E.var 0, E.var 2])]) (ws.map .int) [some (.fz (sD p hs)), r, o2] = some (.nx, [some (.fz (sD (wEnd p hs ws).1 (wEnd p hs ws).2)), r, a2])
  | [], p, hs, o2, _, _ => ⟨o2, rfl⟩
  | s :: ws, p, hs, o2, h, ⟨_, c, hw⟩ => by
    have e2 := hsb p hs s h
    have et : turnF G [] (Tg.n 2) [S.asg (Tg.n 0) (E.call sb [E.var 0, E.var 2])] (.int s) [some (.fz (sD p hs)), r, o2] = some (.nx, [some (.fz (sD (p + s) (raiseH hs p))), r, some (.fz (.int s))]) := by
      simp only [sD, tI'] at *
      simp [turnF, e2]
    rw [List.map_cons]
    unfold forN
    rw [et]
    exact behind_loop hsb r ws (p + s) (raiseH hs p) _ (h.step c) hw
theorem behind_run {G : Fs} {sb : Nat} (hsb : PStepBy G sb) {p : Int} {hs ws : List Int} (h : IsSt p hs) (hw : IsWalk p hs ws) : runF G (behindByFn sb) [.fz (sD p hs), .fz (tI' ws)] = some (.fz (sD (wEnd p hs ws).1 (wEnd p hs ws).2), [.fz (sD p hs), .fz (tI' ws)]) := by
  obtain ⟨a2, q⟩ := behind_loop hsb (some (.fz (tI' ws))) ws p hs none h hw
  simp only [sD, tI'] at *
  simp [runF, behindByFn, q]
/-! ### rows -/
def IsRow (row : List Int) : Prop := Stps row ∧ 1 ≤ row.length ∧ row.length ≤ 40
def PNeedRow (G : Fs) (f : Nat) : Prop := ∀ row, IsRow row → G f [.fz (tI' row)] = some (.fz .none, [.fz (tI' row)])
theorem needRow_run {G : Fs} {il iw : Nat} (hl : PLong G il) (hw : PIsWalk G iw) {row : List Int} (h : IsRow row) : runF G (needRowFn il iw) [.fz (tI' row)] = some (.fz .none, [.fz (tI' row)]) := by
  obtain ⟨h1, h2, h3⟩ := h
  have e1 := hl (row.map .int) 1 40 (by simp; omega) (by simp; omega)
  have e2 := hw row h1 (by omega)
  simp only [tI'] at *
  simp [runF, needRowFn, e1, e2]
def PNeedTimes (G : Fs) (f : Nat) : Prop := ∀ t : Nat, t ≤ 1000000000 → G f [.fz (.int (t : Nat))] = some (.fz .none, [.fz (.int (t : Nat))])
theorem needTimes_run {G : Fs} {iw : Nat} (hw : PWithin G iw) {t : Nat} (h : t ≤ 1000000000) : runF G (needTimesFn iw) [.fz (.int (t : Nat))] = some (.fz .none, [.fz (.int (t : Nat))]) := by
  have e1 := hw (t : Int) 0 1000000000 (by omega) (by omega)
  simp [runF, needTimesFn, e1]
/-! ### laps -/
def PLaps (G : Fs) (f : Nat) : Prop := ∀ p hs row (t : Nat), IsSt p hs → IsRow row → t ≤ 1000000000 → G f [.fz (sD p hs), .fz (tI' row), .fz (.int (t : Nat))] = some (.fz (lapsD row (p, hs) t), [.fz (sD p hs), .fz (tI' row), .fz (.int (t : Nat))])
def lapsIn (bb bb2 : Nat) : List S := [S.asg (Tg.n 5) (E.call bb [E.var 3, E.var 1]), S.iff ((E.var 5).isc .none true) [S.ret (E.tup [E.glb (.str "barred"), E.var 4, E.var 5])] [], S.asg (Tg.n 3) (E.call bb2 [E.var 3, E.var 1])]
theorem laps_loop {G : Fs} {bb bb2 : Nat} (hb : PBar G bb) (hb2 : PBehind G bb2) {row : List Int} (hr : IsRow row) (r0 r2 : Option Vl) : ∀ (n k : Nat) (st : Int × List Int) (o4 o5 : Option Vl), IsSt st.1 st.2 →
    ((∀ m < n, barN row m st = none) ∧ ∃ a4 a5, forN (turnF G [] (Tg.n 4) (lapsIn bb bb2)) ((List.range' k n).map fun (i : Nat) => .int (i : Int)) [r0, some (.fz (tI' row)), r2, some (.fz (sD st.1 st.2)), o4, o5, none, none, none, none] = some (.nx, [r0, some (.fz (tI' row)), r2, some (.fz (sD (lapE row n st).1 (lapE row n st).2)), a4, a5, none, none, none, none]))
    ∨ ((∃ m, m < n ∧ (∀ j < m, barN row j st = none) ∧ barN row m st ≠ none) ∧ ∃ a3 a4 a5, forN (turnF G [] (Tg.n 4) (lapsIn bb bb2)) ((List.range' k n).map fun (i : Nat) => .int (i : Int)) [r0, some (.fz (tI' row)), r2, some (.fz (sD st.1 st.2)), o4, o5, none, none, none, none] = some (.rt (.fz (rnd row n k st)), [r0, some (.fz (tI' row)), r2, a3, a4, a5, none, none, none, none]))
  | 0, k, st, o4, o5, h => .inl ⟨fun m hm => by omega, o4, o5, rfl⟩
  | n + 1, k, st, o4, o5, h => by
    have e1 := hb st.1 st.2 row h hr.1 (by have := hr.2.2; omega)
    unfold barD at e1
    rw [List.range'_succ, List.map_cons]
    cases c : bar st.1 st.2 row with
    | none =>
      rw [c] at e1
      have hw := (bar_walk hr.1).mp c
      have e2 := hb2 st.1 st.2 row h hw
      have et : turnF G [] (Tg.n 4) (lapsIn bb bb2) (.int (k : Nat)) [r0, some (.fz (tI' row)), r2, some (.fz (sD st.1 st.2)), o4, o5, none, none, none, none] = some (.nx, [r0, some (.fz (tI' row)), r2, some (.fz (sD (wEnd st.1 st.2 row).1 (wEnd st.1 st.2 row).2)), some (.fz (.int (k : Nat))), some (.fz .none), none, none, none, none]) := by
        simp only [sD, tI'] at *
        simp [turnF, lapsIn, e1, e2]
      unfold forN
      rw [et]
      simp only [Option.bind_some]
      unfold rnd
      rw [c]
      rcases laps_loop hb hb2 hr r0 r2 n (k + 1) (wEnd st.1 st.2 row) (some (.fz (.int (k : Nat)))) (some (.fz .none)) (walk_end h hw) with ⟨q1, q2⟩ | ⟨⟨m, q1, q2, q3⟩, q4⟩
      · refine .inl ⟨fun m hm => ?_, q2⟩
        cases m with
        | zero => exact c
        | succ m => exact q1 m (by omega)
      · refine .inr ⟨⟨m + 1, by omega, fun j hj => ?_, q3⟩, q4⟩
        cases j with
        | zero => exact c
        | succ j => exact q2 j (by omega)
    | some a =>
      rw [c] at e1
      have z3 : okSz 3 = true := by decide
      have et : turnF G [] (Tg.n 4) (lapsIn bb bb2) (.int (k : Nat)) [r0, some (.fz (tI' row)), r2, some (.fz (sD st.1 st.2)), o4, o5, none, none, none, none] = some (.rt (.fz (.tuple [.str "barred", .int (k : Nat), .int (a : Nat)])), [r0, some (.fz (tI' row)), r2, some (.fz (sD st.1 st.2)), some (.fz (.int (k : Nat))), some (.fz (.int (a : Nat))), none, none, none, none]) := by
        simp only [sD, tI'] at *
        simp [turnF, lapsIn, e1, z3]
      unfold forN
      rw [et]
      simp only [Option.bind_some]
      unfold rnd
      rw [c]
      refine .inr ⟨⟨0, by omega, fun j hj => by omega, ?_⟩, _, _, _, rfl⟩
      show bar st.1 st.2 row ≠ none
      rw [c]
      exact fun z => by cases z
theorem addN_on : ∀ (hs g : List Int) (n : Int), (List.zip (addN hs 5 g) (addN hs 6 g)).map (fun x => x.1 + n * (x.2 - x.1)) = addN hs (5 + n) g
  | [], g, n => by unfold addN; simp
  | _ :: _, [], n => by unfold addN; simp
  | a :: hs, b :: g, n => by
    have ih := addN_on hs g n
    unfold addN at ih ⊢
    simp only [List.zipWith_cons_cons, List.zip_cons_cons, List.map_cons, ih]
    congr 1
    have e1 : a + 6 * b - (a + 5 * b) = b := by omega
    rw [e1, Int.add_mul]
    omega
theorem rnd_ge {row : List Int} {st : Int × List Int} {m t : Nat} (h1 : m < 5) (h2 : ∀ j < m, barN row j st = none) (h3 : barN row m st ≠ none) (ht : 5 ≤ t) : rnd row t 0 st = rnd row 5 0 st := by
  cases c : barN row m st with
  | none => exact (h3 c).elim
  | some a => rw [rnd_bar row m t 0 st a (by omega) h2 c, rnd_bar row m 5 0 st a h1 h2 c]
theorem laps_run {G : Fs} {ns nr nt bb bb2 : Nat} (hns : PNeed G ns) (hnr : PNeedRow G nr) (hnt : PNeedTimes G nt) (hb : PBar G bb) (hb2 : PBehind G bb2) {p : Int} {hs row : List Int} {t : Nat} (h : IsSt p hs) (hr : IsRow row) (ht : t ≤ 1000000000) :
    runF G (lapsFn ns nr nt bb bb2) [.fz (sD p hs), .fz (tI' row), .fz (.int (t : Nat))] = some (.fz (lapsD row (p, hs) t), [.fz (sD p hs), .fz (tI' row), .fz (.int (t : Nat))]) := by
  have e1 := hns p hs h
  have e2 := hnr row hr
  have e3 := hnt t ht
  have z2 : okSz 2 = true := by decide
  unfold lapsD
  by_cases c5 : t ≤ 5
  · have en : ((if 5 < (t : Int) then 5 else (t : Int)) : Int) = ((t : Nat) : Int) := by rw [if_neg (by omega)]
    have sm := small_ok (n := (t : Int)) (by omega) (by omega)
    have er := rangeD_nat t
    rw [List.range_eq_range'] at er
    have c5' : ((t : Nat) : Int) ≤ 5 := by omega
    have hm : ev G (E.bi Bi.min [E.var 2, E.glb (.int 5)]) [some (.fz (sD p hs)), some (.fz (tI' row)), some (.fz (.int (t : Nat))), some (.fz (sD p hs)), none, none, none, none, none, none] = some (.st (.fz (.int (t : Nat))), [some (.fz (sD p hs)), some (.fz (tI' row)), some (.fz (.int (t : Nat))), some (.fz (sD p hs)), none, none, none, none, none, none]) := by
      simp [sD, tI', en]
    have ei := its_rg1_of hm sm
    rw [er] at ei
    rcases laps_loop hb hb2 hr (some (.fz (sD p hs))) (some (.fz (.int (t : Nat)))) t 0 (p, hs) none none h with ⟨q1, a4, a5, q2⟩ | ⟨-, a3, a4, a5, q2⟩
    · rw [rnd_done row t 0 _ q1]
      simp only [sD, tI', lapsIn] at *
      simp [-its_rg1, runF, lapsFn, e1, e2, e3, ei, q2, c5', z2]
      try omega
    · simp only [sD, tI', lapsIn] at *
      simp [-its_rg1, runF, lapsFn, e1, e2, e3, ei, q2]
  · have en : ((if 5 < (t : Int) then 5 else (t : Int)) : Int) = ((5 : Nat) : Int) := by rw [if_pos (by omega)]; rfl
    have sm := small_ok (n := ((5 : Nat) : Int)) (by omega) (by omega)
    have er := rangeD_nat 5
    rw [List.range_eq_range'] at er
    have c5' : ¬ ((t : Nat) : Int) ≤ 5 := by omega
    have hm : ev G (E.bi Bi.min [E.var 2, E.glb (.int 5)]) [some (.fz (sD p hs)), some (.fz (tI' row)), some (.fz (.int (t : Nat))), some (.fz (sD p hs)), none, none, none, none, none, none] = some (.st (.fz (.int ((5 : Nat) : Int))), [some (.fz (sD p hs)), some (.fz (tI' row)), some (.fz (.int (t : Nat))), some (.fz (sD p hs)), none, none, none, none, none, none]) := by
      simp [sD, tI']
      omega
    have ei := its_rg1_of hm sm
    rw [er] at ei
    rcases laps_loop hb hb2 hr (some (.fz (sD p hs))) (some (.fz (.int (t : Nat)))) 5 0 (p, hs) none none h with ⟨q1, a4, a5, q2⟩ | ⟨⟨m, w1, w2, w3⟩, a3, a4, a5, q2⟩
    · have go := laps_go hr.1 h q1
      have e5 : lapE row 5 (p, hs) = (p, addN hs 5 (gain row (p, hs))) := (go 5).1
      have e6 : lapE row 6 (p, hs) = (p, addN hs 6 (gain row (p, hs))) := (go 6).1
      rw [lapE_succ] at e6
      have hst := lapE_st hr.1 h 5 q1
      have hw : IsWalk (lapE row 5 (p, hs)).1 (lapE row 5 (p, hs)).2 row := (bar_walk hr.1).mp (go 5).2
      have eb := hb2 _ _ row hst hw
      rw [e6, e5] at eb
      rw [e5] at q2
      have gn : ∀ m < t, barN row m (p, hs) = none := fun m _ => (go m).2
      rw [rnd_done row t 0 _ gn, (go t).1]
      have ew := addN_on hs (gain row (p, hs)) ((t : Int) - 5)
      rw [show (5 : Int) + ((t : Int) - 5) = (t : Int) by omega] at ew
      have em : ∀ x : Int, binD .mul (.int ((t : Int) - 5)) (.int x) = some (.fz (.int (((t : Int) - 5) * x))) := fun x => binD_mulL (by omega)
      have ez := pairs_ints (addN hs 5 (gain row (p, hs))) (addN hs 6 (gain row (p, hs)))
      have hlen : ((addN hs 5 (gain row (p, hs))).zip (addN hs 6 (gain row (p, hs)))).length ≤ 16777216 := by
        have a1 : (addN hs 5 (gain row (p, hs))).length = hs.length := addN_len _ (gain_len row (p, hs))
        rw [List.length_zip, a1]
        have := h.1.2.1
        omega
      have ec : ev G ((E.bin Bop.add (E.var 8) (E.bin Bop.mul (E.var 7) (E.bin Bop.sub (E.var 9) (E.var 8)))).comp (Tg.t [Tg.n 8, Tg.n 9]) (It.zp ((E.var 3).idx (cI 1)) (E.var 6)) none [8, 9] false) [some (.fz (sD p hs)), some (.fz (tI' row)), some (.fz (.int (t : Nat))), some (.fz (sD p (addN hs 5 (gain row (p, hs))))), a4, a5, some (.fz (tI' (addN hs 6 (gain row (p, hs))))), some (.fz (.int ((t : Int) - 5))), none, none]
          = some (.st (.ol (((addN hs 5 (gain row (p, hs))).zip (addN hs 6 (gain row (p, hs)))).map fun x => .int (x.1 + ((t : Int) - 5) * (x.2 - x.1)))), [some (.fz (sD p hs)), some (.fz (tI' row)), some (.fz (.int (t : Nat))), some (.fz (sD p (addN hs 5 (gain row (p, hs))))), a4, a5, some (.fz (tI' (addN hs 6 (gain row (p, hs))))), some (.fz (.int ((t : Int) - 5))), none, none]) := by
        refine ev_comp_map _ (fun x : Int × Int => .tuple [.int x.1, .int x.2]) _ ?_ (fun x hx => ?_) hlen
        · simp only [sD, tI']
          simp [ez, Vl.strip]
        · simp only [sD, tI']
          simp [turn0, wipeF, wipeP, em]
      have ef : (((addN hs 5 (gain row (p, hs))).zip (addN hs 6 (gain row (p, hs)))).map fun x => PyData.int (x.1 + ((t : Int) - 5) * (x.2 - x.1))) = (addN hs (t : Int) (gain row (p, hs))).map .int := by
        rw [← ew, List.map_map]
        rfl
      rw [ef] at ec
      simp only [sD, tI', lapsIn] at *
      simp [-its_rg1, runF, lapsFn, e1, e2, e3, ei, q2, c5', z2, eb, ec]
    · rw [rnd_ge w1 w2 w3 (by omega)]
      simp only [sD, tI', lapsIn] at *
      simp [-its_rg1, runF, lapsFn, e1, e2, e3, ei, q2]
end Tr

set_option Elab.async false
set_option linter.all false
set_option maxRecDepth 100000
set_option maxHeartbeats 4000000
/-! Rows and laps: the laws' own defs. -/
namespace Tr
open PySem
/-- the stand ahead of the step that bars, or behind all -/
def wTo (p : Int) (hs : List Int) : List Int → Int × List Int
  | [] => (p, hs)
  | s :: ws => if letB p hs s then wTo (p + s) (raiseH hs p) ws else (p, hs)
theorem wTo_end : ∀ {ws : List Int} {p : Int} {hs : List Int}, bar p hs ws = none → wTo p hs ws = wEnd p hs ws
  | [], _, _, _ => rfl
  | s :: ws, p, hs, h => by
    unfold bar at h
    unfold wTo
    cases c : letB p hs s with
    | false => rw [c] at h; simp at h
    | true =>
      rw [c] at h
      simp only [if_true, Option.map_eq_none_iff] at h ⊢
      exact wTo_end h
def PLawBar (G : Fs) (f : Nat) : Prop := ∀ p hs ws, IsSt p hs → Stps ws → ws.length ≤ 1000 → G f [.fz (sD p hs), .fz (tI' ws)] = some (.fz (.tuple [barD p hs ws, sD (wTo p hs ws).1 (wTo p hs ws).2]), [.fz (sD p hs), .fz (tI' ws)])
def lawBarIn (ll ls : Nat) : List S := [S.iff (E.call ll [E.var 0, E.var 3]).not [S.ret (E.tup [E.var 2, E.var 0])] [], S.asg (Tg.n 0) (E.call ls [E.var 0, E.var 3])]
theorem lawBar_loop {G : Fs} {il sb : Nat} (hil : PLet G il) (hsb : PStepBy G sb) (r : Option Vl) : ∀ (ws : List Int) (k : Nat) (p : Int) (hs : List Int) (o2 o3 : Option Vl), IsSt p hs →
    (bar p hs ws = none ∧ ∃ a2 a3, forN (turnF G [] (Tg.t [Tg.n 2, Tg.n 3]) (lawBarIn il sb)) ((ws.zipIdx k).map fun x => .tuple [.int (x.2 : Nat), .int x.1]) [some (.fz (sD p hs)), r, o2, o3] = some (.nx, [some (.fz (sD (wTo p hs ws).1 (wTo p hs ws).2)), r, a2, a3]))
    ∨ ∃ a, bar p hs ws = some a ∧ ∃ a0 a2 a3, forN (turnF G [] (Tg.t [Tg.n 2, Tg.n 3]) (lawBarIn il sb)) ((ws.zipIdx k).map fun x => .tuple [.int (x.2 : Nat), .int x.1]) [some (.fz (sD p hs)), r, o2, o3] = some (.rt (.fz (.tuple [.int ((k + a : Nat) : Int), sD (wTo p hs ws).1 (wTo p hs ws).2])), [a0, r, a2, a3])
  | [], k, p, hs, o2, o3, h => .inl ⟨rfl, o2, o3, rfl⟩
  | s :: ws, k, p, hs, o2, o3, h => by
    have e1 := hil p hs s h
    have e2 := hsb p hs s h
    have z2 : okSz 2 = true := by decide
    rw [List.zipIdx_cons, List.map_cons]
    cases c : letB p hs s with
    | true =>
      rw [c] at e1
      have et : turnF G [] (Tg.t [Tg.n 2, Tg.n 3]) (lawBarIn il sb) (.tuple [.int (k : Nat), .int s]) [some (.fz (sD p hs)), r, o2, o3] = some (.nx, [some (.fz (sD (p + s) (raiseH hs p))), r, some (.fz (.int (k : Nat))), some (.fz (.int s))]) := by
        simp only [sD, tI'] at *
        simp [turnF, lawBarIn, e1, e2]
      have e3 : wTo p hs (s :: ws) = wTo (p + s) (raiseH hs p) ws := by
        conv => lhs; unfold wTo
        rw [c]
        rfl
      rw [e3]
      unfold forN
      rw [et]
      simp only [Option.bind_some]
      unfold bar
      rw [c]
      rcases lawBar_loop hil hsb r ws (k + 1) (p + s) (raiseH hs p) (some (.fz (.int (k : Nat)))) (some (.fz (.int s))) (h.step c) with ⟨q1, a2, a3, q2⟩ | ⟨a, q1, a0, a2, a3, q2⟩
      · exact .inl ⟨by simp [q1], a2, a3, q2⟩
      · refine .inr ⟨a + 1, by simp [q1], a0, a2, a3, ?_⟩
        rw [show k + (a + 1) = k + 1 + a by omega]
        exact q2
    | false =>
      rw [c] at e1
      have et : turnF G [] (Tg.t [Tg.n 2, Tg.n 3]) (lawBarIn il sb) (.tuple [.int (k : Nat), .int s]) [some (.fz (sD p hs)), r, o2, o3] = some (.rt (.fz (.tuple [.int (k : Nat), sD p hs])), [some (.fz (sD p hs)), r, some (.fz (.int (k : Nat))), some (.fz (.int s))]) := by
        simp only [sD, tI'] at *
        simp [turnF, lawBarIn, e1, z2]
      have e3 : wTo p hs (s :: ws) = (p, hs) := by
        conv => lhs; unfold wTo
        rw [c]
        rfl
      rw [e3]
      unfold forN
      rw [et]
      simp only [Option.bind_some]
      unfold bar
      rw [c]
      exact .inr ⟨0, rfl, _, _, _, rfl⟩
theorem lawBar_run {G : Fs} {il sb : Nat} (hil : PLet G il) (hsb : PStepBy G sb) {p : Int} {hs ws : List Int} (h : IsSt p hs) : runF G (lawBarFn il sb) [.fz (sD p hs), .fz (tI' ws)] = some (.fz (.tuple [barD p hs ws, sD (wTo p hs ws).1 (wTo p hs ws).2]), [.fz (sD p hs), .fz (tI' ws)]) := by
  have en := enum_ints ws
  have z2 : okSz 2 = true := by decide
  unfold barD
  rcases lawBar_loop hil hsb (some (.fz (tI' ws))) ws 0 p hs none none h with ⟨q1, a2, a3, q2⟩ | ⟨a, q1, a0, a2, a3, q2⟩
  · rw [q1]
    simp only [sD, tI', lawBarIn] at *
    simp [runF, lawBarFn, en, q2, z2]
  · rw [q1]
    rw [Nat.zero_add] at q2
    simp only [sD, tI', lawBarIn] at *
    simp [runF, lawBarFn, en, q2]
/-! ### lap by lap -/
def PRounds (G : Fs) (f : Nat) : Prop := ∀ p hs row (t : Nat), IsSt p hs → IsRow row → t ≤ 1000 → G f [.fz (sD p hs), .fz (tI' row), .fz (.int (t : Nat))] = some (.fz (rnd row t 0 (p, hs)), [.fz (sD p hs), .fz (tI' row), .fz (.int (t : Nat))])
def roundsIn (lb : Nat) : List S := [S.asg (Tg.t [Tg.n 4, Tg.n 5]) (E.call lb [E.var 0, E.var 1]), S.iff ((E.var 4).isc .none true) [S.ret (E.tup [E.con (.str "barred"), E.var 3, E.var 4])] [], S.asg (Tg.n 0) (E.var 5)]
theorem rounds_loop {G : Fs} {lb : Nat} (hb : PLawBar G lb) {row : List Int} (hr : IsRow row) (r2 : Option Vl) : ∀ (n k : Nat) (st : Int × List Int) (o3 o4 o5 : Option Vl), IsSt st.1 st.2 →
    (∃ (st' : Int × List Int) (a3 a4 a5 : Option Vl), forN (turnF G [] (Tg.n 3) (roundsIn lb)) ((List.range' k n).map fun (i : Nat) => .int (i : Int)) [some (.fz (sD st.1 st.2)), some (.fz (tI' row)), r2, o3, o4, o5] = some (.nx, [some (.fz (sD st'.1 st'.2)), some (.fz (tI' row)), r2, a3, a4, a5]) ∧ rnd row n k st = .tuple [.str "done", sD st'.1 st'.2])
    ∨ (∃ a0 a3 a4 a5, forN (turnF G [] (Tg.n 3) (roundsIn lb)) ((List.range' k n).map fun (i : Nat) => .int (i : Int)) [some (.fz (sD st.1 st.2)), some (.fz (tI' row)), r2, o3, o4, o5] = some (.rt (.fz (rnd row n k st)), [a0, some (.fz (tI' row)), r2, a3, a4, a5]))
  | 0, k, st, o3, o4, o5, h => .inl ⟨st, o3, o4, o5, rfl, rfl⟩
  | n + 1, k, st, o3, o4, o5, h => by
    have e1 := hb st.1 st.2 row h hr.1 (by have := hr.2.2; omega)
    unfold barD at e1
    rw [List.range'_succ, List.map_cons]
    cases c : bar st.1 st.2 row with
    | none =>
      rw [c] at e1
      have hw := (bar_walk hr.1).mp c
      rw [wTo_end c] at e1
      have et : turnF G [] (Tg.n 3) (roundsIn lb) (.int (k : Nat)) [some (.fz (sD st.1 st.2)), some (.fz (tI' row)), r2, o3, o4, o5] = some (.nx, [some (.fz (sD (wEnd st.1 st.2 row).1 (wEnd st.1 st.2 row).2)), some (.fz (tI' row)), r2, some (.fz (.int (k : Nat))), some (.fz .none), some (.fz (sD (wEnd st.1 st.2 row).1 (wEnd st.1 st.2 row).2))]) := by
        simp only [sD, tI'] at *
        simp [turnF, roundsIn, e1]
      unfold forN
      rw [et]
      simp only [Option.bind_some]
      unfold rnd
      rw [c]
      exact rounds_loop hb hr r2 n (k + 1) (wEnd st.1 st.2 row) _ _ _ (walk_end h hw)
    | some a =>
      rw [c] at e1
      have z3 : okSz 3 = true := by decide
      have et : turnF G [] (Tg.n 3) (roundsIn lb) (.int (k : Nat)) [some (.fz (sD st.1 st.2)), some (.fz (tI' row)), r2, o3, o4, o5] = some (.rt (.fz (.tuple [.str "barred", .int (k : Nat), .int (a : Nat)])), [some (.fz (sD st.1 st.2)), some (.fz (tI' row)), r2, some (.fz (.int (k : Nat))), some (.fz (.int (a : Nat))), some (.fz (sD (wTo st.1 st.2 row).1 (wTo st.1 st.2 row).2))]) := by
        simp only [sD, tI'] at *
        simp [turnF, roundsIn, e1, z3]
      unfold forN
      rw [et]
      simp only [Option.bind_some]
      unfold rnd
      rw [c]
      exact .inr ⟨_, _, _, _, rfl⟩
theorem its_rg1_var {G : Fs} {i : Nat} {fr : Fm} {n : Int} (h : fr[i]? = some (some (.fz (.int n)))) (hs : smallI n = true) : its G (.rg1 (.var i)) fr = some (rangeD 0 n, fr) := by
  rw [its_rg1]
  have e : ev G (.var i) fr = some (.sl i, fr) := by
    unfold ev
    rw [h]
  rw [e]
  have e2 : look fr (.sl i) = some (.int n) := by
    unfold look
    dsimp only
    rw [h]
    rfl
  simp only [Option.bind_some, e2]
  rw [if_pos hs]
theorem rounds_run {G : Fs} {lb : Nat} (hb : PLawBar G lb) {p : Int} {hs row : List Int} {t : Nat} (h : IsSt p hs) (hr : IsRow row) (ht : t ≤ 1000) : runF G (lawRoundsFn lb) [.fz (sD p hs), .fz (tI' row), .fz (.int (t : Nat))] = some (.fz (rnd row t 0 (p, hs)), [.fz (sD p hs), .fz (tI' row), .fz (.int (t : Nat))]) := by
  have sm := small_ok (n := (t : Int)) (by omega) (by omega)
  have er := rangeD_nat t
  rw [List.range_eq_range'] at er
  have z2 : okSz 2 = true := by decide
  have ei : its G (It.rg1 (E.var 2)) [some (.fz (sD p hs)), some (.fz (tI' row)), some (.fz (.int (t : Nat))), none, none, none] = some ((List.range' 0 t).map fun (i : Nat) => .int (i : Int), [some (.fz (sD p hs)), some (.fz (tI' row)), some (.fz (.int (t : Nat))), none, none, none]) := by
    rw [← er]
    exact its_rg1_var rfl sm
  rcases rounds_loop hb hr (some (.fz (.int (t : Nat)))) t 0 (p, hs) none none none h with ⟨st', a3, a4, a5, q1, q2⟩ | ⟨a0, a3, a4, a5, q1⟩
  · rw [q2]
    simp only [sD, tI', roundsIn] at *
    simp [-its_rg1, runF, lawRoundsFn, ei, q1, z2]
  · simp only [sD, tI', roundsIn] at *
    simp [-its_rg1, runF, lawRoundsFn, ei, q1]
/-! ### rows drawn -/
def lawRowFn (ld lw ls : Nat) : Fn := ⟨2, 10, [S.par [2, 3] [E.call ld [E.var 0, cI 6], E.bi Bi.tuple [((E.lst [nI 1, cI 1]).idx (E.call ld [E.var 0, cI 2])).comp (Tg.n 4) (It.rg1 (E.bin Bop.add (cI 1) (E.call ld [E.var 0, cI 5]))) none [4] false]], S.asg (Tg.n 5) ((E.call lw [E.var 0, E.var 1, (E.lst [cI 4, cI 9, cI 40]).idx (E.call ld [E.var 0, cI 3])]).idx (cI 0)), S.asg (Tg.n 6) (E.bin Bop.add ((E.var 5).slc none (some (cI 20)) false) (E.bi Bi.tuple [(E.bin Bop.sub (cI 0) (E.var 7)).comp (Tg.n 7) (It.li (((E.var 5).slc none (some (cI 20)) false).slc none none true)) none [7] false])), S.asg (Tg.n 8) (E.bin Bop.add ((E.var 7).comp (Tg.n 7) (It.li (E.call ls [E.var 1])) none [7] false) (E.lst [cI 1])), S.asg (Tg.n 9) (E.bin Bop.mul (E.tup [(E.var 8).idx (cI 0), E.bin Bop.sub (cI 0) ((E.var 8).idx (cI 0))]) (E.bin Bop.add (cI 1) (E.call ld [E.var 0, cI 20]))), S.ret ((E.lst [E.var 3, (E.var 5).or (E.var 3), (E.var 6).or (E.var 3), E.var 9, E.var 9, (E.bin Bop.mul (E.var 3) (cI 40)).slc none (some (cI 40)) false]).idx (E.var 2))]⟩
def PRow (G : Fs) (f : Nat) : Prop := ∀ (x : Vl) (p : Int) (hs : List Int), IsPen x → IsSt p hs → ∃ (row : List Int) (x' : Vl), G f [x, .fz (sD p hs)] = some (.fz (tI' row), [x', .fz (sD p hs)]) ∧ IsRow row ∧ IsPen x'
theorem ints_of : ∀ {vs : List D}, (∀ v ∈ vs, ∃ s, v = .int s ∧ IsStp s) → ∃ ws : List Int, vs = ws.map .int ∧ Stps ws ∧ ws.length = vs.length
  | [], _ => ⟨[], rfl, fun s h => (by cases h), rfl⟩
  | v :: vs, h => by
    obtain ⟨s, rfl, hs⟩ := h v List.mem_cons_self
    obtain ⟨ws, rfl, h2, h3⟩ := ints_of fun w hw => h w (List.mem_cons_of_mem _ hw)
    refine ⟨s :: ws, rfl, fun x hx => ?_, by simp⟩
    rcases List.mem_cons.mp hx with rfl | hx
    · exact hs
    · exact h2 x hx
theorem stp_neg {s : Int} (h : IsStp s) : IsStp (0 - s) := by
  rcases h with rfl | rfl
  · exact .inr rfl
  · exact .inl rfl
theorem truD_ints (ws : List Int) : truD (.tuple (ws.map .int)) = !ws.isEmpty := by cases ws <;> rfl
theorem row_run {G : Fs} {ld lw ls : Nat} (hd : PDraw G ld) (hw : PWalk G lw) (hls : PLawSteps G ls) {x : Vl} {p : Int} {hs : List Int} (hx : IsPen x) (h : IsSt p hs) :
    ∃ (row : List Int) (x' : Vl), runF G (lawRowFn ld lw ls) [x, .fz (sD p hs)] = some (.fz (tI' row), [x', .fz (sD p hs)]) ∧ IsRow row ∧ IsPen x' := by
  obtain ⟨way, x1, d1, w0, w1, hx1⟩ := hd x 6 hx (by decide) (by decide)
  obtain ⟨n, x2, d2, n0, n1, hx2⟩ := hd x1 5 hx1 (by decide) (by decide)
  have z2 : okSz 2 = true := by decide
  have z3 : okSz 3 = true := by decide
  have z6 : okSz 6 = true := by decide
  have z1 : okSz 1 = true := by decide
  -- the steps drawn
  have ec : ∃ (some' : List Int) (x3 : Vl), ev G (((E.lst [nI 1, cI 1]).idx (E.call ld [E.var 0, cI 2])).comp (Tg.n 4) (It.rg1 (E.bin Bop.add (cI 1) (E.call ld [E.var 0, cI 5]))) none [4] false) [some x1, some (.fz (sD p hs)), none, none, none, none, none, none, none, none] = some (.st (.ol (some'.map .int)), [some x3, some (.fz (sD p hs)), none, none, none, none, none, none, none, none]) ∧ Stps some' ∧ 1 ≤ some'.length ∧ some'.length ≤ 5 ∧ IsPen x3 := by
    have ei : its G (It.rg1 (E.bin Bop.add (cI 1) (E.call ld [E.var 0, cI 5]))) [some x1, some (.fz (sD p hs)), none, none, none, none, none, none, none, none] = some (rangeD 0 (1 + n), [some x2, some (.fz (sD p hs)), none, none, none, none, none, none, none, none]) := by
      obtain ⟨a, b, c, rfl, -, -⟩ := id hx1
      obtain ⟨a, b, c, rfl, -, -⟩ := id hx2
      refine its_rg1_of ?_ (small_ok (by omega) (by omega))
      simp [d2]
    obtain ⟨vs, g, e, l, pv, y, o4, rfl, hy⟩ := ev_comp_inv (elt := (E.lst [nI 1, cI 1]).idx (E.call ld [E.var 0, cI 2])) (tg := Tg.n 4) (cond := none) (ws := [4]) (fun v => ∃ s, v = .int s ∧ IsStp s) (fun g => ∃ (y : Vl) (o4 : Option Vl), g = [some y, some (.fz (sD p hs)), none, none, o4, none, none, none, none, none] ∧ IsPen y) ei ⟨x2, none, rfl, hx2⟩ (by
      rintro d g ⟨y, o4, rfl, hy⟩ hdm
      obtain ⟨i, rfl, -, -⟩ := mem_range hdm
      obtain ⟨r, y', e, r0, r1, hy'⟩ := hd y 2 hy (by decide) (by decide)
      obtain ⟨a, b, c, rfl, -, -⟩ := id hy
      obtain ⟨a', b', c', rfl, -, -⟩ := id hy'
      have hr : r = 0 ∨ r = 1 := by omega
      rcases hr with rfl | rfl
      · refine ⟨.int (-1), _, ?_, ⟨-1, rfl, .inl rfl⟩, ⟨_, some (.fz (.int i)), rfl, hy'⟩⟩
        have ix : idxD (.list [.int (-1), .int 1]) (.int 0) = some (.int (-1)) := rfl
        simp [turn0, wipeF, wipeP, e, z2, ix]
      · refine ⟨.int 1, _, ?_, ⟨1, rfl, .inr rfl⟩, ⟨_, some (.fz (.int i)), rfl, hy'⟩⟩
        have ix : idxD (.list [.int (-1), .int 1]) (.int 1) = some (.int 1) := rfl
        simp [turn0, wipeF, wipeP, e, z2, ix]) (by rw [rangeD_length]; omega)
    obtain ⟨ws, rfl, s1, s2⟩ := ints_of pv
    rw [rangeD_length] at l
    refine ⟨ws, y, ?_, s1, by omega, by omega, hy⟩
    rw [e]
    rfl
  obtain ⟨sm, x3, ec, s1, s2, s3, hx3⟩ := ec
  obtain ⟨j, x4, d4, j0, j1, hx4⟩ := hd x3 3 hx3 (by decide) (by decide)
  obtain ⟨mm, im, m0, m1⟩ : ∃ mm, idxD (.list [.int 4, .int 9, .int 40]) (.int j) = some (.int mm) ∧ 0 ≤ mm ∧ mm ≤ 40 := by
    have : j = 0 ∨ j = 1 ∨ j = 2 := by omega
    rcases this with rfl | rfl | rfl
    · exact ⟨4, rfl, by decide, by decide⟩
    · exact ⟨9, rfl, by decide, by decide⟩
    · exact ⟨40, rfl, by decide, by decide⟩
  obtain ⟨mine, x5, ew, hmw, hml, hx5⟩ := hw x4 p hs mm hx4 h m0 (by omega)
  have mst := hmw.stps
  let cut := mine.take 20
  have ecut : cutL (mine.map PyData.int) none (some 20) = cut.map .int := by
    rw [cutL_to _ (by decide), List.map_take]
    rfl
  have cl : cut.length ≤ 20 := List.length_take_le _ _
  have cst : Stps cut := fun s hs => mst s (List.mem_of_mem_take hs)
  have ethere : ∀ (o0 o2 o3 : Option Vl), ev G ((E.bin Bop.sub (cI 0) (E.var 7)).comp (Tg.n 7) (It.li (((E.var 5).slc none (some (cI 20)) false).slc none none true)) none [7] false) [o0, some (.fz (sD p hs)), o2, o3, none, some (.fz (tI' mine)), none, none, none, none] = some (.st (.ol ((cut.reverse.map fun s => 0 - s).map .int)), [o0, some (.fz (sD p hs)), o2, o3, none, some (.fz (tI' mine)), none, none, none, none]) := by
    intro o0 o2 o3
    rw [List.map_map]
    refine ev_comp_map cut.reverse .int _ ?_ (fun s _ => ?_) (by rw [List.length_reverse]; omega)
    · have er : ∀ xs : List D, slcD true none none (.tuple xs) = some (.fz (.tuple xs.reverse)) := fun _ => rfl
      simp only [tI']
      simp [ecut, er]
    · simp [turn0, wipeF, wipeP]
  let there := cut ++ cut.reverse.map fun s => 0 - s
  have tst : Stps there := fun s hs => by
    rcases List.mem_append.mp hs with hs | hs
    · exact cst s hs
    · obtain ⟨t, ht, rfl⟩ := List.mem_map.mp hs
      exact stp_neg (cst t (List.mem_reverse.mp ht))
  have tl : there.length ≤ 40 := by simp only [there, List.length_append, List.length_map, List.length_reverse]; omega
  have elet := hls p hs h
  have esides : ∀ (o0 o2 o3 o6 : Option Vl), ev G ((E.var 7).comp (Tg.n 7) (It.li (E.call ls [E.var 1])) none [7] false) [o0, some (.fz (sD p hs)), o2, o3, none, some (.fz (tI' mine)), o6, none, none, none] = some (.st (.ol ((lets p hs).map .int)), [o0, some (.fz (sD p hs)), o2, o3, none, some (.fz (tI' mine)), o6, none, none, none]) := by
    intro o0 o2 o3 o6
    refine ev_comp_map (lets p hs) .int _ ?_ (fun s _ => ?_) ?_
    · simp only [sD, tI'] at *
      simp [elet]
    · simp [turn0, wipeF, wipeP]
    · have : (lets p hs).length ≤ 2 := List.length_filter_le _ _
      omega
  obtain ⟨sd, rest, eside, hsd⟩ : ∃ sd rest, (lets p hs).map PyData.int ++ [.int 1] = .int sd :: rest ∧ IsStp sd := by
    cases c : lets p hs with
    | nil => exact ⟨1, [], rfl, .inr rfl⟩
    | cons a l => exact ⟨a, l.map .int ++ [.int 1], rfl, (lets_stp (p := p) (hs := hs) (by rw [c]; exact List.mem_cons_self)).1⟩
  obtain ⟨q, x6, d6, q0, q1, hx6⟩ := hd x5 20 hx5 (by decide) (by decide)
  have ix0 : idxD (.list (.int sd :: rest)) (.int 0) = some (.int sd) := by
    simp only [idxD, List.length_cons]
    rw [place_ok (by omega) (by omega)]
    rfl
  have esw : binD .mul (.tuple [.int sd, .int (-sd)]) (.int (1 + q)) = some (.fz (.tuple ((repI (1 + q) [sd, -sd]).map .int))) := by
    have e1 := repD_map (1 + q) [sd, -sd]
    rw [← e1]
    show (if decide (-1000 ≤ 1 + q) && decide (1 + q ≤ 1000) && decide ([PyData.int sd, PyData.int (-sd)].length ≤ 1000) then _ else _) = _
    rw [if_pos (by simp; omega)]
    rfl
  have esm : binD .mul (.tuple (sm.map .int)) (.int 40) = some (.fz (.tuple ((repI 40 sm).map .int))) := by
    rw [← repD_map 40 sm]
    show (if decide ((-1000 : Int) ≤ 40) && decide ((40 : Int) ≤ 1000) && decide ((sm.map PyData.int).length ≤ 1000) then _ else _) = _
    rw [if_pos (by simp; omega)]
  have ecut2 : cutL ((repI 40 sm).map PyData.int) none (some 40) = ((repI 40 sm).take 40).map .int := by
    rw [cutL_to _ (by decide), List.map_take]
    rfl
  obtain ⟨la, hla⟩ : ∃ la, la = (repI 40 sm).take 40 := ⟨_, rfl⟩
  have r1 : IsRow sm := ⟨s1, s2, by omega⟩
  have r2 : IsRow (if mine.isEmpty then sm else mine) := by
    cases mine with
    | nil => exact r1
    | cons a l =>
      show IsRow (a :: l)
      exact ⟨mst, by simp, by omega⟩
  have r3 : IsRow (if there.isEmpty then sm else there) := by
    cases c : there with
    | nil => exact r1
    | cons a l =>
      rw [c] at tst tl
      show IsRow (a :: l)
      exact ⟨tst, by simp, tl⟩
  have r4 : IsRow (repI (1 + q) [sd, -sd]) := by
    refine ⟨fun s hs => ?_, ?_, ?_⟩
    · have := repI_mem hs
      simp only [List.mem_cons, List.not_mem_nil, or_false] at this
      rcases this with rfl | rfl
      · exact hsd
      · have := stp_neg hsd; rwa [Int.zero_sub] at this
    · rw [repI_len]; simp only [List.length_cons, List.length_nil]; omega
    · rw [repI_len]; simp only [List.length_cons, List.length_nil]; omega
  have r5 : IsRow ((repI 40 sm).take 40) := by
    refine ⟨fun s hs => s1 s (repI_mem (List.mem_of_mem_take hs)), ?_, List.length_take_le _ _⟩
    rw [List.length_take, repI_len]
    have : (40 : Int).toNat = 40 := rfl
    rw [this]
    omega
  rw [← hla] at ecut2 r5
  clear hla
  have t1 := truD_ints mine
  have t2 := truD_ints there
  have zB : okSz ((lets p hs).length + 1) = true := okSz_ok (by have : (lets p hs).length ≤ 2 := List.length_filter_le _ _; omega)
  have em2 : (cut.map PyData.int ++ (cut.reverse.map fun s => 0 - s).map PyData.int) = there.map .int := by simp only [there, List.map_append]
  obtain ⟨bk, hbk⟩ : ∃ bk, bk = (cut.reverse.map fun s => 0 - s).map PyData.int := ⟨_, rfl⟩
  rw [← hbk] at em2
  have ethere2 : ∀ (o0 o2 o3 : Option Vl), ev G ((E.bin Bop.sub (cI 0) (E.var 7)).comp (Tg.n 7) (It.li (((E.var 5).slc none (some (cI 20)) false).slc none none true)) none [7] false) [o0, some (.fz (sD p hs)), o2, o3, none, some (.fz (tI' mine)), none, none, none, none] = some (.st (.ol bk), [o0, some (.fz (sD p hs)), o2, o3, none, some (.fz (tI' mine)), none, none, none, none]) := by
    intro o0 o2 o3
    rw [hbk]
    exact ethere o0 o2 o3
  have zA : okSz (cut.length + bk.length) = true := okSz_ok (by rw [hbk]; simp only [List.length_map, List.length_reverse]; omega)
  clear ethere hbk
  obtain ⟨a, b, c, rfl, -, -⟩ := id hx
  obtain ⟨a1, b1, c1, rfl, -, -⟩ := id hx1
  obtain ⟨a3, b3, c3, rfl, -, -⟩ := id hx3
  obtain ⟨a4, b4, c4, rfl, -, -⟩ := id hx4
  obtain ⟨a5, b5, c5, rfl, -, -⟩ := id hx5
  obtain ⟨a6, b6, c6, rfl, -, -⟩ := id hx6
  have way' : way = 0 ∨ way = 1 ∨ way = 2 ∨ way = 3 ∨ way = 4 ∨ way = 5 := by omega
  have fin : ∀ row : List Int, IsRow row → idxD (.list [.tuple (sm.map .int), if (!mine.isEmpty) = true then .tuple (mine.map .int) else .tuple (sm.map .int), if (!there.isEmpty) = true then .tuple (there.map .int) else .tuple (sm.map .int), .tuple ((repI (1 + q) [sd, -sd]).map .int), .tuple ((repI (1 + q) [sd, -sd]).map .int), .tuple (la.map .int)]) (.int way) = some (tI' row) →
      ∃ (row : List Int) (x' : Vl), runF G (lawRowFn ld lw ls) [.ol [.int a, .int b, .int c], .fz (sD p hs)] = some (.fz (tI' row), [x', .fz (sD p hs)]) ∧ IsRow row ∧ IsPen x' := by
    intro row hr ei
    refine ⟨row, .ol [.int a6, .int b6, .int c6], ?_, hr, hx6⟩
    clear_value cut there
    cases cm : mine.isEmpty <;> cases ct : there.isEmpty <;> (rw [cm] at t1 ei; rw [ct] at t2 ei; simp only [sD, tI'] at *; simp only [Bool.not_true, Bool.not_false, if_true, if_false, Bool.false_eq_true] at ei t1 t2; simp [runF, lawRowFn, d1, ec, d4, im, ew, ecut, ethere2, esides, eside, d6, ix0, esw, esm, ecut2, t1, t2, z1, z2, z3, z6, zA, zB, em2, ei])
  rcases way' with rfl | rfl | rfl | rfl | rfl | rfl
  · exact fin _ r1 rfl
  · refine fin _ r2 ?_
    show some _ = _
    cases mine.isEmpty <;> rfl
  · refine fin _ r3 ?_
    show some _ = _
    cases there.isEmpty <;> rfl
  · exact fin _ r4 rfl
  · exact fin _ r4 rfl
  · exact fin _ r5 rfl
end Tr

set_option Elab.async false
set_option linter.all false
set_option maxRecDepth 100000
set_option maxHeartbeats 4000000
/-! k32: the law. -/
namespace Tr
open PySem
theorem tame_done : tame (.str "done") = true := by decide +kernel
theorem tame_barred : tame (.str "barred") = true := by decide +kernel
theorem tame_sD {p : Int} {hs : List Int} (h : IsSt p hs) {m : Int} (hi : Hi hs m) (hm : m < 10 ^ 19) : tame (sD p hs) = true ∧ cnt (sD p hs) ≤ 1000 ∧ (sD p hs).depth ≤ 2 := by
  obtain ⟨⟨h1, h2, h3⟩, h4, h5⟩ := h
  have t1 := tameL_ints (ns := hs) fun n hn => by
    have a := h3 n hn
    have b := hi n hn
    omega
  have t2 : p.natAbs < 10 ^ 20 := by omega
  refine ⟨?_, ?_, ?_⟩
  · simp only [sD, tI', tame, tameL, t1, decide_eq_true t2]; rfl
  · simp only [sD, tI', cnt, cntL, cntL_ints]; omega
  · simp only [sD, tI', PyData.depth, PyData.depthAll, depthL_ints]; decide
theorem lapE_hi {row : List Int} (hr : IsRow row) {st : Int × List Int} (h : IsSt st.1 st.2) {m : Int} (hi : Hi st.2 m) : ∀ n : Nat, (∀ j < n, barN row j st = none) → Hi (lapE row n st).2 (m + 40 * n)
  | 0, _ => fun x hx => by have := hi x hx; omega
  | n + 1, hb => by
    have ih := lapE_hi hr h hi n fun j hj => hb j (by omega)
    have hst := lapE_st hr.1 h n fun j hj => hb j (by omega)
    rw [lapE_succ]
    intro x hx
    have := walk_hi hst ((bar_walk hr.1).mp (hb n (by omega))) ih x hx
    have := hr.2.2
    push_cast
    omega
theorem bar_lt : ∀ {ws : List Int} {p : Int} {hs : List Int} {a : Nat}, bar p hs ws = some a → a < ws.length
  | [], _, _, _, h => by cases h
  | s :: ws, p, hs, a, h => by
    unfold bar at h
    cases c : letB p hs s with
    | false =>
      rw [c] at h
      simp at h
      subst h
      simp
    | true =>
      rw [c] at h
      simp only [if_true] at h
      obtain ⟨b, hb, rfl⟩ := Option.map_eq_some_iff.mp h
      have := bar_lt hb
      simp only [List.length_cons]
      omega
/-- what is told of laps is a text that is not too long -/
theorem rnd_tame {row : List Int} (hr : IsRow row) {st : Int × List Int} (h : IsSt st.1 st.2) (hi : Hi st.2 1000) {t : Nat} (ht : t ≤ 1000000000) : tame (rnd row t 0 st) = true ∧ cnt (rnd row t 0 st) ≤ 1040 ∧ (rnd row t 0 st).depth ≤ 3 := by
  rcases five row st t with hb | ⟨m, a, h1, h2, h3⟩
  · rw [rnd_done row t 0 st hb]
    obtain ⟨q1, q2, q3⟩ := tame_sD (lapE_st hr.1 h t hb) (lapE_hi hr h hi t hb) (by omega)
    refine ⟨?_, ?_, ?_⟩
    · simp only [tame, tameL, q1, Bool.and_true]
      exact tame_done
    · simp only [cnt, cntL]; omega
    · simp only [PyData.depth, PyData.depthAll]; omega
  · rw [rnd_bar row m t 0 st a h1 h2 h3]
    have := bar_lt h3
    have := hr.2.2
    refine ⟨?_, ?_, ?_⟩
    · simp only [tame, tameL, Bool.and_true, Bool.and_eq_true, decide_eq_true_eq]
      refine ⟨?_, by omega, by omega⟩
      have := tame_barred
      unfold tame at this
      exact of_decide_eq_true this
    · simp only [cnt, cntL]; omega
    · simp only [PyData.depth, PyData.depthAll]; omega
theorem row_tame {row : List Int} (hr : IsRow row) : tame (tI' row) = true ∧ cnt (tI' row) ≤ 1046 ∧ (tI' row).depth ≤ 1 := by
  obtain ⟨h1, h2, h3⟩ := hr
  have t1 := tameL_ints (ns := row) fun n hn => by
    rcases h1 n hn with rfl | rfl <;> decide
  refine ⟨?_, ?_, ?_⟩
  · simp only [tI', tame, t1]
  · simp only [tI', cnt, cntL_ints]; omega
  · simp only [tI', PyData.depth, depthL_ints]; decide
theorem okShow_dd {d : D} (a : tame d = true) (b : cnt d ≤ 1000000) (c : d.depth ≤ 20) : okShow (.list [d, d]) = true := by
  refine okShow_of ?_ ?_ ?_
  · simp only [tame, tameL, a]; rfl
  · simp only [cnt, cntL]; omega
  · simp only [PyData.depth, PyData.depthAll]; omega
theorem okShow_pr {d e : D} (a : tame d = true) (b : cnt d ≤ 1000000) (c : d.depth ≤ 20) (a2 : tame e = true) (b2 : cnt e ≤ 1000000) (c2 : e.depth ≤ 20) : okShow (.tuple [d, e]) = true := by
  refine okShow_of ?_ ?_ ?_
  · simp only [tame, tameL, a, a2]; rfl
  · simp only [cnt, cntL]; omega
  · simp only [PyData.depth, PyData.depthAll]; omega
def law32In (ls lr ld lr2 la ls2 : Nat) : List S := [S.asg (Tg.n 4) (E.call ls [E.var 2, cI 5, cI 5]), S.par [5, 6] [E.call lr [E.var 2, E.var 4], (E.lst [cI 0, cI 1, cI 2, cI 3, cI 4, cI 5, cI 6, cI 7, cI 9, cI 50]).idx (E.call ld [E.var 2, cI 10])], S.par [7, 8] [E.bi Bi.repr [E.tup [E.var 4, E.var 5]], E.call lr2 [E.var 4, E.var 5, E.var 6]], S.asg (Tg.n 9) ((E.call la [E.var 4, E.var 5, E.var 6]).comp (Tg.n 10) (It.rg1 (cI 2)) none [10] false), S.iff ((E.call ls2 [E.var 9, E.lst [E.var 8, E.var 8]]).not.or (E.cmp Cop.ne (E.bi Bi.repr [E.tup [E.var 4, E.var 5]]) (E.var 7))) [S.ret (E.con (.bool false))] []]
def law32Fn (lp lca ls lr ld lr2 la ls2 : Nat) : Fn := ⟨1, 11, [S.for (Tg.n 1) (It.rg1 (E.bi Bi.max [cI 1, E.bi Bi.min [E.bi Bi.len [E.var 0], cI 3]])) [S.asg (Tg.n 2) (E.call lp [E.call lca [E.var 0, E.var 1]]), S.for (Tg.n 3) (It.rg1 (cI 6)) (law32In ls lr ld lr2 la ls2)], S.ret (E.con (.bool true))]⟩
theorem law32_in {G : Fs} {ls lr ld lr2 la ls2 : Nat} (hst : PStandDraw G ls) (hrow : PRow G lr) (hd : PDraw G ld) (hro : PRounds G lr2) (hla : PLaps G la) (hsm : PSameL G ls2) (ns : List Int) (j : Int) (y : Vl) (o1 o3 : Option Vl) (rest : Fm) (hy : IsPen y) (hrest : rest.length = 7) :
    ∃ (y' : Vl) (o3' : Option Vl) (rest' : Fm), turnF G [] (Tg.n 3) (law32In ls lr ld lr2 la ls2) (.int j) (some (.scr ns) :: o1 :: some y :: o3 :: rest) = some (.nx, some (.scr ns) :: o1 :: some y' :: o3' :: rest') ∧ IsPen y' ∧ rest'.length = 7 := by
  obtain ⟨o4, o5, o6, o7, o8, o9, o10, rfl⟩ : ∃ o4 o5 o6 o7 o8 o9 o10, rest = [o4, o5, o6, o7, o8, o9, o10] := by
    match rest, hrest with
    | [a, b, c, d, e, f, g], _ => exact ⟨a, b, c, d, e, f, g, rfl⟩
  obtain ⟨p, hs, y1, e1, h, hi, -, hy1⟩ := hst y 5 5 hy (by decide) (by decide) (by decide) (by decide)
  obtain ⟨row, y2, e2, hr, hy2⟩ := hrow y1 p hs hy1 h
  obtain ⟨q, y3, e3, q0, q1, hy3⟩ := hd y2 10 hy2 (by decide) (by decide)
  obtain ⟨t, et, ht⟩ : ∃ t : Nat, idxD (.list [.int 0, .int 1, .int 2, .int 3, .int 4, .int 5, .int 6, .int 7, .int 9, .int 50]) (.int q) = some (.int (t : Int)) ∧ t ≤ 50 := by
    have : q = 0 ∨ q = 1 ∨ q = 2 ∨ q = 3 ∨ q = 4 ∨ q = 5 ∨ q = 6 ∨ q = 7 ∨ q = 8 ∨ q = 9 := by omega
    rcases this with rfl | rfl | rfl | rfl | rfl | rfl | rfl | rfl | rfl | rfl
    · exact ⟨0, rfl, by decide⟩
    · exact ⟨1, rfl, by decide⟩
    · exact ⟨2, rfl, by decide⟩
    · exact ⟨3, rfl, by decide⟩
    · exact ⟨4, rfl, by decide⟩
    · exact ⟨5, rfl, by decide⟩
    · exact ⟨6, rfl, by decide⟩
    · exact ⟨7, rfl, by decide⟩
    · exact ⟨9, rfl, by decide⟩
    · exact ⟨50, rfl, by decide⟩
  have hi2 : Hi hs 1000 := fun x hx => by have := hi x hx; omega
  obtain ⟨s1, s2, s3⟩ := tame_sD (m := 1000) h hi2 (by decide)
  obtain ⟨r1, r2, r3⟩ := row_tame hr
  obtain ⟨t1, t2, t3⟩ := rnd_tame hr (st := (p, hs)) h hi2 (t := t) (by omega)
  have w1 := okShow_pr s1 (by omega) (by omega) r1 (by omega) (by omega)
  have w2 := okShow_dd t1 (by omega) (by omega)
  have e4 := hro p hs row t h hr (by omega)
  have e5 := hla p hs row t h hr (by omega)
  have e6 := hsm _ w2
  unfold lapsD at e5
  generalize rnd row t 0 (p, hs) = due at *
  obtain ⟨a, b, c, rfl, -, -⟩ := id hy
  obtain ⟨a1, b1, c1, rfl, -, -⟩ := id hy1
  obtain ⟨a2, b2, c2, rfl, -, -⟩ := id hy2
  obtain ⟨a3, b3, c3, rfl, -, -⟩ := id hy3
  have ec : ∀ (o3 o7 o8 o9 o10 : Option Vl), ev G ((E.call la [E.var 4, E.var 5, E.var 6]).comp (Tg.n 10) (It.rg1 (cI 2)) none [10] false) [some (.scr ns), o1, some (.ol [.int a3, .int b3, .int c3]), o3, some (.fz (sD p hs)), some (.fz (tI' row)), some (.fz (.int (t : Nat))), o7, o8, o9, o10] = some (.st (.ol [due, due]), [some (.scr ns), o1, some (.ol [.int a3, .int b3, .int c3]), o3, some (.fz (sD p hs)), some (.fz (tI' row)), some (.fz (.int (t : Nat))), o7, o8, o9, o10]) := by
    intro o3 o7 o8 o9 o10
    refine ev_comp_map (List.range 2) (fun (i : Nat) => .int (i : Int)) (fun _ => due) ?_ (fun i _ => ?_) (by decide)
    · rw [← rangeD_nat 2]
      exact its_rg1_of (by simp) (by decide)
    · simp only [sD, tI'] at *
      simp [turn0, wipeF, wipeP, e5]
  have z2 : okSz 2 = true := by decide
  have z10 : okSz 10 = true := by decide
  have e9 : ∀ x : Str, cmpD .ne (.str x) (.str x) = some false := by
    intro x
    show some (!decide (x = x)) = _
    simp
  refine ⟨.ol [.int a3, .int b3, .int c3], some (.fz (.int j)), [some (.fz (sD p hs)), some (.fz (tI' row)), some (.fz (.int (t : Nat))), some (.fz (.str (PyData.tuple [sD p hs, tI' row]).shown)), some (.fz due), some (.ol [due, due]), o10], ?_, hy3, rfl⟩
  simp only [sD, tI'] at *
  simp [turnF, law32In, e1, e2, e3, et, e4, ec, e6, w1, z2, z10, e9]
theorem law32_run {G : Fs} {ce pe ls lr ld lr2 la ls2 : Nat} (hce : PCell G ce) (hpe : PPen G pe) (hst : PStandDraw G ls) (hrow : PRow G lr) (hd : PDraw G ld) (hro : PRounds G lr2) (hla : PLaps G la) (hsm : PSameL G ls2) (ns : List Int) : ∃ ps, runF G (law32Fn pe ce ls lr ld lr2 la ls2) [.scr ns] = some (.fz (.bool true), ps) :=
  outer_run hce hpe ns (N := 3) (M := 6) (m := 7) (by decide) (by decide) fun j y o1 o3 rest hy _ _ hr => law32_in hst hrow hd hro hla hsm ns j y o1 o3 rest hy hr
end Tr

set_option Elab.async false
set_option linter.all false
set_option maxRecDepth 100000
set_option maxHeartbeats 4000000
/-! k33: rows done for ever. -/
namespace Tr
open PySem
/-- what a walk adds to heights does not ask what they are -/
theorem end_on : ∀ {ws : List Int} {p : Int} {hs cs : List Int}, cs.length = hs.length → 0 ≤ p → p < hs.length → bar p (addN hs 1 cs) ws = none → (wEnd p (addN hs 1 cs) ws).2 = addN hs 1 (wEnd p cs ws).2
  | [], _, _, _, _, _, _, _ => rfl
  | s :: ws, p, hs, cs, hl, h0, h1, hb => by
    unfold bar at hb
    cases c : letB p (addN hs 1 cs) s with
    | false => rw [c] at hb; simp at hb
    | true =>
      rw [c] at hb
      simp only [if_true, Option.map_eq_none_iff] at hb
      have e : raiseH (addN hs 1 cs) p = addN hs 1 (raiseH cs p) := by
        have hl2 : (addN hs 1 cs).length = hs.length := addN_len _ hl
        have a : p.toNat < hs.length := by omega
        have b : p.toNat < cs.length := by omega
        have ea := addN_at (ds := cs) (hs := hs) 1 hl h0 h1
        unfold raiseH
        rw [ea]
        refine List.ext_getElem? fun i => ?_
        unfold addN
        rw [List.getElem?_set, List.getElem?_zipWith, List.getElem?_zipWith, List.getElem?_set, List.length_zipWith]
        by_cases hi : p.toNat = i
        · subst hi
          rw [if_pos rfl, if_pos (by omega), if_pos rfl, if_pos b, List.getElem?_eq_getElem a]
          have eb : at' hs p = hs[p.toNat] := by
            unfold at'
            rw [List.getD_eq_getElem?_getD, List.getElem?_eq_getElem a]
            rfl
          simp only []
          congr 1
          rw [eb]
          omega
        · rw [if_neg hi, if_neg hi]
      rw [e] at hb
      have c' := c
      unfold letB at c'
      rw [addN_len _ hl] at c'
      simp only [Bool.and_eq_true, decide_eq_true_eq] at c'
      show (wEnd (p + s) (raiseH (addN hs 1 cs) p) ws).2 = addN hs 1 (wEnd (p + s) (raiseH cs p) ws).2
      rw [e]
      exact end_on (by rw [raise_len]; exact hl) c'.1.1.1 c'.1.1.2 hb
def zeros (n : Nat) : List Int := List.replicate n 0
theorem addN_zeros (hs : List Int) (n : Int) : addN hs n (zeros hs.length) = hs := by
  unfold addN zeros
  induction hs with
  | nil => rfl
  | cons a hs ih =>
    rw [List.length_cons, List.replicate_succ, List.zipWith_cons_cons, ih]
    simp
theorem sub_add : ∀ (hs cs : List Int), cs.length = hs.length → List.zipWith (fun a b => b - a) hs (addN hs 1 cs) = cs
  | [], [], _ => rfl
  | [], _ :: _, h => by cases h
  | _ :: _, [], h => by cases h
  | a :: hs, b :: cs, h => by
    have ih := sub_add hs cs (by simpa using h)
    unfold addN at ih ⊢
    simp only [List.zipWith_cons_cons, ih]
    congr 1
    omega
/-- how often each place is left is by how much it rises -/
theorem gain_left {row : List Int} {p : Int} {hs : List Int} (h : IsSt p hs) (hb : bar p hs row = none) : gain row (p, hs) = (wEnd p (zeros hs.length) row).2 := by
  have zl : (zeros hs.length).length = hs.length := List.length_replicate
  have e := addN_zeros hs 1
  have e2 := end_on (ws := row) zl h.2.1 h.2.2 (by rw [e]; exact hb)
  rw [e] at e2
  unfold gain
  show List.zipWith _ hs (wEnd p hs row).2 = _
  rw [e2]
  exact sub_add hs _ (by rw [end_len, zl])
def lawLeftOftenFn : Fn := ⟨3, 5, [S.asg (Tg.n 3) (E.bin Bop.mul (E.lst [cI 0]) (E.var 2)), S.for (Tg.n 4) (It.li (E.var 1)) [S.sidx 3 (E.var 0) (E.bin Bop.add ((E.var 3).idx (E.var 0)) (cI 1)), S.asg (Tg.n 0) (E.bin Bop.add (E.var 0) (E.var 4))], S.retv 3]⟩
def PLeft (G : Fs) (f : Nat) : Prop := ∀ p hs row, IsSt p hs → IsRow row → IsWalk p hs row → G f [.fz (.int p), .fz (tI' row), .fz (.int (hs.length : Nat))] = some (.ol ((wEnd p (zeros hs.length) row).2.map .int), [.fz (.int p), .fz (tI' row), .fz (.int (hs.length : Nat))])
theorem left_loop {G : Fs} (r2 : Option Vl) (rw' : Option Vl) : ∀ (ws : List Int) (p : Int) (hs cs : List Int) (o4 : Option Vl), IsSt p hs → IsWalk p hs ws → cs.length = hs.length →
    ∃ a0 a4, forN (turnF G [] (Tg.n 4) [S.sidx 3 (E.var 0) (E.bin Bop.add ((E.var 3).idx (E.var 0)) (cI 1)), S.asg (Tg.n 0) (E.bin Bop.add (E.var 0) (E.var 4))]) (ws.map .int) [some (.fz (.int p)), rw', r2, some (.ol (cs.map .int)), o4] = some (.nx, [a0, rw', r2, some (.ol ((wEnd p cs ws).2.map .int)), a4])
  | [], p, hs, cs, o4, _, _, _ => ⟨_, _, rfl⟩
  | s :: ws, p, hs, cs, o4, h, ⟨_, c, hw⟩, hl => by
    have hp : p.toNat < cs.length := by have := h.2.1; have := h.2.2; omega
    have e1 : idxD (.list (cs.map PyData.int)) (.int p) = some (.int (at' cs p)) := by
      simp only [idxD, List.length_map]
      rw [place_ok h.2.1 (by have := h.2.2; omega)]
      simp only [Option.bind_some, List.getElem?_map]
      unfold at'
      rw [List.getD_eq_getElem?_getD, List.getElem?_eq_getElem hp]
      rfl
    have e2 : placeD (cs.map PyData.int).length p = some p.toNat := by
      rw [List.length_map]
      exact place_ok h.2.1 (by have := h.2.2; omega)
    have e2' : placeD cs.length p = some p.toNat := place_ok h.2.1 (by have := h.2.2; omega)
    have e3 : (cs.map PyData.int).set p.toNat (.int (at' cs p + 1)) = (raiseH cs p).map .int := by
      unfold raiseH
      rw [List.map_set]
    have et : turnF G [] (Tg.n 4) [S.sidx 3 (E.var 0) (E.bin Bop.add ((E.var 3).idx (E.var 0)) (cI 1)), S.asg (Tg.n 0) (E.bin Bop.add (E.var 0) (E.var 4))] (.int s) [some (.fz (.int p)), rw', r2, some (.ol (cs.map .int)), o4] = some (.nx, [some (.fz (.int (p + s))), rw', r2, some (.ol ((raiseH cs p).map .int)), some (.fz (.int s))]) := by
      simp [turnF, e1, e2', e3]
    rw [List.map_cons]
    unfold forN
    rw [et]
    exact left_loop r2 rw' ws (p + s) (raiseH hs p) (raiseH cs p) _ (h.step c) hw (by rw [raise_len, raise_len]; exact hl)
theorem left_run (G : Fs) {p : Int} {hs row : List Int} (h : IsSt p hs) (hw : IsWalk p hs row) : runF G lawLeftOftenFn [.fz (.int p), .fz (tI' row), .fz (.int (hs.length : Nat))] = some (.ol ((wEnd p (zeros hs.length) row).2.map .int), [.fz (.int p), .fz (tI' row), .fz (.int (hs.length : Nat))]) := by
  have hl := h.1.2.1
  have em : binD .mul (.list [.int 0]) (.int (hs.length : Nat)) = some (.ol ((zeros hs.length).map .int)) := by
    show (if decide (((hs.length : Nat) : Int) ≤ 1000) && decide ((-1000 : Int) ≤ ((hs.length : Nat) : Int)) && decide ([PyData.int 0].length ≤ 1000) then some (Vl.ol (repD ((hs.length : Nat) : Int) [PyData.int 0])) else none) = _
    rw [if_pos (by simp; omega)]
    have : repD ((hs.length : Nat) : Int) [PyData.int 0] = (zeros hs.length).map .int := by
      unfold repD zeros
      rw [Int.toNat_natCast]
      induction hs.length with
      | zero => rfl
      | succ n ih => rw [List.replicate_succ, List.flatten_cons, ih, List.replicate_succ]; rfl
    rw [this]
  obtain ⟨a0, a4, q⟩ := left_loop (G := G) (some (.fz (.int (hs.length : Nat)))) (some (.fz (tI' row))) row p hs (zeros hs.length) none h hw List.length_replicate
  have z1 : okSz 1 = true := by decide
  simp only [tI'] at *
  simp [runF, lawLeftOftenFn, em, q, z1]
theorem addN_zip : ∀ (hs g : List Int) (n : Int), (List.zip hs g).map (fun x => x.1 + n * x.2) = addN hs n g
  | [], g, n => by unfold addN; simp
  | _ :: _, [], n => by unfold addN; simp
  | a :: hs, b :: g, n => by
    have ih := addN_zip hs g n
    unfold addN at ih ⊢
    simp only [List.zipWith_cons_cons, List.zip_cons_cons, List.map_cons, ih]
def law33In (ls lr ld lr2 llo ls2 la : Nat) : List S := [S.asg (Tg.n 4) (E.call ls [E.var 2, cI 5, cI 5]), S.asg (Tg.n 5) (E.call lr [E.var 2, E.var 4]), S.asg (Tg.n 6) ((E.lst [E.bin Bop.pow (cI 10) (cI 9), E.bin Bop.sub (E.bin Bop.pow (cI 10) (cI 9)) (E.call ld [E.var 2, cI 9]), E.bin Bop.add (cI 8) (E.call ld [E.var 2, E.bin Bop.pow (cI 10) (cI 6)]), cI 8]).idx (E.call ld [E.var 2, cI 4])), S.asg (Tg.n 7) (E.call lr2 [E.var 4, E.var 5, cI 8]), S.iff (E.cmp Cop.eq ((E.var 7).idx (cI 0)) (E.con (.str "done"))) [S.asg (Tg.n 8) (E.call llo [(E.var 4).idx (cI 0), E.var 5, E.bi Bi.len [(E.var 4).idx (cI 1)]]), S.asg (Tg.n 7) (E.tup [E.con (.str "done"), E.tup [(E.var 4).idx (cI 0), E.bi Bi.tuple [(E.bin Bop.add (E.var 9) (E.bin Bop.mul (E.var 6) (E.var 10))).comp (Tg.t [Tg.n 9, Tg.n 10]) (It.zp ((E.var 4).idx (cI 1)) (E.var 8)) none [9, 10] false]]])] [], S.iff (E.call ls2 [(E.call la [E.var 4, E.var 5, E.var 6]).comp (Tg.n 11) (It.rg1 (cI 2)) none [11] false, E.lst [E.var 7, E.var 7]]).not [S.ret (E.con (.bool false))] []]
def law33Fn (lp lca ls lr ld lr2 llo ls2 la : Nat) : Fn := ⟨1, 12, [S.for (Tg.n 1) (It.rg1 (E.bi Bi.max [cI 1, E.bi Bi.min [E.bi Bi.len [E.var 0], cI 3]])) [S.asg (Tg.n 2) (E.call lp [E.call lca [E.var 0, E.var 1]]), S.for (Tg.n 3) (It.rg1 (cI 6)) (law33In ls lr ld lr2 llo ls2 la)], S.ret (E.con (.bool true))]⟩
theorem law33_in {G : Fs} {ls lr ld lr2 llo ls2 la : Nat} (hst : PStandDraw G ls) (hrow : PRow G lr) (hd : PDraw G ld) (hro : PRounds G lr2) (hlo : PLeft G llo) (hsm : PSameL G ls2) (hla : PLaps G la) (ns : List Int) (j : Int) (y : Vl) (o1 o3 : Option Vl) (rest : Fm) (hy : IsPen y) (hrest : rest.length = 8) :
    ∃ (y' : Vl) (o3' : Option Vl) (rest' : Fm), turnF G [] (Tg.n 3) (law33In ls lr ld lr2 llo ls2 la) (.int j) (some (.scr ns) :: o1 :: some y :: o3 :: rest) = some (.nx, some (.scr ns) :: o1 :: some y' :: o3' :: rest') ∧ IsPen y' ∧ rest'.length = 8 := by
  obtain ⟨o4, o5, o6, o7, o8, o9, o10, o11, rfl⟩ : ∃ o4 o5 o6 o7 o8 o9 o10 o11, rest = [o4, o5, o6, o7, o8, o9, o10, o11] := by
    match rest, hrest with
    | [a, b, c, d, e, f, g, h], _ => exact ⟨a, b, c, d, e, f, g, h, rfl⟩
  obtain ⟨p, hs, y1, e1, h, hi, -, hy1⟩ := hst y 5 5 hy (by decide) (by decide) (by decide) (by decide)
  obtain ⟨row, y2, e2, hr, hy2⟩ := hrow y1 p hs hy1 h
  obtain ⟨q9, y3, d9, a0, a1, hy3⟩ := hd y2 9 hy2 (by decide) (by decide)
  obtain ⟨q6, y4, d6, b0, b1, hy4⟩ := hd y3 1000000 hy3 (by decide) (by decide)
  obtain ⟨q4, y5, d4, c0, c1, hy5⟩ := hd y4 4 hy4 (by decide) (by decide)
  obtain ⟨t, et, ht, ht8⟩ : ∃ t : Nat, idxD (.list [.int 1000000000, .int (1000000000 - q9), .int (8 + q6), .int 8]) (.int q4) = some (.int (t : Int)) ∧ t ≤ 1000000000 ∧ 8 ≤ t := by
    have : q4 = 0 ∨ q4 = 1 ∨ q4 = 2 ∨ q4 = 3 := by omega
    rcases this with rfl | rfl | rfl | rfl
    · exact ⟨1000000000, rfl, by decide, by decide⟩
    · refine ⟨(1000000000 - q9).toNat, ?_, by omega, by omega⟩
      rw [Int.toNat_of_nonneg (by omega)]
      rfl
    · refine ⟨(8 + q6).toNat, ?_, by omega, by omega⟩
      rw [Int.toNat_of_nonneg (by omega)]
      rfl
    · exact ⟨8, rfl, by decide, by decide⟩
  have hi2 : Hi hs 1000 := fun x hx => by have := hi x hx; omega
  obtain ⟨t1, t2, t3⟩ := rnd_tame hr (st := (p, hs)) h hi2 (t := t) ht
  have w2 := okShow_dd t1 (by omega) (by omega)
  have e4 : G lr2 [.fz (sD p hs), .fz (tI' row), .fz (.int 8)] = some (.fz (rnd row 8 0 (p, hs)), [.fz (sD p hs), .fz (tI' row), .fz (.int 8)]) := hro p hs row 8 h hr (by decide)
  have e5 := hla p hs row t h hr ht
  have e6 := hsm _ w2
  unfold lapsD at e5
  obtain ⟨a, b, c, rfl, -, -⟩ := id hy
  obtain ⟨a1', b1', c1', rfl, -, -⟩ := id hy1
  obtain ⟨a2, b2, c2, rfl, -, -⟩ := id hy2
  obtain ⟨a3, b3, c3, rfl, -, -⟩ := id hy3
  obtain ⟨a4, b4, c4, rfl, -, -⟩ := id hy4
  obtain ⟨a5, b5, c5, rfl, -, -⟩ := id hy5
  have ec : ∀ (due : D), rnd row t 0 (p, hs) = due → ∀ (o3 o7 o8 o9 o10 o11 : Option Vl), ev G ((E.call la [E.var 4, E.var 5, E.var 6]).comp (Tg.n 11) (It.rg1 (cI 2)) none [11] false) [some (.scr ns), o1, some (.ol [.int a5, .int b5, .int c5]), o3, some (.fz (sD p hs)), some (.fz (tI' row)), some (.fz (.int (t : Nat))), o7, o8, o9, o10, o11] = some (.st (.ol [due, due]), [some (.scr ns), o1, some (.ol [.int a5, .int b5, .int c5]), o3, some (.fz (sD p hs)), some (.fz (tI' row)), some (.fz (.int (t : Nat))), o7, o8, o9, o10, o11]) := by
    intro due hdue o3 o7 o8 o9 o10 o11
    rw [hdue] at e5
    refine ev_comp_map (List.range 2) (fun (i : Nat) => .int (i : Int)) (fun _ => due) ?_ (fun i _ => ?_) (by decide)
    · rw [← rangeD_nat 2]
      exact its_rg1_of (by simp) (by decide)
    · simp only [sD, tI'] at *
      simp [turn0, wipeF, wipeP, e5]
  have z2 : okSz 2 = true := by decide
  have z4 : okSz 4 = true := by decide
  have ep9 : binD .pow (.int 10) (.int 9) = some (.fz (.int 1000000000)) := rfl
  have ep6 : binD .pow (.int 10) (.int 6) = some (.fz (.int 1000000)) := rfl
  rcases five row (p, hs) 5 with hb | ⟨m, am, h1, h2, h3⟩
  · have go := laps_go hr.1 h hb
    have b0 : bar p hs row = none := hb 0 (by decide)
    have hw := (bar_walk hr.1).mp b0
    have g8 := rnd_done row 8 0 (p, hs) fun m _ => (go m).2
    have gt := rnd_done row t 0 (p, hs) fun m _ => (go m).2
    rw [(go t).1] at gt
    rw [(go 8).1] at g8
    rw [gain_left h b0] at gt
    rw [g8] at e4
    have e7 := hlo p hs row h hr hw
    generalize hk : (wEnd p (zeros hs.length) row).2 = ks at *
    have em : ∀ x : Int, binD .mul (.int (t : Nat)) (.int x) = some (.fz (.int ((t : Int) * x))) := fun x => binD_mulL (by omega)
    have hlen : (hs.zip ks).length ≤ 16777216 := by
      rw [List.length_zip]
      have := h.1.2.1
      omega
    have ez := pairs_ints hs ks
    have ew := addN_zip hs ks (t : Int)
    have ec2 : ∀ (o3 o7 o9 o10 o11 : Option Vl), ev G ((E.bin Bop.add (E.var 9) (E.bin Bop.mul (E.var 6) (E.var 10))).comp (Tg.t [Tg.n 9, Tg.n 10]) (It.zp ((E.var 4).idx (cI 1)) (E.var 8)) none [9, 10] false) [some (.scr ns), o1, some (.ol [.int a5, .int b5, .int c5]), o3, some (.fz (sD p hs)), some (.fz (tI' row)), some (.fz (.int (t : Nat))), o7, some (.ol (ks.map .int)), o9, o10, o11]
        = some (.st (.ol ((addN hs (t : Int) ks).map .int)), [some (.scr ns), o1, some (.ol [.int a5, .int b5, .int c5]), o3, some (.fz (sD p hs)), some (.fz (tI' row)), some (.fz (.int (t : Nat))), o7, some (.fz (.list (ks.map .int))), o9, o10, o11]) := by
      intro o3 o7 o9 o10 o11
      have ef : ((hs.zip ks).map fun x => PyData.int (x.1 + (t : Int) * x.2)) = (addN hs (t : Int) ks).map .int := by
        rw [← ew, List.map_map]
        rfl
      rw [← ef]
      refine ev_comp_map _ (fun x : Int × Int => .tuple [.int x.1, .int x.2]) _ ?_ (fun x hx => ?_) hlen
      · simp only [sD, tI']
        simp [ez, Vl.strip]
      · simp only [sD, tI']
        simp [turn0, wipeF, wipeP, em]
    have ec3 := ec _ gt
    rw [gt] at e6
    have ecmp : cmpD .eq (.str "done") (.str "done") = some true := rfl
    refine ⟨.ol [.int a5, .int b5, .int c5], some (.fz (.int j)), [some (.fz (sD p hs)), some (.fz (tI' row)), some (.fz (.int (t : Nat))), some (.fz (.tuple [.str "done", sD p (addN hs t ks)])), some (.fz (.list (ks.map .int))), o9, o10, o11], ?_, hy5, rfl⟩
    simp only [sD, tI'] at *
    simp [turnF, law33In, e1, e2, d9, d6, d4, et, e4, ec2, ec3, e6, e7, z2, z4, ep9, ep6, ecmp]
  · have g8 := rnd_bar row m 8 0 (p, hs) am (by omega) h2 h3
    have gt := rnd_bar row m t 0 (p, hs) am (by omega) h2 h3
    rw [g8] at e4
    have ec3 := ec _ gt
    rw [gt] at e6
    have ecmp : cmpD .eq (.str "barred") (.str "done") = some false := by decide +kernel
    refine ⟨.ol [.int a5, .int b5, .int c5], some (.fz (.int j)), [some (.fz (sD p hs)), some (.fz (tI' row)), some (.fz (.int (t : Nat))), some (.fz (.tuple [.str "barred", .int ((0 + m : Nat) : Int), .int (am : Nat)])), o8, o9, o10, o11], ?_, hy5, rfl⟩
    simp only [sD, tI', Nat.zero_add] at *
    simp [turnF, law33In, e1, e2, d9, d6, d4, et, e4, ec3, e6, z2, z4, ep9, ep6, ecmp]
theorem law33_run {G : Fs} {ce pe ls lr ld lr2 llo ls2 la : Nat} (hce : PCell G ce) (hpe : PPen G pe) (hst : PStandDraw G ls) (hrow : PRow G lr) (hd : PDraw G ld) (hro : PRounds G lr2) (hlo : PLeft G llo) (hsm : PSameL G ls2) (hla : PLaps G la) (ns : List Int) : ∃ ps, runF G (law33Fn pe ce ls lr ld lr2 llo ls2 la) [.scr ns] = some (.fz (.bool true), ps) :=
  outer_run hce hpe ns (N := 3) (M := 6) (m := 8) (by decide) (by decide) fun j y o1 o3 rest hy _ _ hr => law33_in hst hrow hd hro hlo hsm hla ns j y o1 o3 rest hy hr
end Tr

set_option Elab.async false
set_option linter.all false
set_option maxRecDepth 100000
set_option maxHeartbeats 4000000
/-! k89: laps are walks. -/
namespace Tr
open PySem
def needWalkFn (iw : Nat) : Fn := ⟨1, 1, [S.iff (E.call iw [E.var 0]).not [S.stop] []]⟩
def firstBarFn (ns nw bb : Nat) : Fn := ⟨2, 2, [S.exp (E.call ns [E.var 0]), S.exp (E.call nw [E.var 1]), S.ret (E.call bb [E.var 0, E.var 1])]⟩
def needDoneFn (ns nw bb : Nat) : Fn := ⟨2, 2, [S.exp (E.call ns [E.var 0]), S.exp (E.call nw [E.var 1]), S.iff ((E.call bb [E.var 0, E.var 1]).isc .none true) [S.stop] []]⟩
def behindFn (nd bb : Nat) : Fn := ⟨2, 2, [S.exp (E.call nd [E.var 0, E.var 1]), S.ret (E.call bb [E.var 0, E.var 1])]⟩
def PNeedWalk (G : Fs) (f : Nat) : Prop := ∀ ws : List Int, Stps ws → ws.length ≤ 1000 → G f [.fz (tI' ws)] = some (.fz .none, [.fz (tI' ws)])
theorem needWalk_run {G : Fs} {iw : Nat} (h : PIsWalk G iw) {ws : List Int} (h1 : Stps ws) (h2 : ws.length ≤ 1000) : runF G (needWalkFn iw) [.fz (tI' ws)] = some (.fz .none, [.fz (tI' ws)]) := by
  have e1 := h ws h1 h2
  simp only [tI'] at *
  simp [runF, needWalkFn, e1]
theorem firstBar_run {G : Fs} {ns nw bb : Nat} (hn : PNeed G ns) (hw : PNeedWalk G nw) (hb : PBar G bb) {p : Int} {hs ws : List Int} (h : IsSt p hs) (h1 : Stps ws) (h2 : ws.length ≤ 1000) : runF G (firstBarFn ns nw bb) [.fz (sD p hs), .fz (tI' ws)] = some (.fz (barD p hs ws), [.fz (sD p hs), .fz (tI' ws)]) := by
  have e1 := hn p hs h
  have e2 := hw ws h1 h2
  have e3 := hb p hs ws h h1 h2
  simp only [sD, tI'] at *
  simp [runF, firstBarFn, e1, e2, e3]
def PNeedDone (G : Fs) (f : Nat) : Prop := ∀ p hs ws, IsSt p hs → IsWalk p hs ws → ws.length ≤ 1000 → G f [.fz (sD p hs), .fz (tI' ws)] = some (.fz .none, [.fz (sD p hs), .fz (tI' ws)])
theorem needDone_run {G : Fs} {ns nw bb : Nat} (hn : PNeed G ns) (hw : PNeedWalk G nw) (hb : PBar G bb) {p : Int} {hs ws : List Int} (h : IsSt p hs) (h1 : IsWalk p hs ws) (h2 : ws.length ≤ 1000) : runF G (needDoneFn ns nw bb) [.fz (sD p hs), .fz (tI' ws)] = some (.fz .none, [.fz (sD p hs), .fz (tI' ws)]) := by
  have e1 := hn p hs h
  have e2 := hw ws h1.stps h2
  have e3 := hb p hs ws h h1.stps h2
  unfold barD at e3
  rw [(bar_walk h1.stps).mpr h1] at e3
  simp only [sD, tI'] at *
  simp [runF, needDoneFn, e1, e2, e3]
def PBehindR (G : Fs) (f : Nat) : Prop := ∀ p hs ws, IsSt p hs → IsWalk p hs ws → ws.length ≤ 1000 → G f [.fz (sD p hs), .fz (tI' ws)] = some (.fz (sD (wEnd p hs ws).1 (wEnd p hs ws).2), [.fz (sD p hs), .fz (tI' ws)])
theorem behindR_run {G : Fs} {nd bb : Nat} (hn : PNeedDone G nd) (hb : PBehind G bb) {p : Int} {hs ws : List Int} (h : IsSt p hs) (h1 : IsWalk p hs ws) (h2 : ws.length ≤ 1000) : runF G (behindFn nd bb) [.fz (sD p hs), .fz (tI' ws)] = some (.fz (sD (wEnd p hs ws).1 (wEnd p hs ws).2), [.fz (sD p hs), .fz (tI' ws)]) := by
  have e1 := hn p hs ws h h1 h2
  have e2 := hb p hs ws h h1
  simp only [sD, tI'] at *
  simp [runF, behindFn, e1, e2]
/-! ### what is told, as data -/
def doneD (p : Int) (hs : List Int) : D := .tuple [.str "done", sD p hs]
def barredD (m a : Int) : D := .tuple [.str "barred", .int m, .int a]
theorem sh_done (p : Int) (hs : List Int) : SeqAt.shaped (doneD p hs) = true := by
  unfold SeqAt.shaped
  rw [Bool.and_eq_true]
  refine ⟨?_, decide_eq_true ?_⟩
  · have h1 : (PyData.str "done").canLay0 = true := by decide +kernel
    show ((PyData.str "done").canLay0 && ((true && (PyData.canLayAll0 (hs.map .int) && true)) && true)) = true
    rw [h1, lay_ints]; rfl
  · simp only [doneD, sD, tI', PyData.depth, PyData.depthAll, depthL_ints]; decide
theorem sh_barred (m a : Int) : SeqAt.shaped (barredD m a) = true := by
  unfold SeqAt.shaped
  rw [Bool.and_eq_true]
  refine ⟨?_, decide_eq_true ?_⟩
  · have h1 : (PyData.str "barred").canLay0 = true := by decide +kernel
    show ((PyData.str "barred").canLay0 && (true && (true && true))) = true
    rw [h1]; rfl
  · simp only [barredD, PyData.depth, PyData.depthAll]; decide
theorem cmp_bd : cmpD .eq (.str "done") (.str "barred") = some false := by decide +kernel
theorem str_db : ((Str.ofString "done") = (Str.ofString "barred")) = False := eq_false (by decide +kernel)
theorem str_bd : ((Str.ofString "barred") = (Str.ofString "done")) = False := eq_false (by decide +kernel)
theorem cmp_bb : cmpD .eq (.str "barred") (.str "barred") = some true := rfl
theorem cmp_db : cmpD .eq (.str "barred") (.str "done") = some false := by decide +kernel
theorem cmp_dd : cmpD .eq (.str "done") (.str "done") = some true := rfl
theorem cmp_nd : cmpD .ne (.str "done") (.str "done") = some false := rfl
/-- laps: done or barred -/
theorem rnd_two (row : List Int) (t : Nat) (st : Int × List Int) : (rnd row t 0 st = doneD (lapE row t st).1 (lapE row t st).2 ∧ ∀ m < t, barN row m st = none) ∨ ∃ m a, m < t ∧ (∀ j < m, barN row j st = none) ∧ barN row m st = some a ∧ rnd row t 0 st = barredD (m : Nat) (a : Nat) ∧ a < row.length := by
  rcases five row st t with h | ⟨m, a, h1, h2, h3⟩
  · exact .inl ⟨rnd_done row t 0 st h, h⟩
  · refine .inr ⟨m, a, h1, h2, h3, ?_, bar_lt h3⟩
    rw [rnd_bar row m t 0 st a h1 h2 h3, Nat.zero_add]
    rfl
def lawMirroredFn : Fn := ⟨2, 4, [S.iff (E.cmp Cop.eq ((E.var 0).idx (cI 0)) (E.con (.str "barred"))) [S.retv 0] [], S.asg (Tg.t [Tg.n 2, Tg.n 3]) ((E.var 0).idx (cI 1)), S.ret (E.tup [E.con (.str "done"), E.tup [E.bin Bop.sub (E.var 1) (E.var 2), (E.var 3).slc none none true]])]⟩
def PMirB (G : Fs) (f : Nat) : Prop := ∀ m a l : Int, G f [.fz (barredD m a), .fz (.int l)] = some (.fz (barredD m a), [.fz (barredD m a), .fz (.int l)])
def PMirD (G : Fs) (f : Nat) : Prop := ∀ p hs, G f [.fz (doneD p hs), .fz (.int ((hs.length : Int) - 1))] = some (.fz (doneD (mirS (p, hs)).1 (mirS (p, hs)).2), [.fz (doneD p hs), .fz (.int ((hs.length : Int) - 1))])
def PMir (G : Fs) (f : Nat) : Prop := PMirB G f ∧ PMirD G f
theorem mirB_run (G : Fs) (m a l : Int) : runF G lawMirroredFn [.fz (barredD m a), .fz (.int l)] = some (.fz (barredD m a), [.fz (barredD m a), .fz (.int l)]) := by
  simp [runF, lawMirroredFn, barredD, cmp_bb]
theorem mirD_run (G : Fs) (p : Int) (hs : List Int) : runF G lawMirroredFn [.fz (doneD p hs), .fz (.int ((hs.length : Int) - 1))] = some (.fz (doneD (mirS (p, hs)).1 (mirS (p, hs)).2), [.fz (doneD p hs), .fz (.int ((hs.length : Int) - 1))]) := by
  have er : ∀ xs : List D, slcD true none none (.tuple xs) = some (.fz (.tuple xs.reverse)) := fun _ => rfl
  have z2 : okSz 2 = true := by decide
  simp [runF, lawMirroredFn, doneD, sD, tI', mirS, cmp_bd, str_db, er, z2]
theorem mir_run (G : Fs) : PMirB (fun _ xs => runF G lawMirroredFn xs) 0 ∧ PMirD (fun _ xs => runF G lawMirroredFn xs) 0 := ⟨fun m a l => mirB_run G m a l, fun p hs => mirD_run G p hs⟩
theorem rep_stps {row : List Int} (h : Stps row) (k : Int) : Stps (repI k row) := fun s hs => h s (repI_mem hs)
theorem rep_len {row : List Int} (h : IsRow row) {t : Nat} (ht : t ≤ 10) : (repI (t : Int) row).length ≤ 1000 := by
  rw [repI_len, Int.toNat_natCast]
  have a1 : t * row.length ≤ 10 * 40 := Nat.mul_le_mul ht h.2.2
  omega
theorem mul_row {row : List Int} (h : IsRow row) {t : Nat} (ht : t ≤ 10) : binD .mul (.tuple (row.map .int)) (.int (t : Nat)) = some (.fz (.tuple ((repI (t : Int) row).map .int))) := by
  rw [← repD_map]
  show (if decide ((-1000 : Int) ≤ ((t : Nat) : Int)) && decide (((t : Nat) : Int) ≤ 1000) && decide ((row.map PyData.int).length ≤ 1000) then _ else _) = _
  rw [if_pos (by have := h.2.2; simp; omega)]
def lawWalkRightFn (la fb be : Nat) : Fn := ⟨3, 5, [S.asg (Tg.n 3) (E.call la [E.var 0, E.var 1, E.var 2]), S.asg (Tg.n 4) (E.call fb [E.var 0, E.bin Bop.mul (E.var 1) (E.var 2)]), S.iff ((E.var 4).isc .none true) [S.ret (E.cmp Cop.eq (E.var 3) (E.bin Bop.add (E.tup [E.con (.str "barred")]) (E.bi Bi.divmod [E.var 4, E.bi Bi.len [E.var 1]])))] [], S.ret (E.cmp Cop.eq (E.var 3) (E.tup [E.con (.str "done"), E.call be [E.var 0, E.bin Bop.mul (E.var 1) (E.var 2)]]))]⟩
def PWalkRight (G : Fs) (f : Nat) : Prop := ∀ p hs row (t : Nat), IsSt p hs → IsRow row → t ≤ 10 → G f [.fz (sD p hs), .fz (tI' row), .fz (.int (t : Nat))] = some (.fz (.bool true), [.fz (sD p hs), .fz (tI' row), .fz (.int (t : Nat))])
theorem walkRight_run {G : Fs} {la fb be : Nat} (hla : PLaps G la) (hfb : PBar G fb) (hbe : PBehindR G be) {p : Int} {hs row : List Int} {t : Nat} (h : IsSt p hs) (hr : IsRow row) (ht : t ≤ 10) : runF G (lawWalkRightFn la fb be) [.fz (sD p hs), .fz (tI' row), .fz (.int (t : Nat))] = some (.fz (.bool true), [.fz (sD p hs), .fz (tI' row), .fz (.int (t : Nat))]) := by
  have e1 := hla p hs row t h hr (by omega)
  have e2 := hfb p hs (repI (t : Int) row) h (rep_stps hr.1 _) (rep_len hr ht)
  have em := mul_row hr ht
  have z1 : okSz 1 = true := by decide
  have z2 : okSz 2 = true := by decide
  have z3 : okSz (1 + 2) = true := by decide
  unfold lapsD at e1
  unfold barD at e2
  rcases rnd_two row t (p, hs) with ⟨q1, q2⟩ | ⟨m, a, m1, m2, m3, q1, q2⟩
  · obtain ⟨b1, b2⟩ := bar_rep_none row t (p, hs) q2
    have hw := (bar_walk (rep_stps hr.1 _)).mp b1
    have e3 := hbe p hs (repI (t : Int) row) h hw (rep_len hr ht)
    have b2' : wEnd p hs (repI (t : Int) row) = lapE row t (p, hs) := b2
    rw [b2'] at e3
    have b1' : bar p hs (repI (t : Int) row) = none := b1
    rw [b1'] at e2
    rw [q1] at e1
    have ee := eq_self (sh_done (lapE row t (p, hs)).1 (lapE row t (p, hs)).2)
    simp only [sD, tI', doneD] at *
    simp [runF, lawWalkRightFn, e1, e2, e3, em, ee, z2]
  · have b1 : bar p hs (repI (t : Int) row) = some (m * row.length + a) := bar_rep_some row m t (p, hs) a m1 m2 m3
    rw [b1] at e2
    rw [q1] at e1
    have hl := hr.2.2
    have ed : biD .divmod [.int (((m * row.length + a : Nat) : Nat) : Int), .int (row.length : Nat)] = some (.fz (.tuple [.int (m : Nat), .int (a : Nat)])) := by
      show (if decide ((0 : Int) < ((row.length : Nat) : Int)) && decide (((row.length : Nat) : Int) < 1073741824) then _ else _) = _
      rw [if_pos (by have := hr.2.1; simp; omega)]
      have d1 : (m * row.length + a) / row.length = m := by
        rw [Nat.add_comm, Nat.add_mul_div_right _ _ (by omega), Nat.div_eq_of_lt q2, Nat.zero_add]
      have d2 : (m * row.length + a) % row.length = a := by
        rw [Nat.add_comm, Nat.add_mul_mod_self_right, Nat.mod_eq_of_lt q2]
      rw [← Int.natCast_ediv, ← Int.natCast_emod, d1, d2]
    have ee := eq_self (sh_barred (m : Nat) (a : Nat))
    generalize m * row.length + a = k at *
    simp only [sD, tI', barredD] at *
    simp [runF, lawWalkRightFn, e1, e2, em, ed, ee, z1, z3]
/-! ### together -/
def lawTogetherRightFn (la : Nat) : Fn := ⟨4, 7, [S.par [4, 5] [E.call la [E.var 0, E.var 1, E.var 2], E.call la [E.var 0, E.var 1, E.bin Bop.add (E.var 2) (E.var 3)]], S.iff (E.cmp Cop.eq ((E.var 4).idx (cI 0)) (E.con (.str "barred"))) [S.ret (E.cmp Cop.eq (E.var 5) (E.var 4))] [], S.asg (Tg.n 6) (E.call la [(E.var 4).idx (cI 1), E.var 1, E.var 3]), S.iff (E.cmp Cop.eq ((E.var 6).idx (cI 0)) (E.con (.str "barred"))) [S.ret (E.cmp Cop.eq (E.var 5) (E.tup [E.con (.str "barred"), E.bin Bop.add (E.var 2) ((E.var 6).idx (cI 1)), (E.var 6).idx (cI 2)]))] [], S.ret (E.cmp Cop.eq (E.var 5) (E.var 6))]⟩
def PTogether (G : Fs) (f : Nat) : Prop := ∀ p hs row (t u : Nat), IsSt p hs → IsRow row → t ≤ 10 → u ≤ 1000000 → G f [.fz (sD p hs), .fz (tI' row), .fz (.int (t : Nat)), .fz (.int (u : Nat))] = some (.fz (.bool true), [.fz (sD p hs), .fz (tI' row), .fz (.int (t : Nat)), .fz (.int (u : Nat))])
theorem together_run {G : Fs} {la : Nat} (hla : PLaps G la) {p : Int} {hs row : List Int} {t u : Nat} (h : IsSt p hs) (hr : IsRow row) (ht : t ≤ 10) (hu : u ≤ 1000000) : runF G (lawTogetherRightFn la) [.fz (sD p hs), .fz (tI' row), .fz (.int (t : Nat)), .fz (.int (u : Nat))] = some (.fz (.bool true), [.fz (sD p hs), .fz (tI' row), .fz (.int (t : Nat)), .fz (.int (u : Nat))]) := by
  have e1 := hla p hs row t h hr (by omega)
  have e2 := hla p hs row (t + u) h hr (by omega)
  rw [Int.natCast_add] at e2
  have z3 : okSz 3 = true := by decide
  unfold lapsD at e1 e2
  rcases rnd_two row t (p, hs) with ⟨q1, q2⟩ | ⟨m, a, m1, m2, m3, q1, q2⟩
  · have hst := lapE_st hr.1 (st := (p, hs)) h t q2
    have e3 := hla _ _ row u hst hr (by omega)
    rw [q1] at e1
    rw [rnd_add row t u 0 (p, hs) q2] at e2
    unfold lapsD at e3
    generalize hq : lapE row t (p, hs) = q at *
    obtain ⟨q3, q4⟩ := q
    rcases rnd_two row u (q3, q4) with ⟨r1, r2⟩ | ⟨m, a, m1, m2, m3, r1, r3⟩
    · have r4 := rnd_done row u (0 + t) (q3, q4) r2
      rw [r4] at e2
      have r1' : rnd row u 0 (q3, q4) = doneD (lapE row u (q3, q4)).1 (lapE row u (q3, q4)).2 := r1
      simp only [] at e3
      rw [r1'] at e3
      have ee := eq_self (sh_done (lapE row u (q3, q4)).1 (lapE row u (q3, q4)).2)
      simp only [sD, tI', doneD] at *
      simp [runF, lawTogetherRightFn, e1, e2, e3, cmp_bd, str_db, ee]
    · have r4 := rnd_bar row m u (0 + t) (q3, q4) a m1 m2 m3
      rw [r4] at e2
      simp only [] at e3
      rw [r1] at e3
      have ee := eq_self (sh_barred ((t : Int) + (m : Int)) (a : Nat))
      have ec : ((0 + t + m : Nat) : Int) = (t : Int) + (m : Int) := by push_cast; omega
      rw [ec] at e2
      simp only [sD, tI', doneD, barredD] at *
      simp [runF, lawTogetherRightFn, e1, e2, e3, cmp_bd, str_db, cmp_bb, ee, z3]
  · have q3 : rnd row (t + u) 0 (p, hs) = barredD (m : Nat) (a : Nat) := by
      rw [rnd_bar row m (t + u) 0 (p, hs) a (by omega) m2 m3, Nat.zero_add]
      rfl
    rw [q1] at e1
    rw [q3] at e2
    have ee := eq_self (sh_barred (m : Nat) (a : Nat))
    simp only [sD, tI', barredD] at *
    simp [runF, lawTogetherRightFn, e1, e2, cmp_bb, ee]
/-! ### far -/
def lawFarRightFn (la : Nat) : Fn := ⟨2, 12, [S.par [2, 3] [E.call la [E.var 0, E.var 1, cI 9], E.call la [E.var 0, E.var 1, E.bin Bop.pow (cI 10) (cI 9)]], S.iff (E.cmp Cop.eq ((E.var 2).idx (cI 0)) (E.con (.str "barred"))) [S.ret ((E.cmp Cop.eq (E.var 3) (E.var 2)).and (E.cmp Cop.lt ((E.var 2).idx (cI 1)) (cI 5)))] [], S.asg (Tg.t [Tg.t [Tg.n 4, Tg.n 5], Tg.n 6]) (E.tup [(E.var 2).idx (cI 1), E.call la [E.var 0, E.var 1, cI 10]]), S.iff ((E.cmp Cop.ne (E.var 4) ((E.var 0).idx (cI 0))).or (E.cmp Cop.ne ((E.var 6).idx (cI 0)) (E.con (.str "done")))) [S.ret (E.con (.bool false))] [], S.asg (Tg.n 7) ((E.bin Bop.sub (E.var 9) (E.var 8)).comp (Tg.t [Tg.n 8, Tg.n 9]) (It.zp (E.var 5) (((E.var 6).idx (cI 1)).idx (cI 1))) none [8, 9] false), S.asg (Tg.n 10) (E.bi Bi.tuple [(E.bin Bop.add (E.var 8) (E.bin Bop.mul (E.bin Bop.sub (E.bin Bop.pow (cI 10) (cI 9)) (cI 9)) (E.var 11))).comp (Tg.t [Tg.n 8, Tg.n 11]) (It.zp (E.var 5) (E.var 7)) none [8, 11] false]), S.ret ((E.cmp Cop.eq (E.var 3) (E.tup [E.con (.str "done"), E.tup [E.var 4, E.var 10]])).and (E.cmp Cop.eq (E.bi Bi.sum [E.var 7]) (E.bi Bi.len [E.var 1])))]⟩
def PFar (G : Fs) (f : Nat) : Prop := ∀ p hs row, IsSt p hs → IsRow row → G f [.fz (sD p hs), .fz (tI' row)] = some (.fz (.bool true), [.fz (sD p hs), .fz (tI' row)])
theorem addN_diff : ∀ (hs g : List Int), g.length = hs.length → (List.zip (addN hs 9 g) (addN hs 10 g)).map (fun x => x.2 - x.1) = g
  | [], [], _ => rfl
  | [], _ :: _, h => by cases h
  | _ :: _, [], h => by cases h
  | a :: hs, b :: g, h => by
    have ih := addN_diff hs g (by simpa using h)
    unfold addN at ih ⊢
    simp only [List.zipWith_cons_cons, List.zip_cons_cons, List.map_cons, ih]
    congr 1
    omega
theorem far_run {G : Fs} {la : Nat} (hla : PLaps G la) {p : Int} {hs row : List Int} (h : IsSt p hs) (hr : IsRow row) : runF G (lawFarRightFn la) [.fz (sD p hs), .fz (tI' row)] = some (.fz (.bool true), [.fz (sD p hs), .fz (tI' row)]) := by
  have e1 : G la [.fz (sD p hs), .fz (tI' row), .fz (.int 9)] = some (.fz (rnd row 9 0 (p, hs)), [.fz (sD p hs), .fz (tI' row), .fz (.int 9)]) := hla p hs row 9 h hr (by decide)
  have e2 : G la [.fz (sD p hs), .fz (tI' row), .fz (.int 1000000000)] = some (.fz (rnd row 1000000000 0 (p, hs)), [.fz (sD p hs), .fz (tI' row), .fz (.int 1000000000)]) := hla p hs row 1000000000 h hr (by decide)
  have e3 : G la [.fz (sD p hs), .fz (tI' row), .fz (.int 10)] = some (.fz (rnd row 10 0 (p, hs)), [.fz (sD p hs), .fz (tI' row), .fz (.int 10)]) := hla p hs row 10 h hr (by decide)
  have ep9 : binD .pow (.int 10) (.int 9) = some (.fz (.int 1000000000)) := rfl
  have z2 : okSz 2 = true := by decide
  rcases five row (p, hs) 5 with hb | ⟨m, a, m1, m2, m3⟩
  · have go := laps_go hr.1 h hb
    have b0 : bar p hs row = none := hb 0 (by decide)
    have hw := (bar_walk hr.1).mp b0
    have gl := gain_len row (p, hs)
    have sg := sum_gain (st := (p, hs)) h hw
    have done : ∀ n : Nat, rnd row n 0 (p, hs) = doneD p (addN hs n (gain row (p, hs))) := fun n => by
      have := rnd_done row n 0 (p, hs) fun m _ => (go m).2
      rw [(go n).1] at this
      exact this
    have d9 : rnd row 9 0 (p, hs) = doneD p (addN hs 9 (gain row (p, hs))) := done 9
    have d10 : rnd row 10 0 (p, hs) = doneD p (addN hs 10 (gain row (p, hs))) := done 10
    have dF : rnd row 1000000000 0 (p, hs) = doneD p (addN hs 1000000000 (gain row (p, hs))) := done 1000000000
    rw [d9] at e1
    rw [dF] at e2
    rw [d10] at e3
    generalize hg : gain row (p, hs) = g at *
    have gl : g.length = hs.length := gl
    have l5 := h.1.2.1
    have ez1 := pairs_ints (addN hs 9 g) (addN hs 10 g)
    have ez2 := pairs_ints (addN hs 9 g) g
    have ew1 := addN_diff hs g gl
    have ew2 := addN_zip (addN hs 9 g) g 999999991
    rw [addN_add _ _ gl] at ew2
    rw [show (9 : Int) + 999999991 = 1000000000 by decide] at ew2
    have a9 : (addN hs 9 g).length = hs.length := addN_len _ gl
    have em : ∀ x : Int, binD .mul (.int 999999991) (.int x) = some (.fz (.int (999999991 * x))) := fun x => binD_mulL (by decide)
    have ec1 : ev G ((E.bin Bop.sub (E.var 9) (E.var 8)).comp (Tg.t [Tg.n 8, Tg.n 9]) (It.zp (E.var 5) (((E.var 6).idx (cI 1)).idx (cI 1))) none [8, 9] false) [some (.fz (sD p hs)), some (.fz (tI' row)), some (.fz (doneD p (addN hs 9 g))), some (.fz (doneD p (addN hs 1000000000 g))), some (.fz (.int p)), some (.fz (tI' (addN hs 9 g))), some (.fz (doneD p (addN hs 10 g))), none, none, none, none, none]
        = some (.st (.ol (g.map .int)), [some (.fz (sD p hs)), some (.fz (tI' row)), some (.fz (doneD p (addN hs 9 g))), some (.fz (doneD p (addN hs 1000000000 g))), some (.fz (.int p)), some (.fz (tI' (addN hs 9 g))), some (.fz (doneD p (addN hs 10 g))), none, none, none, none, none]) := by
      have ef : ((List.zip (addN hs 9 g) (addN hs 10 g)).map fun x => PyData.int (x.2 - x.1)) = g.map .int := by
        conv => rhs; rw [← ew1]
        rw [List.map_map]
        rfl
      rw [← ef]
      refine ev_comp_map _ (fun x : Int × Int => .tuple [.int x.1, .int x.2]) _ ?_ (fun x hx => ?_) (by rw [List.length_zip, a9]; omega)
      · simp only [sD, tI', doneD]
        simp [ez1, Vl.strip]
      · simp only [sD, tI']
        simp [turn0, wipeF, wipeP]
    have ec2 : ev G ((E.bin Bop.add (E.var 8) (E.bin Bop.mul (E.bin Bop.sub (E.bin Bop.pow (cI 10) (cI 9)) (cI 9)) (E.var 11))).comp (Tg.t [Tg.n 8, Tg.n 11]) (It.zp (E.var 5) (E.var 7)) none [8, 11] false) [some (.fz (sD p hs)), some (.fz (tI' row)), some (.fz (doneD p (addN hs 9 g))), some (.fz (doneD p (addN hs 1000000000 g))), some (.fz (.int p)), some (.fz (tI' (addN hs 9 g))), some (.fz (doneD p (addN hs 10 g))), some (.ol (g.map .int)), none, none, none, none]
        = some (.st (.ol ((addN hs 1000000000 g).map .int)), [some (.fz (sD p hs)), some (.fz (tI' row)), some (.fz (doneD p (addN hs 9 g))), some (.fz (doneD p (addN hs 1000000000 g))), some (.fz (.int p)), some (.fz (tI' (addN hs 9 g))), some (.fz (doneD p (addN hs 10 g))), some (.fz (.list (g.map .int))), none, none, none, none]) := by
      have ef : ((List.zip (addN hs 9 g) g).map fun x => PyData.int (x.1 + 999999991 * x.2)) = (addN hs 1000000000 g).map .int := by
        rw [← ew2, List.map_map]
        rfl
      rw [← ef]
      refine ev_comp_map _ (fun x : Int × Int => .tuple [.int x.1, .int x.2]) _ ?_ (fun x hx => ?_) (by rw [List.length_zip, a9]; omega)
      · simp only [sD, tI', doneD]
        simp [ez2, Vl.strip]
      · simp only [sD, tI', doneD]
        simp [turn0, wipeF, wipeP, em, ep9]
    have es := sum_ints g
    rw [sg] at es
    have ee := eq_self (sh_done p (addN hs 1000000000 g))
    have en := ne_int p p
    simp only [sD, tI', doneD] at *
    simp [runF, lawFarRightFn, e1, e2, e3, ep9, cmp_bd, str_db, cmp_nd, ec1, ec2, es, ee, en, z2]
  · have q : ∀ n : Nat, 5 ≤ n → rnd row n 0 (p, hs) = barredD (m : Nat) (a : Nat) := fun n hn => by
      rw [rnd_bar row m n 0 (p, hs) a (by omega) m2 m3, Nat.zero_add]
      rfl
    rw [q 9 (by omega)] at e1
    rw [q 1000000000 (by omega)] at e2
    have ee := eq_self (sh_barred (m : Nat) (a : Nat))
    have m5 : ((m : Nat) : Int) < 5 := by omega
    simp only [sD, tI', barredD] at *
    simp [runF, lawFarRightFn, e1, e2, ep9, cmp_bb, ee, m5]
end Tr

set_option Elab.async false
set_option linter.all false
set_option maxRecDepth 100000
set_option maxHeartbeats 4000000
/-! Marks: the program's crossings. -/
namespace Tr
open PySem
def needRisesFn (ac : Nat) : Fn := ⟨1, 1, [S.iff (E.call ac [E.var 0]).not [S.stop] []]⟩
def needPlaceFn (iw : Nat) : Fn := ⟨2, 2, [S.iff (E.call iw [E.var 1, cI 0, E.bin Bop.sub (E.var 0) (cI 1)]).not [S.stop] []]⟩
def countedFn : Fn := ⟨3, 8, [S.par [3, 4] [E.lst [], cI 0], S.for (Tg.t [Tg.n 5, Tg.n 6]) (It.en ((E.var 0).slc none (some (nI 1)) false)) [S.asg (Tg.n 7) (E.bin Bop.sub (E.var 6) (E.var 4)), S.asg (Tg.n 4) (E.bin Bop.add (E.bin Bop.sub (E.var 7) (E.bi Bi.int [E.chn Cop.le Cop.lt (E.var 1) (E.var 5) (E.var 2)])) (E.bi Bi.int [E.chn Cop.le Cop.lt (E.var 2) (E.var 5) (E.var 1)])), S.app 3 (E.tup [E.var 7, E.var 4])], S.retv 3]⟩
def hangTogetherFn : Fn := ⟨3, 9, [S.asg (Tg.n 3) ((E.var 4).comp (Tg.t [Tg.n 4, Tg.t [Tg.n 5, Tg.n 6]]) (It.en (E.var 0)) (some (E.cmp Cop.gt (E.bin Bop.add (E.var 5) (E.var 6)) (cI 0))) [4, 5, 6] false), S.iff (E.cmp Cop.eq (E.var 3) (E.lst [])) [S.ret (E.cmp Cop.eq (E.var 1) (E.var 2))] [], S.par [7, 8] [E.bi Bi.min [E.var 3], E.bin Bop.add (E.bi Bi.max [E.var 3]) (cI 1)], S.ret ((E.cmp Cop.eq (E.bi Bi.len [E.var 3]) (E.bin Bop.sub (E.var 8) (E.var 7))).and (E.chn Cop.le Cop.le (E.var 7) (E.var 1) (E.var 8)))]⟩
def crossingsByFn (co ht : Nat) : Fn := ⟨3, 5, [S.asg (Tg.n 3) (E.call co [E.var 0, E.var 1, E.var 2]), S.iff ((E.cmp Cop.lt (E.bi Bi.min [(E.bi Bi.min [E.var 4]).comp (Tg.n 4) (It.li (E.var 3)) none [4] false]) (cI 0)).or ((E.cmp Cop.ne (((E.var 3).idx (nI 1)).idx (cI 1)) ((E.var 0).idx (nI 1))).or (E.call ht [E.var 3, E.var 1, E.var 2]).not)) [S.ret (E.con .none)] [], S.ret (E.bi Bi.tuple [E.var 3])]⟩
def crossingsFn (nr np cb : Nat) : Fn := ⟨3, 3, [S.exp (E.call nr [E.var 0]), S.exp (E.call np [E.bi Bi.len [E.var 0], E.var 1]), S.exp (E.call np [E.bi Bi.len [E.var 0], E.var 2]), S.ret (E.call cb [E.var 0, E.var 1, E.var 2])]⟩
def allEndsFn (nr cb : Nat) : Fn := ⟨1, 5, [S.exp (E.call nr [E.var 0]), S.asg (Tg.n 1) ((E.tup [E.var 2, E.var 3]).comp2 (Tg.n 2) (It.rg1 (E.bi Bi.len [E.var 0])) none (Tg.n 3) (It.rg1 (E.bi Bi.len [E.var 0])) none [2, 3] [3]), S.ret (E.bi Bi.tuple [(E.var 4).comp (Tg.n 4) (It.li (E.var 1)) (some ((E.call cb [E.var 0, (E.var 4).idx (cI 0), (E.var 4).idx (cI 1)]).isc .none true)) [4] false])]⟩
def PNeedRises (G : Fs) (f : Nat) : Prop := ∀ hs, IsHs hs → G f [.fz (tI' hs)] = some (.fz .none, [.fz (tI' hs)])
theorem needRises_run {G : Fs} {ac : Nat} (h : PCounts G ac) {hs : List Int} (h1 : IsHs hs) : runF G (needRisesFn ac) [.fz (tI' hs)] = some (.fz .none, [.fz (tI' hs)]) := by
  have e1 := h hs h1
  simp only [tI'] at *
  simp [runF, needRisesFn, e1]
def PNeedPlace (G : Fs) (f : Nat) : Prop := ∀ n p : Int, 0 ≤ p → p < n → G f [.fz (.int n), .fz (.int p)] = some (.fz .none, [.fz (.int n), .fz (.int p)])
theorem needPlace_run {G : Fs} {iw : Nat} (h : PWithin G iw) {n p : Int} (h0 : 0 ≤ p) (h1 : p < n) : runF G (needPlaceFn iw) [.fz (.int n), .fz (.int p)] = some (.fz .none, [.fz (.int n), .fz (.int p)]) := by
  have e1 := h p 0 (n - 1) h0 (by omega)
  simp [runF, needPlaceFn, e1]
/-! ### counted -/
def prD (x : Int × Int) : D := .tuple [.int x.1, .int x.2]
def cntF (b e : Int) : List Int → Int → Int → List (Int × Int)
  | [], _, _ => []
  | r :: rs, k, back => (r - back, r - back - (if b ≤ k ∧ k < e then 1 else 0) + (if e ≤ k ∧ k < b then 1 else 0)) :: cntF b e rs (k + 1) (r - back - (if b ≤ k ∧ k < e then 1 else 0) + (if e ≤ k ∧ k < b then 1 else 0))
theorem cntF_len : ∀ (b e : Int) (rs : List Int) (k back : Int), (cntF b e rs k back).length = rs.length
  | _, _, [], _, _ => rfl
  | b, e, r :: rs, k, back => by simp [cntF, cntF_len b e rs]
def countedIn : List S := [S.asg (Tg.n 7) (E.bin Bop.sub (E.var 6) (E.var 4)), S.asg (Tg.n 4) (E.bin Bop.add (E.bin Bop.sub (E.var 7) (E.bi Bi.int [E.chn Cop.le Cop.lt (E.var 1) (E.var 5) (E.var 2)])) (E.bi Bi.int [E.chn Cop.le Cop.lt (E.var 2) (E.var 5) (E.var 1)])), S.app 3 (E.tup [E.var 7, E.var 4])]
theorem counted_loop {G : Fs} {b e : Int} (r0 : Option Vl) : ∀ (rs : List Int) (k : Nat) (back : Int) (acc : List D) (o5 o6 o7 : Option Vl), acc.length + rs.length ≤ 100 →
    ∃ (b4 b5 b6 b7 : Option Vl), forN (turnF G [] (Tg.t [Tg.n 5, Tg.n 6]) countedIn) ((rs.zipIdx k).map fun x => .tuple [.int (x.2 : Nat), .int x.1]) [r0, some (.fz (.int b)), some (.fz (.int e)), some (.ol acc), some (.fz (.int back)), o5, o6, o7] = some (.nx, [r0, some (.fz (.int b)), some (.fz (.int e)), some (.ol (acc ++ (cntF b e rs (k : Int) back).map prD)), b4, b5, b6, b7])
  | [], k, back, acc, o5, o6, o7, _ => ⟨some (.fz (.int back)), o5, o6, o7, by simp [cntF, forN]⟩
  | r :: rs, k, back, acc, o5, o6, o7, hl => by
    have zl : acc.length < 16777216 := by simp at hl; omega
    have z2 : okSz 2 = true := by decide
    let bk : Int := r - back - (if b ≤ (k : Int) ∧ (k : Int) < e then 1 else 0) + (if e ≤ (k : Int) ∧ (k : Int) < b then 1 else 0)
    have et : turnF G [] (Tg.t [Tg.n 5, Tg.n 6]) countedIn (.tuple [.int (k : Nat), .int r]) [r0, some (.fz (.int b)), some (.fz (.int e)), some (.ol acc), some (.fz (.int back)), o5, o6, o7] = some (.nx, [r0, some (.fz (.int b)), some (.fz (.int e)), some (.ol (acc ++ [prD (r - back, bk)])), some (.fz (.int bk)), some (.fz (.int (k : Nat))), some (.fz (.int r)), some (.fz (.int (r - back)))]) := by
      simp only [bk, prD]
      by_cases h1 : b ≤ (k : Int) <;> by_cases h2 : (k : Int) < e <;> by_cases h3 : e ≤ (k : Int) <;> by_cases h4 : (k : Int) < b <;> first | (exfalso; omega) | simp [turnF, countedIn, h1, h2, h3, h4, zl, z2]
    rw [List.zipIdx_cons, List.map_cons]
    unfold forN
    rw [et]
    simp only [Option.bind_some]
    obtain ⟨b4, b5, b6, b7, q⟩ := counted_loop (b := b) (e := e) r0 rs (k + 1) bk (acc ++ [prD (r - back, bk)]) (some (.fz (.int (k : Nat)))) (some (.fz (.int r))) (some (.fz (.int (r - back)))) (by simp at hl ⊢; omega)
    refine ⟨b4, b5, b6, b7, ?_⟩
    rw [q]
    have ek : ((k + 1 : Nat) : Int) = (k : Int) + 1 := by omega
    simp only [cntF, List.map_cons, ek]
    rw [List.append_assoc]
    rfl
def PCounted (G : Fs) (f : Nat) : Prop := ∀ (rs : List Int) (b e : Int), rs.length ≤ 50 → G f [.fz (tI' rs), .fz (.int b), .fz (.int e)] = some (.ol ((cntF b e rs.dropLast 0 0).map prD), [.fz (tI' rs), .fz (.int b), .fz (.int e)])
theorem counted_run (G : Fs) {rs : List Int} {b e : Int} (hl : rs.length ≤ 50) : runF G countedFn [.fz (tI' rs), .fz (.int b), .fz (.int e)] = some (.ol ((cntF b e rs.dropLast 0 0).map prD), [.fz (tI' rs), .fz (.int b), .fz (.int e)]) := by
  obtain ⟨b4, b5, b6, b7, q⟩ := counted_loop (G := G) (b := b) (e := e) (some (.fz (tI' rs))) rs.dropLast 0 0 [] none none none (by simp; omega)
  have e1 : cutL (rs.map PyData.int) none (some (-1)) = (rs.dropLast).map .int := by rw [cutL_init, List.map_dropLast]
  have e2 := enum_ints rs.dropLast
  have z0 : okSz 0 = true := by decide
  simp only [tI', countedIn, List.nil_append, Int.natCast_zero] at *
  generalize rs.dropLast = rd at *
  simp [runF, countedFn, e1, e2, q, z0]
/-! ### hanging together -/
def usedF : List (Int × Int) → Nat → List Int
  | [], _ => []
  | x :: xs, k => if 0 < x.1 + x.2 then (k : Int) :: usedF xs (k + 1) else usedF xs (k + 1)
theorem usedF_is : ∀ (f : List (Int × Int)) (k : Nat), ((f.zipIdx k).filter fun x => decide (0 < x.1.1 + x.1.2)).map (fun x => PyData.int (x.2 : Nat)) = (usedF f k).map .int
  | [], _ => rfl
  | x :: xs, k => by
    rw [List.zipIdx_cons, List.filter_cons]
    unfold usedF
    by_cases c : 0 < x.1 + x.2
    · simp only [c, decide_true, if_true, List.map_cons, usedF_is xs (k + 1)]
    · simp only [c, decide_false, if_false, usedF_is xs (k + 1), Bool.false_eq_true]
def hangB (f : List (Int × Int)) (b e : Int) : Bool := match usedF f 0 with
  | [] => decide (b = e)
  | n :: ns => decide ((((n :: ns).length : Nat) : Int) = ns.foldl max n + 1 - ns.foldl min n) && (decide (ns.foldl min n ≤ b) && decide (b ≤ ns.foldl max n + 1))
def PHang (G : Fs) (f : Nat) : Prop := ∀ (xs : List (Int × Int)) (b e : Int), xs.length ≤ 50 → G f [.fz (.list (xs.map prD)), .fz (.int b), .fz (.int e)] = some (.fz (.bool (hangB xs b e)), [.fz (.list (xs.map prD)), .fz (.int b), .fz (.int e)])
theorem hang_run (G : Fs) {xs : List (Int × Int)} {b e : Int} (hl : xs.length ≤ 50) : runF G hangTogetherFn [.fz (.list (xs.map prD)), .fz (.int b), .fz (.int e)] = some (.fz (.bool (hangB xs b e)), [.fz (.list (xs.map prD)), .fz (.int b), .fz (.int e)]) := by
  have en := enum_map prD xs
  have ec : ev G ((E.var 4).comp (Tg.t [Tg.n 4, Tg.t [Tg.n 5, Tg.n 6]]) (It.en (E.var 0)) (some (E.cmp Cop.gt (E.bin Bop.add (E.var 5) (E.var 6)) (cI 0))) [4, 5, 6] false) [some (.fz (.list (xs.map prD))), some (.fz (.int b)), some (.fz (.int e)), none, none, none, none, none, none] = some (.st (.ol ((usedF xs 0).map .int)), [some (.fz (.list (xs.map prD))), some (.fz (.int b)), some (.fz (.int e)), none, none, none, none, none, none]) := by
    rw [← usedF_is xs 0]
    refine ev_comp_filter xs.zipIdx (fun x => .tuple [.int (x.2 : Nat), prD x.1]) (fun x => .int (x.2 : Nat)) (fun x => decide (0 < x.1.1 + x.1.2)) ?_ (fun x _ => ?_) (by rw [List.length_zipIdx]; omega)
    · simp [en]
    · by_cases c : 0 < x.1.1 + x.1.2 <;> simp [turn0, wipeF, wipeP, prD, c]
  unfold hangB
  cases hu : usedF xs 0 with
  | nil =>
    rw [hu] at ec
    have z0 : okSz 0 = true := by decide
    have e0 := eq_nilL []
    simp only [List.map_nil] at *
    have hbe : (b == e) = decide (b = e) := by by_cases h : b = e <;> simp [h]
    simp [runF, hangTogetherFn, ec, z0, e0, hbe]
  | cons n ns =>
    rw [hu] at ec
    have z0 : okSz 0 = true := by decide
    have e0 := eq_nilL (n :: ns)
    have e1 := minL_ints n ns
    have e2 := maxL_ints n ns
    dsimp only
    generalize hm : ns.foldl min n = lo at *
    generalize hM : ns.foldl max n = hi at *
    have hlen : ((List.map PyData.int (n :: ns)).length) = (n :: ns).length := List.length_map _
    generalize hL : (n :: ns).map PyData.int = us at *
    have e3 : cmpD .eq (.list us) (.list []) = some false := e0
    by_cases c1 : (((n :: ns).length : Nat) : Int) = hi + 1 - lo
    · have c1' : ((us.length : Nat) : Int) = hi + 1 - lo := by rw [hlen]; exact c1
      by_cases c2 : lo ≤ b
      · by_cases c3 : b ≤ hi + 1 <;> simp [runF, hangTogetherFn, ec, z0, e3, e1, e2, c1', c2, c3, ← hlen]
      · simp [runF, hangTogetherFn, ec, z0, e3, e1, e2, c1', c2, ← hlen]
    · have c1' : (((us.length : Nat) : Int) == hi + 1 - lo) = false := by rw [hlen]; simpa using c1
      have c1'' : ¬ ((us.length : Nat) : Int) = hi + 1 - lo := by rw [hlen]; exact c1
      simp [runF, hangTogetherFn, ec, z0, e3, e1, e2, c1', c1'', ← hlen]
/-! ### crossings -/
def minP (f : List (Int × Int)) : Int := match f.map fun x => min x.1 x.2 with
  | [] => 0
  | n :: ns => ns.foldl min n
def lastD (rs : List Int) : Int := rs.getD (rs.length - 1) 0
def crossD (rs : List Int) (b e : Int) : D :=
  let f := cntF b e rs.dropLast 0 0
  if decide (minP f < 0) || (!decide ((f.getD (f.length - 1) (0, 0)).2 = lastD rs)) || !hangB f b e then .none else .tuple (f.map prD)
def PCrossBy (G : Fs) (f : Nat) : Prop := ∀ (rs : List Int) (b e : Int), 2 ≤ rs.length → rs.length ≤ 50 → G f [.fz (tI' rs), .fz (.int b), .fz (.int e)] = some (.fz (crossD rs b e), [.fz (tI' rs), .fz (.int b), .fz (.int e)])
theorem crossBy_run {G : Fs} {co ht : Nat} (hc : PCounted G co) (hh : PHang G ht) {rs : List Int} {b e : Int} (h2 : 2 ≤ rs.length) (hl : rs.length ≤ 50) : runF G (crossingsByFn co ht) [.fz (tI' rs), .fz (.int b), .fz (.int e)] = some (.fz (crossD rs b e), [.fz (tI' rs), .fz (.int b), .fz (.int e)]) := by
  have e1 := hc rs b e hl
  unfold crossD
  dsimp only
  have fl : (cntF b e rs.dropLast 0 0).length = rs.length - 1 := by rw [cntF_len, List.length_dropLast]
  generalize cntF b e rs.dropLast 0 0 = f at *
  have e2 := hh f b e (by omega)
  have ec : ev G ((E.bi Bi.min [E.var 4]).comp (Tg.n 4) (It.li (E.var 3)) none [4] false) [some (.fz (tI' rs)), some (.fz (.int b)), some (.fz (.int e)), some (.ol (f.map prD)), none] = some (.st (.ol ((f.map fun x => min x.1 x.2).map .int)), [some (.fz (tI' rs)), some (.fz (.int b)), some (.fz (.int e)), some (.fz (.list (f.map prD))), none]) := by
    rw [List.map_map]
    refine ev_comp_map f prD _ ?_ (fun x _ => ?_) (by omega)
    · simp
    · have em := min_ints x.1 [x.2]
      simp only [List.map_cons, List.map_nil, List.foldl_cons, List.foldl_nil] at em
      simp [turn0, wipeF, wipeP, prD, em]
  have el : idxD (.list (f.map prD)) (.int (-1)) = some (prD (f.getD (f.length - 1) (0, 0))) := by
    have hn : 0 < f.length := by omega
    simp only [idxD, List.length_map, place_last hn, Option.bind_some, List.getElem?_map]
    rw [List.getD_eq_getElem?_getD, List.getElem?_eq_getElem (by omega)]
    rfl
  have er : idxD (.tuple (rs.map .int)) (.int (-1)) = some (.int (lastD rs)) := by
    have hn : 0 < rs.length := by omega
    simp only [idxD, List.length_map, place_last hn, Option.bind_some, List.getElem?_map]
    unfold lastD
    rw [List.getD_eq_getElem?_getD, List.getElem?_eq_getElem (by omega)]
    rfl
  have emin : biD .min [.list ((f.map fun x => min x.1 x.2).map .int)] = some (.fz (.int (minP f))) := by
    unfold minP
    cases hf : f.map fun x => min x.1 x.2 with
    | nil =>
      have : (f.map fun x => min x.1 x.2).length = 0 := by rw [hf]; rfl
      rw [List.length_map] at this
      omega
    | cons n ns => exact minL_ints n ns
  have en := ne_int (f.getD (f.length - 1) (0, 0)).2 (lastD rs)
  have en2 := ne_int (lastD rs) (lastD rs)
  generalize hms : (f.map fun x => min x.1 x.2).map PyData.int = ms at *
  generalize hls : f.getD (f.length - 1) (0, 0) = la at *
  obtain ⟨l1, l2⟩ := la
  have el : idxD (.list (f.map prD)) (.int (-1)) = some (.tuple [.int l1, .int l2]) := el
  generalize f.map prD = fs at *
  simp only [tI'] at *
  by_cases c1 : minP f < 0
  · simp [runF, crossingsByFn, e1, ec, emin, c1]
  · by_cases c2 : l2 = lastD rs
    · cases c3 : hangB f b e
      · rw [c3] at e2
        simp [runF, crossingsByFn, e1, ec, emin, c1, el, er, en, en2, c2, e2]
      · rw [c3] at e2
        simp [runF, crossingsByFn, e1, ec, emin, c1, el, er, en, en2, c2, e2]
    · simp [runF, crossingsByFn, e1, ec, emin, c1, el, er, en, c2]
def PCross (G : Fs) (f : Nat) : Prop := ∀ (rs : List Int) (b e : Int), IsHs rs → 0 ≤ b → b < rs.length → 0 ≤ e → e < rs.length → G f [.fz (tI' rs), .fz (.int b), .fz (.int e)] = some (.fz (crossD rs b e), [.fz (tI' rs), .fz (.int b), .fz (.int e)])
theorem cross_run {G : Fs} {nr np cb : Nat} (hn : PNeedRises G nr) (hp : PNeedPlace G np) (hc : PCrossBy G cb) {rs : List Int} {b e : Int} (h : IsHs rs) (b0 : 0 ≤ b) (b1 : b < rs.length) (e0 : 0 ≤ e) (e1 : e < rs.length) : runF G (crossingsFn nr np cb) [.fz (tI' rs), .fz (.int b), .fz (.int e)] = some (.fz (crossD rs b e), [.fz (tI' rs), .fz (.int b), .fz (.int e)]) := by
  have q1 := hn rs h
  have q2 := hp (rs.length : Int) b b0 b1
  have q3 := hp (rs.length : Int) e e0 e1
  have q4 := hc rs b e h.1 (by have := h.2.1; omega)
  simp only [tI'] at *
  simp [runF, crossingsFn, q1, q2, q3, q4]
/-! ### all begins and ends -/
def everP (n : Nat) : List (Int × Int) := (List.range n).flatMap fun (b : Nat) => (List.range n).map fun (e : Nat) => ((b : Int), (e : Int))
def notNone : D → Bool
  | .none => false
  | _ => true
def endsP (rs : List Int) : List (Int × Int) := (everP rs.length).filter fun x => notNone (crossD rs x.1 x.2)
def PEnds (G : Fs) (f : Nat) : Prop := ∀ rs : List Int, IsHs rs → G f [.fz (tI' rs)] = some (.fz (.tuple ((endsP rs).map prD)), [.fz (tI' rs)])
theorem ends_run {G : Fs} {nr cb : Nat} (hn : PNeedRises G nr) (hc : PCrossBy G cb) {rs : List Int} (h : IsHs rs) : runF G (allEndsFn nr cb) [.fz (tI' rs)] = some (.fz (.tuple ((endsP rs).map prD)), [.fz (tI' rs)]) := by
  have q1 := hn rs h
  have l5 := h.2.1
  have sm := small_ok (n := (rs.length : Int)) (by omega) (by omega)
  have er := rangeD_nat rs.length
  have z2 : okSz 2 = true := by decide
  have hlen : (everP rs.length).length ≤ 25 := by
    unfold everP
    rw [List.length_flatMap]
    simp only [List.length_map, List.length_range]
    rw [List.map_const', List.sum_replicate_nat, List.length_range]
    have := Nat.mul_le_mul l5 l5
    omega
  have ec1 : ev G ((E.tup [E.var 2, E.var 3]).comp2 (Tg.n 2) (It.rg1 (E.bi Bi.len [E.var 0])) none (Tg.n 3) (It.rg1 (E.bi Bi.len [E.var 0])) none [2, 3] [3]) [some (.fz (tI' rs)), none, none, none, none] = some (.st (.ol ((everP rs.length).map prD)), [some (.fz (tI' rs)), none, none, none, none]) := by
    have ei : ∀ (o1 o2 o3 o4 : Option Vl), its G (It.rg1 (E.bi Bi.len [E.var 0])) [some (.fz (tI' rs)), o1, o2, o3, o4] = some ((List.range rs.length).map fun (i : Nat) => .int (i : Int), [some (.fz (tI' rs)), o1, o2, o3, o4]) := by
      intro o1 o2 o3 o4
      rw [← er]
      exact its_rg1_of (by simp [tI']) sm
    have ef : (everP rs.length).map prD = (List.range rs.length).flatMap fun (b : Nat) => (List.range rs.length).map fun (e : Nat) => PyData.tuple [.int (b : Int), .int (e : Int)] := by
      unfold everP
      rw [List.map_flatMap]
      simp only [List.map_map]
      rfl
    rw [ef]
    refine ev_comp2_map (List.range rs.length) (fun (i : Nat) => .int (i : Int)) _ (ei _ _ _ _) (fun b _ fr hfr => ?_) (by rw [← ef, List.length_map]; omega)
    have hfr' : wipeF fr [2, 3] = [some (.fz (tI' rs)), none, none, none, none] := hfr
    have et : turn2 G (E.tup [E.var 2, E.var 3]) (Tg.n 2) none (Tg.n 3) (It.rg1 (E.bi Bi.len [E.var 0])) none [2, 3] [3] (.int (b : Int)) fr = compN (turnC G (E.tup [E.var 2, E.var 3]) (Tg.n 3) none [3]) ((List.range rs.length).map fun (i : Nat) => .int (i : Int)) [some (.fz (tI' rs)), none, some (.fz (.int (b : Int))), none, none] := by
      unfold turn2
      rw [hfr']
      have p1 : putTg [] (Tg.n 2) (.fz (.int (b : Int))) [some (.fz (tI' rs)), none, none, none, none] = some [some (.fz (tI' rs)), none, some (.fz (.int (b : Int))), none, none] := rfl
      rw [p1]
      simp only [Option.bind_some]
      have p2 : truO G none [some (.fz (tI' rs)), none, some (.fz (.int (b : Int))), none, none] = some (true, [some (.fz (tI' rs)), none, some (.fz (.int (b : Int))), none, none]) := by unfold truO; rfl
      rw [p2]
      simp only [Option.bind_some, if_true, ei]
    rw [et]
    obtain ⟨g, c1, c2⟩ := compN_map (G := G) (elt := E.tup [E.var 2, E.var 3]) (tg := Tg.n 3) (cond := none) (ws := [3]) (g0 := [some (.fz (tI' rs)), none, some (.fz (.int (b : Int))), none, none]) (enc := fun (i : Nat) => .int (i : Int)) (f := fun (e : Nat) => PyData.tuple [.int (b : Int), .int (e : Int)]) (l := List.range rs.length) (fun e _ => ⟨[some (.fz (tI' rs)), none, some (.fz (.int (b : Int))), some (.fz (.int (e : Int))), none], by simp [turn0, z2], rfl⟩) [some (.fz (tI' rs)), none, some (.fz (.int (b : Int))), none, none] rfl
    refine ⟨g, ?_, ?_⟩
    · rw [c1, List.map_map]
      rfl
    · rw [← wipeF_wipe (f := g) (ws := [2, 3]) (ws1 := [3]) (by simp), c2]
      rfl
  have ec2 : ev G ((E.var 4).comp (Tg.n 4) (It.li (E.var 1)) (some ((E.call cb [E.var 0, (E.var 4).idx (cI 0), (E.var 4).idx (cI 1)]).isc .none true)) [4] false) [some (.fz (tI' rs)), some (.ol ((everP rs.length).map prD)), none, none, none] = some (.st (.ol ((endsP rs).map prD)), [some (.fz (tI' rs)), some (.fz (.list ((everP rs.length).map prD))), none, none, none]) := by
    unfold endsP
    refine ev_comp_filter (everP rs.length) prD prD (fun x => notNone (crossD rs x.1 x.2)) ?_ (fun x _ => ?_) (by omega)
    · simp
    · have q := hc rs x.1 x.2 h.1 (by omega)
      have i0 : idxD (.tuple [.int x.1, .int x.2]) (.int 0) = some (.int x.1) := idx_0 _ _
      have i1 : idxD (.tuple [.int x.1, .int x.2]) (.int 1) = some (.int x.2) := idx_1 _ _ _
      simp only [tI', prD] at *
      cases hd : crossD rs x.1 x.2 <;> (rw [hd] at q; simp [turn0, wipeF, wipeP, q, notNone])
  simp only [tI'] at *
  simp [runF, allEndsFn, q1, ec1, ec2]
end Tr

set_option Elab.async false
set_option linter.all false
set_option maxRecDepth 100000
set_option maxHeartbeats 4000000
/-! Marks: free walks, what they leave. -/
namespace Tr
open PySem
/-! ### lists of lists, made -/
theorem compN_own {α : Type} {G : Fs} {elt : E} {tg : Tg} {cond : Option E} {ws : List Nat} {g0 : Fm} {enc : α → D} {f : α → List D} : ∀ {l : List α}, (∀ x ∈ l, ∃ g, turn0 G elt tg cond (enc x) g0 = some (some (.ol (f x)), g) ∧ wipeF g ws = g0) → ∀ fr, wipeF fr ws = g0 → ∃ fr', compN (turnC G elt tg cond ws) (l.map enc) fr = some (l.map fun x => Vl.ol (f x), fr') ∧ wipeF fr' ws = g0
  | [], _, fr, hf => ⟨fr, rfl, hf⟩
  | d :: ds, h, fr, hf => by
    obtain ⟨g, e1, e2⟩ := h d List.mem_cons_self
    obtain ⟨fr', e3, e4⟩ := compN_own (fun d hd => h d (List.mem_cons_of_mem _ hd)) g e2
    refine ⟨fr', ?_, e4⟩
    rw [List.map_cons]
    unfold compN
    rw [turnC_eq hf, e1]
    show (compN (turnC G elt tg cond ws) (ds.map enc) g).map _ = _
    rw [e3]
    rfl
theorem olsOf_map {α : Type} (f : α → List D) : ∀ l : List α, olsOf (l.map fun x => Vl.ol (f x)) = some (l.map f)
  | [] => rfl
  | x :: l => by
    rw [List.map_cons]
    show (olsOf (l.map fun x => Vl.ol (f x))).map _ = _
    rw [olsOf_map f l]
    rfl
theorem ev_comp_own {α : Type} {G : Fs} {elt : E} {tg : Tg} {it : It} {cond : Option E} {ws : List Nat} {fr fr1 : Fm} (l : List α) (enc : α → D) (f : α → List D) (hi : its G it fr = some (l.map enc, fr1))
    (ht : ∀ x ∈ l, ∃ g, turn0 G elt tg cond (enc x) (wipeF fr1 ws) = some (some (.ol (f x)), g) ∧ wipeF g ws = wipeF fr1 ws) (hsz : l.length ≤ 16777216) : ev G (.comp elt tg it cond ws true) fr = some (.st (.oo (l.map f)), fr1) := by
  obtain ⟨fr', e1, e2⟩ := compN_own (ws := ws) (g0 := wipeF fr1 ws) (f := f) ht fr1 rfl
  unfold ev
  rw [hi]
  show (compN (turnC G elt tg cond ws) (l.map enc) fr1).bind _ = _
  rw [e1]
  have hs : okSz (l.map fun x => Vl.ol (f x)).length = true := by
    unfold okSz
    exact decide_eq_true (by rw [List.length_map]; exact hsz)
  show (if okSz (l.map fun x => Vl.ol (f x)).length then _ else _) = _
  rw [if_pos hs, if_pos rfl, unwipe_of e2, olsOf_map]
  rfl
/-! ### free walks -/
def FreeW (n : Int) : Int → List Int → Prop
  | _, [] => True
  | p, s :: ws => IsStp s ∧ 0 ≤ p + s ∧ p + s < n ∧ FreeW n (p + s) ws
theorem free_snoc {n : Int} : ∀ {ws : List Int} {p s : Int}, FreeW n p ws → IsStp s → 0 ≤ p + ws.sum + s → p + ws.sum + s < n → FreeW n p (ws ++ [s])
  | [], p, s, _, h1, h2, h3 => by
    simp only [List.sum_nil, Int.add_zero] at h2 h3
    exact ⟨h1, h2, h3, trivial⟩
  | w :: ws, p, s, h, h1, h2, h3 => by
    simp only [List.sum_cons] at h2 h3
    exact ⟨h.1, h.2.1, h.2.2.1, free_snoc h.2.2.2 h1 (by omega) (by omega)⟩
theorem free_end {n : Int} : ∀ {ws : List Int} {p : Int}, FreeW n p ws → 0 ≤ p → p < n → 0 ≤ p + ws.sum ∧ p + ws.sum < n
  | [], p, _, h1, h2 => by simp only [List.sum_nil]; omega
  | w :: ws, p, h, h1, h2 => by
    have := free_end h.2.2.2 h.2.1 h.2.2.1
    simp only [List.sum_cons]
    omega
theorem free_stps {n : Int} : ∀ {ws : List Int} {p : Int}, FreeW n p ws → Stps ws
  | [], _, _ => fun _ h => nomatch h
  | w :: ws, p, h => fun x hx => by
    rcases List.mem_cons.mp hx with rfl | hx
    · exact h.1
    · exact free_stps h.2.2.2 x hx
def lawFreeFn (ld lp : Nat) : Fn := ⟨3, 9, [S.par [3, 4] [E.call ld [E.var 0, E.var 1], E.tup []], S.asg (Tg.n 5) (E.var 3), S.for (Tg.n 6) (It.rg1 (E.call ld [E.var 0, E.bin Bop.add (E.var 2) (cI 1)])) [S.asg (Tg.n 7) ((E.var 8).comp (Tg.n 8) (It.li (E.tup [nI 1, cI 1])) (some (E.chn Cop.le Cop.lt (cI 0) (E.bin Bop.add (E.var 5) (E.var 8)) (E.var 1))) [8] false), S.asg (Tg.n 4) (E.bin Bop.add (E.var 4) (E.tup [E.call lp [E.var 0, E.var 7]])), S.asg (Tg.n 5) (E.bin Bop.add (E.var 5) ((E.var 4).idx (nI 1)))], S.ret (E.tup [E.var 3, E.var 4, E.var 5])]⟩
def stepsIn (n q : Int) : List Int := [-1, 1].filter fun s => decide (0 ≤ q + s) && decide (q + s < n)
theorem idx_snoc (ws : List Int) (s : Int) : idxD (.tuple (ws.map .int ++ [.int s])) (.int (-1)) = some (.int s) := by
  have hn : 0 < ws.length + 1 := Nat.succ_pos _
  simp [idxD, place_last hn]
def PFree (G : Fs) (f : Nat) : Prop := ∀ (x : Vl) (n most : Int), IsPen x → 2 ≤ n → n ≤ 5 → 0 ≤ most → most ≤ 1000 → ∃ (s : Int) (ws : List Int) (x' : Vl), G f [x, .fz (.int n), .fz (.int most)] = some (.fz (.tuple [.int s, tI' ws, .int (s + ws.sum)]), [x', .fz (.int n), .fz (.int most)]) ∧ 0 ≤ s ∧ s < n ∧ FreeW n s ws ∧ (ws.length : Int) ≤ most ∧ IsPen x'
theorem free_run {G : Fs} {ld lp : Nat} (hd : PDraw G ld) (hp : PPick G lp) {x : Vl} {n most : Int} (hx : IsPen x) (n2 : 2 ≤ n) (n5 : n ≤ 5) (h0 : 0 ≤ most) (h1 : most ≤ 1000) :
    ∃ (s : Int) (ws : List Int) (x' : Vl), runF G (lawFreeFn ld lp) [x, .fz (.int n), .fz (.int most)] = some (.fz (.tuple [.int s, tI' ws, .int (s + ws.sum)]), [x', .fz (.int n), .fz (.int most)]) ∧ 0 ≤ s ∧ s < n ∧ FreeW n s ws ∧ (ws.length : Int) ≤ most ∧ IsPen x' := by
  obtain ⟨st, x0, e0, st0, st1, hx0⟩ := hd x n hx (by omega) (by omega)
  obtain ⟨m, x1, e1, m0, m1, hx1⟩ := hd x0 (most + 1) hx0 (by omega) (by omega)
  have z0 : okSz 0 = true := by decide
  have z1 : okSz 1 = true := by decide
  have z2 : okSz 2 = true := by decide
  have z3 : okSz 3 = true := by decide
  let I : Nat → Fm → Prop := fun k fr => ∃ (y : Vl) (ws : List Int) (o6 o7 o8 : Option Vl), fr = [some y, some (.fz (.int n)), some (.fz (.int most)), some (.fz (.int st)), some (.fz (tI' ws)), some (.fz (.int (st + ws.sum))), o6, o7, o8] ∧ IsPen y ∧ FreeW n st ws ∧ ws.length ≤ k
  have loop : ∃ g', forN (turnF G [0] (Tg.n 6) [S.asg (Tg.n 7) ((E.var 8).comp (Tg.n 8) (It.li (E.tup [nI 1, cI 1])) (some (E.chn Cop.le Cop.lt (cI 0) (E.bin Bop.add (E.var 5) (E.var 8)) (E.var 1))) [8] false), S.asg (Tg.n 4) (E.bin Bop.add (E.var 4) (E.tup [E.call lp [E.var 0, E.var 7]])), S.asg (Tg.n 5) (E.bin Bop.add (E.var 5) ((E.var 4).idx (nI 1)))]) (rangeD 0 m) [some x1, some (.fz (.int n)), some (.fz (.int most)), some (.fz (.int st)), some (.fz (tI' [])), some (.fz (.int st)), none, none, none] = some (.nx, g') ∧ I (0 + (rangeD 0 m).length) g' := by
    refine forN_ix I ⟨x1, [], none, none, none, by simp, hx1, trivial, Nat.le_refl _⟩ ?_
    rintro i d g hi ⟨y, ws, o6, o7, o8, rfl, hy, hw, hl⟩
    have hil : (i : Int) ≤ most := by
      have := (List.getElem?_eq_some_iff.mp hi).1
      rw [rangeD_length] at this
      omega
    obtain ⟨q0, q1⟩ := free_end hw st0 st1
    have hws : ∃ q, q = st + ws.sum := ⟨_, rfl⟩
    obtain ⟨q, hq⟩ := hws
    obtain ⟨a, b, c, rfl, -, -⟩ := id hy
    have hne : stepsIn n q ≠ [] := by
      unfold stepsIn
      intro h
      rw [List.filter_eq_nil_iff] at h
      have a1 := h (-1) (by simp)
      have a2 := h 1 (by simp)
      simp at a1 a2
      omega
    have ec : ev G ((E.var 8).comp (Tg.n 8) (It.li (E.tup [nI 1, cI 1])) (some (E.chn Cop.le Cop.lt (cI 0) (E.bin Bop.add (E.var 5) (E.var 8)) (E.var 1))) [8] false) [some (.ol [.int a, .int b, .int c]), some (.fz (.int n)), some (.fz (.int most)), some (.fz (.int st)), some (.fz (tI' ws)), some (.fz (.int q)), some (.fz d), o7, o8] = some (.st (.ol ((stepsIn n q).map .int)), [some (.ol [.int a, .int b, .int c]), some (.fz (.int n)), some (.fz (.int most)), some (.fz (.int st)), some (.fz (tI' ws)), some (.fz (.int q)), some (.fz d), o7, o8]) := by
      refine ev_comp_filter ([-1, 1] : List Int) .int .int (fun s => decide (0 ≤ q + s) && decide (q + s < n)) (by simp [z2]) (fun s _ => ?_) (by decide)
      by_cases h1 : 0 ≤ q + s <;> by_cases h2 : q + s < n <;> simp [turn0, wipeF, wipeP, h1, h2]
    obtain ⟨v, y2, e4, hv, hy2⟩ := hp (.ol [.int a, .int b, .int c]) (.ol ((stepsIn n q).map .int)) _ hy (.inl rfl) (by rw [List.length_map]; exact List.length_pos_iff.mpr hne) (by
      rw [List.length_map]
      have : (stepsIn n q).length ≤ 2 := List.length_filter_le _ _
      omega)
    obtain ⟨s, hs', rfl⟩ := List.mem_map.mp hv
    have hs2 : IsStp s ∧ 0 ≤ q + s ∧ q + s < n := by
      unfold stepsIn at hs'
      rw [List.mem_filter] at hs'
      have a1 := hs'.1
      have a2 := hs'.2
      simp at a1 a2
      exact ⟨a1, a2⟩
    obtain ⟨a2, b2, c2, rfl, -, -⟩ := id hy2
    have zl : okSz (ws.length + 1) = true := okSz_ok (by omega)
    have ei := idx_snoc ws s
    have hsum : st + (ws ++ [s]).sum = q + s := by rw [List.sum_append, hq]; simp; omega
    refine ⟨[some (.ol [.int a2, .int b2, .int c2]), some (.fz (.int n)), some (.fz (.int most)), some (.fz (.int st)), some (.fz (tI' (ws ++ [s]))), some (.fz (.int (q + s))), some (.fz d), some (.ol ((stepsIn n q).map .int)), o8], ?_, ⟨_, ws ++ [s], _, _, _, by rw [hsum], hy2, free_snoc hw hs2.1 (by omega) (by omega), by simp; omega⟩⟩
    rw [← hq]
    simp only [tI'] at *
    simp [turnF, ec, e4, z1, zl, ei]
  obtain ⟨g', el, y, ws, o6, o7, o8, rfl, hy, hw, hl⟩ := loop
  rw [rangeD_length] at hl
  obtain ⟨a, b, c, rfl, -, -⟩ := id hx
  obtain ⟨a0, b0, c0, rfl, -, -⟩ := id hx0
  obtain ⟨a1, b1, c1, rfl, -, -⟩ := id hx1
  obtain ⟨a2, b2, c2, rfl, -, -⟩ := id hy
  have sm := small_ok (n := m) m0 (by omega)
  refine ⟨st, ws, _, ?_, st0, st1, hw, by omega, hy⟩
  simp only [tI', List.map_nil] at *
  simp [runF, lawFreeFn, e0, e1, z0, z3, sm, el]
/-! ### what is left, crossed -/
def lawLeftFn : Fn := ⟨3, 10, [S.par [3, 4, 5] [E.bin Bop.mul (E.lst [cI 0]) (E.var 0), (E.lst [cI 0, cI 0]).comp (Tg.n 6) (It.rg1 (E.bin Bop.sub (E.var 0) (cI 1))) none [6] true, E.var 1], S.for (Tg.n 7) (It.li (E.var 2)) [S.sidx 3 (E.var 5) (E.bin Bop.add ((E.var 3).idx (E.var 5)) (cI 1)), S.asg (Tg.n 8) (E.bi Bi.int [E.cmp Cop.lt (E.var 7) (cI 0)]), S.sidx2 4 (E.bin Bop.sub (E.var 5) (E.var 8)) 8 (E.bin Bop.add (E.idx2 4 (E.bin Bop.sub (E.var 5) (E.var 8)) 8) (cI 1)), S.asg (Tg.n 5) (E.bin Bop.add (E.var 5) (E.var 7))], S.ret (E.tup [E.bi Bi.tuple [E.var 3], E.bi Bi.tuple [(E.bi Bi.tuple [E.var 9]).comp (Tg.n 9) (It.li (E.var 4)) none [9] false]])]⟩
def prL (x : Int × Int) : List D := [.int x.1, .int x.2]
def bumpO (p s : Int) (os : List (Int × Int)) : List (Int × Int) :=
  if s < 0 then os.set (p - 1).toNat ((os.getD (p - 1).toNat (0, 0)).1, (os.getD (p - 1).toNat (0, 0)).2 + 1)
  else os.set p.toNat ((os.getD p.toNat (0, 0)).1 + 1, (os.getD p.toNat (0, 0)).2)
def ovE : Int → List (Int × Int) → List Int → List (Int × Int)
  | _, os, [] => os
  | p, os, s :: ws => ovE (p + s) (bumpO p s os) ws
theorem bumpO_len (p s : Int) (os : List (Int × Int)) : (bumpO p s os).length = os.length := by
  unfold bumpO
  split <;> rw [List.length_set]
theorem ovE_len : ∀ (ws : List Int) (p : Int) (os : List (Int × Int)), (ovE p os ws).length = os.length
  | [], _, _ => rfl
  | s :: ws, p, os => by
    unfold ovE
    rw [ovE_len ws, bumpO_len]
def leftIn : List S := [S.sidx 3 (E.var 5) (E.bin Bop.add ((E.var 3).idx (E.var 5)) (cI 1)), S.asg (Tg.n 8) (E.bi Bi.int [E.cmp Cop.lt (E.var 7) (cI 0)]), S.sidx2 4 (E.bin Bop.sub (E.var 5) (E.var 8)) 8 (E.bin Bop.add (E.idx2 4 (E.bin Bop.sub (E.var 5) (E.var 8)) 8) (cI 1)), S.asg (Tg.n 5) (E.bin Bop.add (E.var 5) (E.var 7))]
theorem leftW_loop {G : Fs} {n : Int} (r0 r1 r2 r6 r9 : Option Vl) : ∀ (ws : List Int) (p : Int) (rs : List Int) (os : List (Int × Int)) (o7 o8 : Option Vl), FreeW n p ws → 0 ≤ p → p < n → (rs.length : Int) = n → (os.length : Int) = n - 1 →
    ∃ (b7 b8 : Option Vl), forN (turnF G [] (Tg.n 7) leftIn) (ws.map .int) [r0, r1, r2, some (.ol (rs.map .int)), some (.oo (os.map prL)), some (.fz (.int p)), r6, o7, o8, r9] = some (.nx, [r0, r1, r2, some (.ol ((wEnd p rs ws).2.map .int)), some (.oo ((ovE p os ws).map prL)), some (.fz (.int (p + ws.sum))), r6, b7, b8, r9])
  | [], p, rs, os, o7, o8, _, _, _, _, _ => ⟨o7, o8, by simp [forN, wEnd, ovE]⟩
  | s :: ws, p, rs, os, o7, o8, h, p0, p1, hl, ho => by
    have i1 := idx_lst (hs := rs) (q := p) p0 (by omega)
    have i2 : placeD rs.length p = some p.toNat := place_ok p0 (by omega)
    have hr : (rs.map PyData.int).set p.toNat (.int (at' rs p + 1)) = (raiseH rs p).map .int := by unfold raiseH; rw [List.map_set]
    have et : turnF G [] (Tg.n 7) leftIn (.int s) [r0, r1, r2, some (.ol (rs.map .int)), some (.oo (os.map prL)), some (.fz (.int p)), r6, o7, o8, r9] = some (.nx, [r0, r1, r2, some (.ol ((raiseH rs p).map .int)), some (.oo ((bumpO p s os).map prL)), some (.fz (.int (p + s))), r6, some (.fz (.int s)), some (.fz (.int (if s < 0 then 1 else 0))), r9]) := by
      rcases h.1 with rfl | rfl
      · have hp : 0 ≤ p - 1 := by have := h.2.1; omega
        have hk : (p - 1).toNat < os.length := by omega
        have i3 : placeD os.length (p - 1) = some (p - 1).toNat := place_ok hp (by omega)
        have i4 : os[(p - 1).toNat]? = some (os[(p - 1).toNat]) := List.getElem?_eq_getElem hk
        have i5 : os.getD (p - 1).toNat (0, 0) = os[(p - 1).toNat] := by rw [List.getD_eq_getElem?_getD, i4]; rfl
        have hb : bumpO p (-1) os = os.set (p - 1).toNat ((os[(p - 1).toNat]).1, (os[(p - 1).toNat]).2 + 1) := by
          unfold bumpO
          rw [if_pos (by decide), i5]
        generalize os[(p - 1).toNat] = w at *
        obtain ⟨w1, w2⟩ := w
        have i6 : (os.map prL)[(p - 1).toNat]? = some [.int w1, .int w2] := by rw [List.getElem?_map, i4]; rfl
        have i7 : idxD (.list [.int w1, .int w2]) (.int 1) = some (.int w2) := rfl
        have i8 : placeD 2 1 = some 1 := by decide
        rw [hb, List.map_set]
        have i9 : placeD (os.map prL).length (p - 1) = some (p - 1).toNat := by rw [List.length_map]; exact i3
        clear i4 i5 hb i3
        generalize (p - 1).toNat = kk at *
        have ep : ∀ a b : Int, prL (a, b) = [.int a, .int b] := fun _ _ => rfl
        rw [ep]
        generalize os.map prL = xss at *
        simp [turnF, leftIn, i1, i2, i6, i7, i8, i9, hr]
      · have hk : p.toNat < os.length := by have := h.2.2.1; omega
        have i3 : placeD os.length p = some p.toNat := place_ok p0 (by have := h.2.2.1; omega)
        have i4 : os[p.toNat]? = some (os[p.toNat]) := List.getElem?_eq_getElem hk
        have i5 : os.getD p.toNat (0, 0) = os[p.toNat] := by rw [List.getD_eq_getElem?_getD, i4]; rfl
        have hb : bumpO p 1 os = os.set p.toNat ((os[p.toNat]).1 + 1, (os[p.toNat]).2) := by
          unfold bumpO
          rw [if_neg (by decide), i5]
        generalize os[p.toNat] = w at *
        obtain ⟨w1, w2⟩ := w
        have i6 : (os.map prL)[p.toNat]? = some [.int w1, .int w2] := by rw [List.getElem?_map, i4]; rfl
        have i7 : idxD (.list [.int w1, .int w2]) (.int 0) = some (.int w1) := rfl
        have i8 : placeD 2 0 = some 0 := by decide
        rw [hb, List.map_set]
        have i9 : placeD (os.map prL).length p = some p.toNat := by rw [List.length_map]; exact i3
        clear i4 i5 hb i3
        generalize p.toNat = kk at *
        have ep : ∀ a b : Int, prL (a, b) = [.int a, .int b] := fun _ _ => rfl
        rw [ep]
        generalize os.map prL = xss at *
        simp [turnF, leftIn, i1, i2, i6, i7, i8, i9, hr]
    obtain ⟨b7, b8, q⟩ := leftW_loop (G := G) (n := n) r0 r1 r2 r6 r9 ws (p + s) (raiseH rs p) (bumpO p s os) (some (.fz (.int s))) (some (.fz (.int (if s < 0 then 1 else 0)))) h.2.2.2 h.2.1 h.2.2.1 (by unfold raiseH; rw [List.length_set]; exact hl) (by rw [bumpO_len]; exact ho)
    refine ⟨b7, b8, ?_⟩
    rw [List.map_cons]
    unfold forN
    rw [et]
    simp only [Option.bind_some]
    rw [q]
    simp only [List.sum_cons, wEnd, ovE, Int.add_assoc]
def zerosI (n : Nat) : List Int := List.replicate n 0
def zerosP (n : Nat) : List (Int × Int) := List.replicate n (0, 0)
def PLeftW (G : Fs) (f : Nat) : Prop := ∀ (n p : Int) (ws : List Int), 2 ≤ n → n ≤ 5 → 0 ≤ p → p < n → FreeW n p ws → G f [.fz (.int n), .fz (.int p), .fz (tI' ws)] = some (.fz (.tuple [tI' (wEnd p (zerosI n.toNat) ws).2, .tuple ((ovE p (zerosP (n.toNat - 1)) ws).map prD)]), [.fz (.int n), .fz (.int p), .fz (tI' ws)])
theorem leftW_run (G : Fs) {n p : Int} {ws : List Int} (n2 : 2 ≤ n) (n5 : n ≤ 5) (p0 : 0 ≤ p) (p1 : p < n) (hw : FreeW n p ws) : runF G lawLeftFn [.fz (.int n), .fz (.int p), .fz (tI' ws)] = some (.fz (.tuple [tI' (wEnd p (zerosI n.toNat) ws).2, .tuple ((ovE p (zerosP (n.toNat - 1)) ws).map prD)]), [.fz (.int n), .fz (.int p), .fz (tI' ws)]) := by
  have z1 : okSz 1 = true := by decide
  have z2 : okSz 2 = true := by decide
  have er : binD .mul (.list [.int 0]) (.int n) = some (.ol ((zerosI n.toNat).map .int)) := by
    have : n = 2 ∨ n = 3 ∨ n = 4 ∨ n = 5 := by omega
    rcases this with rfl | rfl | rfl | rfl <;> rfl
  have sm := small_ok (n := n - 1) (by omega) (by omega)
  have hlen : ((rangeD 0 (n - 1)).length : Nat) = n.toNat - 1 := by rw [rangeD_length]; omega
  have ec : ev G ((E.lst [cI 0, cI 0]).comp (Tg.n 6) (It.rg1 (E.bin Bop.sub (E.var 0) (cI 1))) none [6] true) [some (.fz (.int n)), some (.fz (.int p)), some (.fz (tI' ws)), none, none, none, none, none, none, none] = some (.st (.oo ((zerosP (n.toNat - 1)).map prL)), [some (.fz (.int n)), some (.fz (.int p)), some (.fz (tI' ws)), none, none, none, none, none, none, none]) := by
    have : (zerosP (n.toNat - 1)).map prL = (rangeD 0 (n - 1)).map fun _ => [PyData.int 0, PyData.int 0] := by
      unfold zerosP
      rw [List.map_replicate, List.map_const', hlen]
      rfl
    rw [this]
    refine ev_comp_own (rangeD 0 (n - 1)) id _ (by simp [sm]) (fun d _ => ?_) (by omega)
    simp [turn0, wipeF, wipeP, z2]
  obtain ⟨b7, b8, q⟩ := leftW_loop (G := G) (n := n) (some (.fz (.int n))) (some (.fz (.int p))) (some (.fz (tI' ws))) none none ws p (zerosI n.toNat) (zerosP (n.toNat - 1)) none none hw p0 p1 (by unfold zerosI; rw [List.length_replicate]; omega) (by unfold zerosP; rw [List.length_replicate]; omega)
  have ho := ovE_len ws p (zerosP (n.toNat - 1))
  have hz : (zerosP (n.toNat - 1)).length ≤ 4 := by unfold zerosP; rw [List.length_replicate]; omega
  generalize (wEnd p (zerosI n.toNat) ws).2 = rs at *
  generalize ovE p (zerosP (n.toNat - 1)) ws = os at *
  have ec2 : ev G ((E.bi Bi.tuple [E.var 9]).comp (Tg.n 9) (It.li (E.var 4)) none [9] false) [some (.fz (.int n)), some (.fz (.int p)), some (.fz (tI' ws)), some (.ol (rs.map .int)), some (.oo (os.map prL)), some (.fz (.int (p + ws.sum))), none, b7, b8, none] = some (.st (.ol (os.map prD)), [some (.fz (.int n)), some (.fz (.int p)), some (.fz (tI' ws)), some (.ol (rs.map .int)), some (.fz (.list ((os.map prL).map .list))), some (.fz (.int (p + ws.sum))), none, b7, b8, none]) := by
    refine ev_comp_map os (fun x => .list (prL x)) prD ?_ (fun x _ => ?_) (by omega)
    · simp
    · simp [turn0, wipeF, wipeP, prD, prL]
  simp only [tI', leftIn] at *
  have ow : ∀ xss : List (List D), (Vl.oo xss).own = true := fun _ => rfl
  simp [runF, lawLeftFn, er, ec, ec2, q, z1, z2, ow]
end Tr

set_option Elab.async false
set_option linter.all false
set_option maxRecDepth 100000
set_option maxHeartbeats 4000000
/-! Marks: rises drawn, by hand, by names. -/
namespace Tr
open PySem
theorem free_rows {n : Int} : ∀ {ws : List Int} {p : Int} {rs : List Int} {m : Int}, FreeW n p ws → 0 ≤ p → p < n → (rs.length : Int) = n → (∀ r ∈ rs, 0 ≤ r ∧ r ≤ m) → ((wEnd p rs ws).2.length : Int) = n ∧ ∀ r ∈ (wEnd p rs ws).2, 0 ≤ r ∧ r ≤ m + ws.length
  | [], p, rs, m, _, _, _, h1, h2 => ⟨h1, fun r hr => by have := h2 r hr; simp; exact this⟩
  | s :: ws, p, rs, m, h, p0, p1, h1, h2 => by
    have hl : (raiseH rs p).length = rs.length := by unfold raiseH; rw [List.length_set]
    have hr : ∀ r ∈ raiseH rs p, 0 ≤ r ∧ r ≤ m + 1 := by
      intro r hr
      unfold raiseH at hr
      rcases List.mem_or_eq_of_mem_set hr with hr | rfl
      · have := h2 r hr; omega
      · have hk : p.toNat < rs.length := by omega
        have : at' rs p ∈ rs := by
          unfold at'
          rw [List.getD_eq_getElem?_getD, List.getElem?_eq_getElem hk]
          exact List.getElem_mem hk
        have := h2 _ this
        omega
    obtain ⟨q1, q2⟩ := free_rows (rs := raiseH rs p) h.2.2.2 h.2.1 h.2.2.1 (by rw [hl]; exact h1) hr
    exact ⟨q1, fun r hr => by have := q2 r hr; simp only [List.length_cons]; omega⟩
def IsRs (rs : List Int) : Prop := IsHs rs ∧ ∀ r ∈ rs, r ≤ 100
def rowsA (ld : Nat) : S := S.iff (E.cmp Cop.eq (E.call ld [E.var 0, cI 2]) (cI 0)) [S.asg (Tg.n 6) (E.call ld [E.var 0, E.var 1]), S.asg (Tg.n 5) (E.bin Bop.add (E.bin Bop.add ((E.var 5).slc none (some (E.var 6)) false) (E.tup [E.call ld [E.var 0, cI 4]])) ((E.var 5).slc (some (E.bin Bop.add (E.var 6) (cI 1))) none false))] []
def rowsB (ld : Nat) : S := S.iff (E.cmp Cop.eq (E.call ld [E.var 0, cI 3]) (cI 0)) [S.asg (Tg.n 5) (E.bi Bi.tuple [(E.call ld [E.var 0, cI 3]).comp (Tg.n 7) (It.rg1 (E.var 1)) none [7] false])] []
def lawRowsFn (ld lf ll : Nat) : Fn := ⟨1, 8, [S.asg (Tg.n 1) (E.bin Bop.add (cI 2) (E.call ld [E.var 0, cI 4])), S.asg (Tg.t [Tg.n 2, Tg.n 3, Tg.n 4]) (E.call lf [E.var 0, E.var 1, (E.lst [cI 9, cI 6]).idx (E.bi Bi.int [E.cmp Cop.eq (E.var 1) (cI 5)])]), S.asg (Tg.n 5) ((E.call ll [E.var 1, E.var 2, E.var 3]).idx (cI 0)), rowsA ld, rowsB ld, S.retv 5]⟩
theorem rowsA_run {G : Fs} {ld : Nat} (hd : PDraw G ld) {x : Vl} {n : Int} {rs : List Int} (o2 o3 o4 o6 o7 : Option Vl) (hx : IsPen x) (hrs : IsRs rs) (hn : n = rs.length) :
    ∃ (x' : Vl) (rs' : List Int) (b6 : Option Vl), Tr.exec G [0] (rowsA ld) [some x, some (.fz (.int n)), o2, o3, o4, some (.fz (tI' rs)), o6, o7] = some (.nx, [some x', some (.fz (.int n)), o2, o3, o4, some (.fz (tI' rs')), b6, o7]) ∧ IsPen x' ∧ IsRs rs' ∧ n = rs'.length := by
  obtain ⟨⟨l2, l5, h0⟩, h1⟩ := id hrs
  obtain ⟨a, x1, e1, a0, a1, hx1⟩ := hd x 2 hx (by decide) (by decide)
  obtain ⟨b, x2, e2, b0, b1, hx2⟩ := hd x1 n hx1 (by omega) (by omega)
  obtain ⟨c, x3, e3, c0, c1, hx3⟩ := hd x2 4 hx2 (by decide) (by decide)
  obtain ⟨p, q, r, rfl, -, -⟩ := id hx
  obtain ⟨p1, q1, r1, rfl, -, -⟩ := id hx1
  obtain ⟨p2, q2, r2, rfl, -, -⟩ := id hx2
  obtain ⟨p3, q3, r3, rfl, -, -⟩ := id hx3
  by_cases ha : a = 0
  · have k1 := cut_take (hs := rs) b0 (by omega)
    have k2 := cut_drop (hs := rs) b0 (by omega)
    have z1 : okSz 1 = true := by decide
    have lt : (rs.take b.toNat).length ≤ 5 := by rw [List.length_take]; omega
    have ld' : (rs.drop (b.toNat + 1)).length ≤ 5 := by rw [List.length_drop]; omega
    have ll : (rs.take b.toNat ++ c :: rs.drop (b.toNat + 1)).length = rs.length := by rw [List.length_append, List.length_cons, List.length_take, List.length_drop]; omega
    have mm : ∀ r ∈ rs.take b.toNat ++ c :: rs.drop (b.toNat + 1), 0 ≤ r ∧ r ≤ 100 := by
      intro r hr
      rcases List.mem_append.mp hr with hr | hr
      · have hr := List.mem_of_mem_take hr
        exact ⟨h0 r hr, h1 r hr⟩
      · rcases List.mem_cons.mp hr with rfl | hr
        · omega
        · have hr := List.mem_of_mem_drop hr
          exact ⟨h0 r hr, h1 r hr⟩
    refine ⟨.ol [.int p3, .int q3, .int r3], rs.take b.toNat ++ c :: rs.drop (b.toNat + 1), some (.fz (.int b)), ?_, hx3, ⟨⟨by omega, by omega, fun r hr => (mm r hr).1⟩, fun r hr => (mm r hr).2⟩, by omega⟩
    rw [← List.map_take] at k1
    rw [← List.map_drop] at k2
    subst ha
    have zz : ∀ k : Nat, k ≤ 20 → okSz k = true := fun k hk => okSz_ok (by omega)
    simp only [tI', List.map_append, List.map_cons] at *
    generalize rs.take b.toNat = u at *
    generalize rs.drop (b.toNat + 1) = v at *
    have z2 : okSz (u.length + 1) = true := zz _ (by omega)
    have z3 : okSz (u.length + 1 + v.length) = true := zz _ (by omega)
    have z4 : okSz (u.length + (v.length + 1)) = true := zz _ (by omega)
    have z5 : okSz (u.length + (1 + v.length)) = true := zz _ (by omega)
    simp [rowsA, e1, e2, e3, k1, k2, z1, z2, z3, z4, z5]
  · refine ⟨.ol [.int p1, .int q1, .int r1], rs, o6, ?_, hx1, hrs, hn⟩
    have ha' : (a == 0) = false := by simpa using ha
    simp [rowsA, e1, ha, ha']
theorem rowsB_run {G : Fs} {ld : Nat} (hd : PDraw G ld) {x : Vl} {n : Int} {rs : List Int} (o2 o3 o4 o6 o7 : Option Vl) (hx : IsPen x) (hrs : IsRs rs) (hn : n = rs.length) :
    ∃ (x' : Vl) (rs' : List Int), Tr.exec G [0] (rowsB ld) [some x, some (.fz (.int n)), o2, o3, o4, some (.fz (tI' rs)), o6, o7] = some (.nx, [some x', some (.fz (.int n)), o2, o3, o4, some (.fz (tI' rs')), o6, o7]) ∧ IsPen x' ∧ IsRs rs' ∧ n = rs'.length := by
  obtain ⟨⟨l2, l5, h0⟩, h1⟩ := id hrs
  obtain ⟨a, x1, e1, a0, a1, hx1⟩ := hd x 3 hx (by decide) (by decide)
  obtain ⟨p, q, r, rfl, -, -⟩ := id hx
  obtain ⟨p1, q1, r1, rfl, -, -⟩ := id hx1
  by_cases ha : a = 0
  · subst ha
    have sm := small_ok (n := n) (by omega) (by omega)
    obtain ⟨vs, g, ec, lv, pv, y, o7', rfl, hy⟩ := ev_comp_inv (G := G) (elt := E.call ld [E.var 0, cI 3]) (tg := Tg.n 7) (it := It.rg1 (E.var 1)) (cond := none) (ws := [7]) (fr := [some (.ol [.int p1, .int q1, .int r1]), some (.fz (.int n)), o2, o3, o4, some (.fz (tI' rs)), o6, o7]) (fr1 := [some (.ol [.int p1, .int q1, .int r1]), some (.fz (.int n)), o2, o3, o4, some (.fz (tI' rs)), o6, o7]) (ds := rangeD 0 n)
      (fun d => ∃ v : Int, d = .int v ∧ 0 ≤ v ∧ v ≤ 100) (fun g => ∃ (y : Vl) (o7 : Option Vl), g = [some y, some (.fz (.int n)), o2, o3, o4, some (.fz (tI' rs)), o6, o7] ∧ IsPen y) (by simp [sm]) ⟨_, _, rfl, hx1⟩ (by
        rintro d g ⟨y, o7, rfl, hy⟩ -
        obtain ⟨v, y', e, v0, v1, hy'⟩ := hd y 3 hy (by decide) (by decide)
        obtain ⟨p2, q2, r2, rfl, -, -⟩ := id hy
        obtain ⟨p3, q3, r3, rfl, -, -⟩ := id hy'
        refine ⟨.int v, [some (.ol [.int p3, .int q3, .int r3]), some (.fz (.int n)), o2, o3, o4, some (.fz (tI' rs)), o6, some (.fz d)], ?_, ⟨v, rfl, v0, by omega⟩, ⟨_, _, rfl, hy'⟩⟩
        simp [turn0, wipeF, wipeP, e]) (by rw [rangeD_length]; omega)
    obtain ⟨ns, hns, hb⟩ : ∃ ns : List Int, vs = ns.map .int ∧ ∀ v ∈ ns, 0 ≤ v ∧ v ≤ 100 := by
      clear ec lv
      induction vs with
      | nil => exact ⟨[], rfl, by simp⟩
      | cons v vs ih =>
        obtain ⟨w, rfl, w0, w1⟩ := pv v List.mem_cons_self
        obtain ⟨ns, rfl, hb⟩ := ih fun v hv => pv v (List.mem_cons_of_mem _ hv)
        refine ⟨w :: ns, rfl, fun v hv => ?_⟩
        rcases List.mem_cons.mp hv with rfl | hv
        · exact ⟨w0, w1⟩
        · exact hb v hv
    subst hns
    rw [List.length_map, rangeD_length] at lv
    obtain ⟨p4, q4, r4, rfl, -, -⟩ := id hy
    refine ⟨.ol [.int p4, .int q4, .int r4], ns, ?_, hy, ⟨⟨by omega, by omega, fun r hr => (hb r hr).1⟩, fun r hr => (hb r hr).2⟩, by omega⟩
    have eu : unwipe [some (.ol [.int p1, .int q1, .int r1]), some (.fz (.int n)), o2, o3, o4, some (.fz (tI' rs)), o6, o7] [some (.ol [.int p4, .int q4, .int r4]), some (.fz (.int n)), o2, o3, o4, some (.fz (tI' rs)), o6, o7'] [7] = [some (.ol [.int p4, .int q4, .int r4]), some (.fz (.int n)), o2, o3, o4, some (.fz (tI' rs)), o6, o7] := rfl
    rw [eu] at ec
    simp only [tI'] at *
    simp [rowsB, e1, ec]
  · refine ⟨.ol [.int p1, .int q1, .int r1], rs, ?_, hx1, hrs, hn⟩
    have ha' : (a == 0) = false := by simpa using ha
    simp [rowsB, e1, ha, ha']
def PRises (G : Fs) (f : Nat) : Prop := ∀ x, IsPen x → ∃ (rs : List Int) (x' : Vl), G f [x] = some (.fz (tI' rs), [x']) ∧ IsRs rs ∧ IsPen x'
theorem rises_run {G : Fs} {ld lf ll : Nat} (hd : PDraw G ld) (hf : PFree G lf) (hl : PLeftW G ll) {x : Vl} (hx : IsPen x) : ∃ (rs : List Int) (x' : Vl), runF G (lawRowsFn ld lf ll) [x] = some (.fz (tI' rs), [x']) ∧ IsRs rs ∧ IsPen x' := by
  obtain ⟨m, x1, e1, m0, m1, hx1⟩ := hd x 4 hx (by decide) (by decide)
  obtain ⟨s, ws, x2, e2, s0, s1, hw, hwl, hx2⟩ := hf x1 (2 + m) (if 2 + m = 5 then 6 else 9) hx1 (by omega) (by omega) (by split <;> omega) (by split <;> omega)
  have e3 := hl (2 + m) s ws (by omega) (by omega) s0 s1 hw
  have hz : ((zerosI (2 + m).toNat).length : Int) = 2 + m := by unfold zerosI; rw [List.length_replicate]; omega
  obtain ⟨r1, r2⟩ := free_rows (m := 0) hw s0 s1 hz (fun r hr => by have := (List.mem_replicate.mp hr).2; omega)
  have hrs : IsRs (wEnd s (zerosI (2 + m).toNat) ws).2 := by
    have hwl' : (ws.length : Int) ≤ 9 := by split at hwl <;> omega
    exact ⟨⟨by omega, by omega, fun r hr => (r2 r hr).1⟩, fun r hr => by have := r2 r hr; omega⟩
  generalize (wEnd s (zerosI (2 + m).toNat) ws).2 = rs at *
  generalize (ovE s (zerosP ((2 + m).toNat - 1)) ws).map prD = os at *
  obtain ⟨x3, rs3, o6, e4, hx3, hrs3, hn3⟩ := rowsA_run hd (some (.fz (.int s))) (some (.fz (tI' ws))) (some (.fz (.int (s + ws.sum)))) none none hx2 hrs r1.symm
  obtain ⟨x4, rs4, e5, hx4, hrs4, hn4⟩ := rowsB_run hd (some (.fz (.int s))) (some (.fz (tI' ws))) (some (.fz (.int (s + ws.sum)))) o6 none hx3 hrs3 hn3
  refine ⟨rs4, x4, ?_, hrs4, hx4⟩
  obtain ⟨p, q, r, rfl, -, -⟩ := id hx
  obtain ⟨p1, q1, r1', rfl, -, -⟩ := id hx1
  obtain ⟨p2, q2, r2', rfl, -, -⟩ := id hx2
  obtain ⟨p3, q3, r3, rfl, -, -⟩ := id hx3
  obtain ⟨p4, q4, r4, rfl, -, -⟩ := id hx4
  have z2 : okSz 2 = true := by decide
  have ei : idxD (.list [.int 9, .int 6]) (.int (if (2 + m == 5) = true then 1 else 0)) = some (.int (if 2 + m = 5 then 6 else 9)) := by
    by_cases h : 2 + m = 5
    · rw [if_pos h, if_pos (by simpa using h)]; rfl
    · rw [if_neg h, if_neg (by simpa using h)]; rfl
  have e0 : idxD (.tuple [.tuple (rs.map .int), .tuple os]) (.int 0) = some (.tuple (rs.map .int)) := idx_0 _ _
  simp only [tI'] at *
  by_cases h : 2 + m = 5
  · rw [if_pos h] at e2
    have h' : (2 + m == 5) = true := by simpa using h
    simp only [h] at e2 e3 e4 e5
    have e6 : idxD (.list [.int 9, .int 6]) (.int 1) = some (.int 6) := rfl
    simp [runF, lawRowsFn, e1, e2, e3, e4, e5, h', h, e0, e6, z2]
  · rw [if_neg h] at e2
    have h' : (2 + m == 5) = false := by simpa using h
    have e6 : idxD (.list [.int 9, .int 6]) (.int 0) = some (.int 9) := rfl
    simp [runF, lawRowsFn, e1, e2, e3, e4, e5, h', h, e0, e6, z2]
/-! ### by hand -/
def lawByHandFn (cr ae : Nat) : Fn := ⟨0, 0, [S.iff ((E.cmp Cop.ne (E.callk cr [cI 0, cI 1, E.tup [cI 0, cI 2, cI 1]] [2, 1, 0]) (E.tup [E.tup [cI 0, cI 1], E.tup [cI 1, cI 1]])).or (E.cmp Cop.ne (E.callk ae [E.tup [cI 0, cI 2, cI 1]] [0]) (E.tup [E.tup [cI 1, cI 0], E.tup [cI 1, cI 2]]))) [S.ret (E.con (.bool false))] [], S.iff ((E.cmp Cop.ne (E.call cr [E.tup [cI 0, cI 2, cI 1], cI 1, cI 2]) (E.tup [E.tup [cI 0, cI 0], E.tup [cI 2, cI 1]])).or ((E.call cr [E.tup [cI 0, cI 2, cI 1], cI 1, cI 1]).isc .none true)) [S.ret (E.con (.bool false))] [], S.iff (((E.call cr [E.tup [cI 1, cI 1, cI 0, cI 1, cI 1], cI 0, cI 0]).isc .none true).or (E.cmp Cop.ne (E.call ae [E.tup [cI 1, cI 1, cI 0, cI 1, cI 1]]) (E.tup []))) [S.ret (E.con (.bool false))] [], S.iff ((E.cmp Cop.ne (E.call ae [E.tup [cI 0, cI 0]]) (E.tup [E.tup [cI 0, cI 0], E.tup [cI 1, cI 1]])).or (E.cmp Cop.ne (E.call cr [E.tup [cI 0, cI 0, cI 0], cI 2, cI 2]) (E.tup [E.tup [cI 0, cI 0], E.tup [cI 0, cI 0]]))) [S.ret (E.con (.bool false))] [], S.iff (((E.call cr [E.tup [cI 0, cI 0, cI 0], cI 2, cI 1]).isc .none true).or (E.cmp Cop.ne (E.call ae [E.tup [cI 3, cI 3]]) (E.tup [E.tup [cI 0, cI 0], E.tup [cI 1, cI 1]]))) [S.ret (E.con (.bool false))] [], S.iff ((E.cmp Cop.ne (E.call ae [E.tup [cI 200, cI 200]]) (E.tup [E.tup [cI 0, cI 0], E.tup [cI 1, cI 1]])).or (E.cmp Cop.ne (E.call ae [E.tup [cI 200, cI 199]]) (E.tup [E.tup [cI 0, cI 1]]))) [S.ret (E.con (.bool false))] [], S.iff (E.cmp Cop.ne (E.call ae [E.tup [cI 0, cI 200, cI 200]]) (E.tup [E.tup [cI 1, cI 1], E.tup [cI 2, cI 0], E.tup [cI 2, cI 2]])) [S.ret (E.con (.bool false))] [], S.ret ((E.cmp Cop.eq (E.call cr [E.tup [cI 3, cI 2], cI 0, cI 1]) (E.tup [E.tup [cI 3, cI 2]])).and (E.cmp Cop.eq (E.call ae [E.tup [cI 2, cI 3]]) (E.tup [E.tup [cI 1, cI 0]])))]⟩
theorem byHand_run {G : Fs} {cr ae : Nat} (hc : PCross G cr) (he : PEnds G ae) : runF G (lawByHandFn cr ae) [] = some (.fz (.bool true), []) := by
  have c0 : G cr [.fz (.tuple [.int 0, .int 2, .int 1]), .fz (.int 1), .fz (.int 0)] = some (.fz (.tuple [.tuple [.int 0, .int 1], .tuple [.int 1, .int 1]]), [.fz (.tuple [.int 0, .int 2, .int 1]), .fz (.int 1), .fz (.int 0)]) := hc [0, 2, 1] 1 0 ⟨by decide, by decide, by decide⟩ (by decide) (by decide) (by decide) (by decide)
  have cn0 : cmpD .ne (.tuple [.tuple [.int 0, .int 1], .tuple [.int 1, .int 1]]) (.tuple [.tuple [.int 0, .int 1], .tuple [.int 1, .int 1]]) = some false := ne_self rfl
  have c1 : G cr [.fz (.tuple [.int 0, .int 2, .int 1]), .fz (.int 1), .fz (.int 2)] = some (.fz (.tuple [.tuple [.int 0, .int 0], .tuple [.int 2, .int 1]]), [.fz (.tuple [.int 0, .int 2, .int 1]), .fz (.int 1), .fz (.int 2)]) := hc [0, 2, 1] 1 2 ⟨by decide, by decide, by decide⟩ (by decide) (by decide) (by decide) (by decide)
  have cn1 : cmpD .ne (.tuple [.tuple [.int 0, .int 0], .tuple [.int 2, .int 1]]) (.tuple [.tuple [.int 0, .int 0], .tuple [.int 2, .int 1]]) = some false := ne_self rfl
  have c2 : G cr [.fz (.tuple [.int 0, .int 2, .int 1]), .fz (.int 1), .fz (.int 1)] = some (.fz (.none), [.fz (.tuple [.int 0, .int 2, .int 1]), .fz (.int 1), .fz (.int 1)]) := hc [0, 2, 1] 1 1 ⟨by decide, by decide, by decide⟩ (by decide) (by decide) (by decide) (by decide)
  have c3 : G cr [.fz (.tuple [.int 1, .int 1, .int 0, .int 1, .int 1]), .fz (.int 0), .fz (.int 0)] = some (.fz (.none), [.fz (.tuple [.int 1, .int 1, .int 0, .int 1, .int 1]), .fz (.int 0), .fz (.int 0)]) := hc [1, 1, 0, 1, 1] 0 0 ⟨by decide, by decide, by decide⟩ (by decide) (by decide) (by decide) (by decide)
  have c4 : G cr [.fz (.tuple [.int 0, .int 0, .int 0]), .fz (.int 2), .fz (.int 2)] = some (.fz (.tuple [.tuple [.int 0, .int 0], .tuple [.int 0, .int 0]]), [.fz (.tuple [.int 0, .int 0, .int 0]), .fz (.int 2), .fz (.int 2)]) := hc [0, 0, 0] 2 2 ⟨by decide, by decide, by decide⟩ (by decide) (by decide) (by decide) (by decide)
  have cn4 : cmpD .ne (.tuple [.tuple [.int 0, .int 0], .tuple [.int 0, .int 0]]) (.tuple [.tuple [.int 0, .int 0], .tuple [.int 0, .int 0]]) = some false := ne_self rfl
  have c5 : G cr [.fz (.tuple [.int 0, .int 0, .int 0]), .fz (.int 2), .fz (.int 1)] = some (.fz (.none), [.fz (.tuple [.int 0, .int 0, .int 0]), .fz (.int 2), .fz (.int 1)]) := hc [0, 0, 0] 2 1 ⟨by decide, by decide, by decide⟩ (by decide) (by decide) (by decide) (by decide)
  have c6 : G cr [.fz (.tuple [.int 3, .int 2]), .fz (.int 0), .fz (.int 1)] = some (.fz (.tuple [.tuple [.int 3, .int 2]]), [.fz (.tuple [.int 3, .int 2]), .fz (.int 0), .fz (.int 1)]) := hc [3, 2] 0 1 ⟨by decide, by decide, by decide⟩ (by decide) (by decide) (by decide) (by decide)
  have cn6 : cmpD .eq (.tuple [.tuple [.int 3, .int 2]]) (.tuple [.tuple [.int 3, .int 2]]) = some true := eq_self rfl
  have a0 : G ae [.fz (.tuple [.int 0, .int 2, .int 1])] = some (.fz (.tuple [.tuple [.int 1, .int 0], .tuple [.int 1, .int 2]]), [.fz (.tuple [.int 0, .int 2, .int 1])]) := he [0, 2, 1] ⟨by decide, by decide, by decide⟩
  have an0 : cmpD .ne (.tuple [.tuple [.int 1, .int 0], .tuple [.int 1, .int 2]]) (.tuple [.tuple [.int 1, .int 0], .tuple [.int 1, .int 2]]) = some false := ne_self rfl
  have a1 : G ae [.fz (.tuple [.int 1, .int 1, .int 0, .int 1, .int 1])] = some (.fz (.tuple []), [.fz (.tuple [.int 1, .int 1, .int 0, .int 1, .int 1])]) := he [1, 1, 0, 1, 1] ⟨by decide, by decide, by decide⟩
  have an1 : cmpD .ne (.tuple []) (.tuple []) = some false := ne_self rfl
  have a2 : G ae [.fz (.tuple [.int 0, .int 0])] = some (.fz (.tuple [.tuple [.int 0, .int 0], .tuple [.int 1, .int 1]]), [.fz (.tuple [.int 0, .int 0])]) := he [0, 0] ⟨by decide, by decide, by decide⟩
  have an2 : cmpD .ne (.tuple [.tuple [.int 0, .int 0], .tuple [.int 1, .int 1]]) (.tuple [.tuple [.int 0, .int 0], .tuple [.int 1, .int 1]]) = some false := ne_self rfl
  have a3 : G ae [.fz (.tuple [.int 3, .int 3])] = some (.fz (.tuple [.tuple [.int 0, .int 0], .tuple [.int 1, .int 1]]), [.fz (.tuple [.int 3, .int 3])]) := he [3, 3] ⟨by decide, by decide, by decide⟩
  have an3 : cmpD .ne (.tuple [.tuple [.int 0, .int 0], .tuple [.int 1, .int 1]]) (.tuple [.tuple [.int 0, .int 0], .tuple [.int 1, .int 1]]) = some false := ne_self rfl
  have a4 : G ae [.fz (.tuple [.int 200, .int 200])] = some (.fz (.tuple [.tuple [.int 0, .int 0], .tuple [.int 1, .int 1]]), [.fz (.tuple [.int 200, .int 200])]) := he [200, 200] ⟨by decide, by decide, by decide⟩
  have an4 : cmpD .ne (.tuple [.tuple [.int 0, .int 0], .tuple [.int 1, .int 1]]) (.tuple [.tuple [.int 0, .int 0], .tuple [.int 1, .int 1]]) = some false := ne_self rfl
  have a5 : G ae [.fz (.tuple [.int 200, .int 199])] = some (.fz (.tuple [.tuple [.int 0, .int 1]]), [.fz (.tuple [.int 200, .int 199])]) := he [200, 199] ⟨by decide, by decide, by decide⟩
  have an5 : cmpD .ne (.tuple [.tuple [.int 0, .int 1]]) (.tuple [.tuple [.int 0, .int 1]]) = some false := ne_self rfl
  have a6 : G ae [.fz (.tuple [.int 0, .int 200, .int 200])] = some (.fz (.tuple [.tuple [.int 1, .int 1], .tuple [.int 2, .int 0], .tuple [.int 2, .int 2]]), [.fz (.tuple [.int 0, .int 200, .int 200])]) := he [0, 200, 200] ⟨by decide, by decide, by decide⟩
  have an6 : cmpD .ne (.tuple [.tuple [.int 1, .int 1], .tuple [.int 2, .int 0], .tuple [.int 2, .int 2]]) (.tuple [.tuple [.int 1, .int 1], .tuple [.int 2, .int 0], .tuple [.int 2, .int 2]]) = some false := ne_self rfl
  have a7 : G ae [.fz (.tuple [.int 2, .int 3])] = some (.fz (.tuple [.tuple [.int 1, .int 0]]), [.fz (.tuple [.int 2, .int 3])]) := he [2, 3] ⟨by decide, by decide, by decide⟩
  have an7 : cmpD .eq (.tuple [.tuple [.int 1, .int 0]]) (.tuple [.tuple [.int 1, .int 0]]) = some true := eq_self rfl
  have z0 : okSz 0 = true := by decide
  have z1 : okSz 1 = true := by decide
  have z2 : okSz 2 = true := by decide
  have z3 : okSz 3 = true := by decide
  have z5 : okSz 5 = true := by decide
  simp [runF, lawByHandFn, c0, cn0, c1, cn1, c2, c3, c4, cn4, c5, c6, cn6, a0, an0, a1, an1, a2, an2, a3, an3, a4, an4, a5, an5, a6, an6, a7, an7, z0, z1, z2, z3, z5]
end Tr

set_option Elab.async false
set_option linter.all false
set_option maxRecDepth 100000
set_option maxHeartbeats 4000000
/-! Marks: what is told may be shown; the law. -/
namespace Tr
open PySem
theorem cnt_bound : ∀ (rs : List Int) (b e k back : Int) (c : Nat), back.natAbs ≤ c → (∀ r ∈ rs, r.natAbs ≤ 1000) → ∀ x ∈ cntF b e rs k back, x.1.natAbs ≤ c + 1002 * rs.length ∧ x.2.natAbs ≤ c + 1002 * rs.length
  | [], _, _, _, _, _, _, _ => fun _ h => nomatch h
  | r :: rs, b, e, k, back, c, hb, hr => by
    have h1 := hr r List.mem_cons_self
    intro x hx
    unfold cntF at hx
    have hb' : (r - back - (if b ≤ k ∧ k < e then 1 else 0) + (if e ≤ k ∧ k < b then 1 else 0)).natAbs ≤ c + 1002 := by
      by_cases q1 : b ≤ k ∧ k < e <;> by_cases q2 : e ≤ k ∧ k < b <;> simp only [q1, q2, and_self, if_true, if_false] <;> omega
    simp only [List.length_cons]
    rcases List.mem_cons.mp hx with rfl | hx
    · refine ⟨?_, ?_⟩
      · show (r - back).natAbs ≤ _
        omega
      · show (r - back - (if b ≤ k ∧ k < e then 1 else 0) + (if e ≤ k ∧ k < b then 1 else 0)).natAbs ≤ _
        omega
    · have := cnt_bound rs b e (k + 1) _ (c + 1002) hb' (fun q hq => hr q (List.mem_cons_of_mem _ hq)) x hx
      omega
theorem tame_prs : ∀ (l : List (Int × Int)), (∀ x ∈ l, x.1.natAbs < 10 ^ 20 ∧ x.2.natAbs < 10 ^ 20) → tameL (l.map prD) = true ∧ cntL (l.map prD) = 60 * l.length ∧ PyData.depthAll (l.map prD) ≤ 1
  | [], _ => ⟨rfl, rfl, Nat.zero_le _⟩
  | x :: l, h => by
    obtain ⟨h1, h2⟩ := h x List.mem_cons_self
    obtain ⟨a, b, c⟩ := tame_prs l fun y hy => h y (List.mem_cons_of_mem _ hy)
    refine ⟨?_, ?_, ?_⟩
    · rw [List.map_cons]
      simp only [prD, tameL, tame, decide_eq_true h1, decide_eq_true h2, Bool.and_true, Bool.true_and]
      exact a
    · rw [List.map_cons, List.length_cons]
      simp only [cntL, b, prD, cnt]
      omega
    · rw [List.map_cons]
      simp only [PyData.depthAll, prD, PyData.depth]
      omega
theorem okShow_prs {l : List (Int × Int)} (h : ∀ x ∈ l, x.1.natAbs < 10 ^ 20 ∧ x.2.natAbs < 10 ^ 20) (hl : l.length ≤ 1000) : okShow (.tuple (l.map prD)) = true := by
  obtain ⟨a, b, c⟩ := tame_prs l h
  refine okShow_of ?_ ?_ ?_
  · simp only [tame, a]
  · simp only [cnt, b]; omega
  · simp only [PyData.depth]; omega
theorem cross_show {rs : List Int} (h : IsRs rs) (b e : Int) : okShow (crossD rs b e) = true := by
  unfold crossD
  dsimp only
  split
  · exact okShow_of rfl (by simp only [cnt]; omega) (by simp [PyData.depth])
  · have hl : (cntF b e rs.dropLast 0 0).length ≤ 5 := by rw [cntF_len, List.length_dropLast]; have := h.1.2.1; omega
    refine okShow_prs (fun x hx => ?_) (by omega)
    have := cnt_bound rs.dropLast b e 0 0 0 (Nat.le_refl _) (fun r hr => by
      have hr := List.dropLast_subset _ hr
      have a1 := h.1.2.2 r hr
      have a2 := h.2 r hr
      omega) x hx
    have hl : rs.dropLast.length ≤ 5 := by rw [List.length_dropLast]; have := h.1.2.1; omega
    omega
theorem ends_mem {rs : List Int} {x : Int × Int} (h : x ∈ endsP rs) : 0 ≤ x.1 ∧ x.1 < rs.length ∧ 0 ≤ x.2 ∧ x.2 < rs.length := by
  unfold endsP at h
  have h := (List.mem_filter.mp h).1
  unfold everP at h
  obtain ⟨b, hb, h⟩ := List.mem_flatMap.mp h
  obtain ⟨e, he, rfl⟩ := List.mem_map.mp h
  rw [List.mem_range] at hb he
  simp
  omega
theorem everP_len (n : Nat) : (everP n).length = n * n := by
  unfold everP
  rw [List.length_flatMap]
  simp only [List.length_map, List.length_range]
  rw [List.map_const', List.sum_replicate_nat, List.length_range]
theorem ends_show {rs : List Int} (h : IsRs rs) : okShow (.tuple ((endsP rs).map prD)) = true := by
  have h5 := h.1.2.1
  refine okShow_prs (fun x hx => ?_) ?_
  · have := ends_mem hx
    omega
  · have h1 : (endsP rs).length ≤ (everP rs.length).length := List.length_filter_le _ _
    rw [everP_len] at h1
    have := Nat.mul_le_mul h5 h5
    omega
def PSameF (G : Fs) (f : Nat) : Prop := ∀ d : D, okShow d = true → G f [.fz d, .fz d] = some (.fz (.bool true), [.fz d, .fz d])
theorem same_ff (G : Fs) {d : D} (h : okShow d = true) : runF G sameFn [.fz d, .fz d] = some (.fz (.bool true), [.fz d, .fz d]) := by
  simp [runF, sameFn, h]
/-- the loop over cells that some laws have -/
theorem outer1_run {G : Fs} {ce pe : Nat} (hce : PCell G ce) (hpe : PPen G pe) (ns : List Int) {N : Int} (hN : 1 ≤ N ∧ N ≤ 100) {m : Nat} {pre : List S} {inner : List S}
    (hpre : ∀ rest : Fm, rest.length = m → ∀ ss : List S, Tr.execs G [] (pre ++ ss) (some (.scr ns) :: none :: none :: rest) = Tr.execs G [] ss (some (.scr ns) :: none :: none :: rest))
    (hin : ∀ (i : Int) (y : Vl) (rest : Fm), IsPen y → rest.length = m → ∃ (y' : Vl) (rest' : Fm), Tr.execs G [] inner (some (.scr ns) :: some (.fz (.int i)) :: some y :: rest) = some (.nx, some (.scr ns) :: some (.fz (.int i)) :: some y' :: rest') ∧ IsPen y' ∧ rest'.length = m) :
    ∃ ps, runF G ⟨1, m + 3, pre ++ [S.for (Tg.n 1) (It.rg1 (E.bi Bi.max [cI 1, E.bi Bi.min [E.bi Bi.len [E.var 0], cI N]])) (S.asg (Tg.n 2) (E.call pe [E.call ce [E.var 0, E.var 1]]) :: inner), S.ret (E.con (.bool true))]⟩ [.scr ns] = some (.fz (.bool true), ps) := by
  let I : Fm → Prop := fun fr => ∃ (o1 o2 : Option Vl) (rest : Fm), fr = some (.scr ns) :: o1 :: o2 :: rest ∧ rest.length = m
  let n : Int := if (if N < (ns.length : Int) then N else (ns.length : Int)) > 1 then (if N < (ns.length : Int) then N else (ns.length : Int)) else 1
  have loop : ∃ g', forN (turnF G [] (Tg.n 1) (S.asg (Tg.n 2) (E.call pe [E.call ce [E.var 0, E.var 1]]) :: inner)) (rangeD 0 n) (some (.scr ns) :: none :: none :: List.replicate m none) = some (.nx, g') ∧ I g' := by
    refine forN_inv I ⟨_, _, _, rfl, List.length_replicate⟩ ?_
    rintro d g ⟨o1, o2, rest, rfl, hr⟩ hd
    obtain ⟨i, rfl, i0, -⟩ := mem_range hd
    obtain ⟨v, e1⟩ := hce ns i i0
    obtain ⟨y, e2, hy⟩ := hpe v
    obtain ⟨y', r', et, hy', hr'⟩ := hin i y rest hy hr
    obtain ⟨a, b, c, rfl, -, -⟩ := id hy
    refine ⟨_, ?_, ⟨some (.fz (.int i)), some y', r', rfl, hr'⟩⟩
    simp [turnF, e1, e2, et]
  obtain ⟨g', el, o1, o2, rest, rfl, -⟩ := loop
  have sm : smallI n = true := small_ok (by simp only [n]; split <;> (try split) <;> omega) (by simp only [n]; split <;> (try split) <;> omega)
  refine ⟨[.scr ns], ?_⟩
  have en : (if (if N < (ns.length : Int) then N else (ns.length : Int)) > 1 then (if N < (ns.length : Int) then N else (ns.length : Int)) else 1) = n := rfl
  clear_value n
  have en' : (if 1 < (if N < (ns.length : Int) then N else (ns.length : Int)) then (if N < (ns.length : Int) then N else (ns.length : Int)) else 1) = n := en
  have er : List.replicate (m + 2) (none : Option Vl) = none :: none :: List.replicate m none := rfl
  have em : m + 3 - 1 = m + 2 := rfl
  have hp := hpre (List.replicate m none) List.length_replicate
  simp [runF, en', sm, el, er, hp]
def law09In (lr ld ls cr ae : Nat) : List S := [S.asg (Tg.n 3) (E.call lr [E.var 2]), S.par [4, 5] [E.call ld [E.var 2, E.bi Bi.len [E.var 3]], E.call ld [E.var 2, E.bi Bi.len [E.var 3]]], S.iff (E.call ls [E.callk cr [E.var 5, E.var 4, E.var 3] [2, 1, 0], E.call cr [E.var 3, E.var 4, E.var 5]]).not [S.ret (E.con (.bool false))] [], S.iff (E.call ls [E.callk ae [E.var 3] [0], E.call ae [E.var 3]]).not [S.ret (E.con (.bool false))] []]
def law09Fn (lbh lp lca lr ld ls cr ae : Nat) : Fn := ⟨1, 6, [S.iff (E.call lbh []).not [S.ret (E.con (.bool false))] [], S.for (Tg.n 1) (It.rg1 (E.bi Bi.max [cI 1, E.bi Bi.min [E.bi Bi.len [E.var 0], cI 4]])) (S.asg (Tg.n 2) (E.call lp [E.call lca [E.var 0, E.var 1]]) :: law09In lr ld ls cr ae), S.ret (E.con (.bool true))]⟩
def PHand (G : Fs) (f : Nat) : Prop := G f [] = some (.fz (.bool true), [])
theorem law09_run {G : Fs} {lbh lp lca lr ld ls cr ae : Nat} (hh : PHand G lbh) (hpe : PPen G lp) (hce : PCell G lca) (hr : PRises G lr) (hd : PDraw G ld) (hs : PSameF G ls) (hc : PCross G cr) (he : PEnds G ae) (ns : List Int) : ∃ ps, runF G (law09Fn lbh lp lca lr ld ls cr ae) [.scr ns] = some (.fz (.bool true), ps) := by
  refine outer1_run hce hpe ns (N := 4) (m := 3) (pre := [S.iff (E.call lbh []).not [S.ret (E.con (.bool false))] []]) (by decide) ?_ ?_
  · intro rest _ ss
    have hh : G lbh [] = _ := hh
    simp [hh]
  · intro i y rest hy hrest
    obtain ⟨o3, o4, o5, rfl⟩ : ∃ o3 o4 o5, rest = [o3, o4, o5] := by
      match rest, hrest with
      | [a, b, c], _ => exact ⟨a, b, c, rfl⟩
    obtain ⟨rs, y1, e1, hrs, hy1⟩ := hr y hy
    have l5 := hrs.1.2.1
    have l2 := hrs.1.1
    obtain ⟨b, y2, e2, b0, b1, hy2⟩ := hd y1 rs.length hy1 (by omega) (by omega)
    obtain ⟨e, y3, e3, e0, e1', hy3⟩ := hd y2 rs.length hy2 (by omega) (by omega)
    have e4 := hc rs b e hrs.1 b0 b1 e0 e1'
    have e5 := he rs hrs.1
    have e6 := hs _ (cross_show hrs b e)
    have e7 := hs _ (ends_show hrs)
    generalize crossD rs b e = cd at *
    generalize (endsP rs).map prD = ed at *
    obtain ⟨p, q, r, rfl, -, -⟩ := id hy
    obtain ⟨p1, q1, r1, rfl, -, -⟩ := id hy1
    obtain ⟨p2, q2, r2, rfl, -, -⟩ := id hy2
    obtain ⟨p3, q3, r3, rfl, -, -⟩ := id hy3
    refine ⟨.ol [.int p3, .int q3, .int r3], [some (.fz (tI' rs)), some (.fz (.int b)), some (.fz (.int e))], ?_, hy3, rfl⟩
    simp only [tI'] at *
    simp [law09In, e1, e2, e3, e4, e5, e6, e7]
end Tr

set_option Elab.async false
set_option linter.all false
set_option maxRecDepth 100000
set_option maxHeartbeats 4000000
/-! Crossings: what a free walk leaves tells what it crossed. -/
namespace Tr
open PySem
theorem if_cong {α : Sort _} {p q : Prop} [Decidable p] [Decidable q] (h : p ↔ q) (a b : α) : (if p then a else b) = if q then a else b := by
  by_cases c : p
  · rw [if_pos c, if_pos (h.mp c)]
  · rw [if_neg c, if_neg fun d => c (h.mpr d)]
def incT (t : Int) : List Int → Nat → List Int
  | [], _ => []
  | r :: rs, 0 => (r + t) :: rs
  | r :: rs, i + 1 => r :: incT t rs i
def incP (a b : Int) : List (Int × Int) → Nat → List (Int × Int)
  | [], _ => []
  | x :: xs, 0 => (x.1 + a, x.2 + b) :: xs
  | x :: xs, i + 1 => x :: incP a b xs i
theorem incT_len (t : Int) : ∀ (rs : List Int) (i : Nat), (incT t rs i).length = rs.length
  | [], _ => rfl
  | _ :: _, 0 => rfl
  | _ :: rs, i + 1 => by simp [incT, incT_len t rs i]
theorem incP_len (a b : Int) : ∀ (rs : List (Int × Int)) (i : Nat), (incP a b rs i).length = rs.length
  | [], _ => rfl
  | _ :: _, 0 => rfl
  | _ :: rs, i + 1 => by simp [incP, incP_len a b rs i]
theorem incT_set (t : Int) : ∀ (rs : List Int) (i : Nat), rs.set i (rs.getD i 0 + t) = incT t rs i
  | [], _ => rfl
  | _ :: _, 0 => rfl
  | r :: rs, i + 1 => by
    show r :: rs.set i (rs.getD i 0 + t) = r :: incT t rs i
    rw [incT_set t rs i]
theorem incP_set (a b : Int) : ∀ (rs : List (Int × Int)) (i : Nat), rs.set i ((rs.getD i (0, 0)).1 + a, (rs.getD i (0, 0)).2 + b) = incP a b rs i
  | [], _ => rfl
  | _ :: _, 0 => rfl
  | r :: rs, i + 1 => by
    show r :: rs.set i ((rs.getD i (0, 0)).1 + a, (rs.getD i (0, 0)).2 + b) = r :: incP a b rs i
    rw [incP_set a b rs i]
theorem raise_inc (rs : List Int) (p : Int) : raiseH rs p = incT 1 rs p.toNat := incT_set 1 rs p.toNat
theorem bump_r (os : List (Int × Int)) (p : Int) : bumpO p 1 os = incP 1 0 os p.toNat := by
  rw [← incP_set]
  unfold bumpO
  rw [if_neg (by decide), Int.add_zero]
theorem bump_l (os : List (Int × Int)) (p : Int) : bumpO p (-1) os = incP 0 1 os (p - 1).toNat := by
  rw [← incP_set]
  unfold bumpO
  rw [if_pos (by decide), Int.add_zero]
theorem incT_dropLast (t : Int) : ∀ (rs : List Int) (i : Nat), (incT t rs i).dropLast = incT t rs.dropLast i
  | [], _ => rfl
  | [_], 0 => rfl
  | [_], _ + 1 => rfl
  | _ :: _ :: _, 0 => rfl
  | r :: q :: rs, i + 1 => by
    have ih := incT_dropLast t (q :: rs) i
    have hn : incT t (q :: rs) i ≠ [] := by
      intro h
      have := incT_len t (q :: rs) i
      rw [h] at this
      cases this
    show (r :: incT t (q :: rs) i).dropLast = r :: incT t (q :: rs).dropLast i
    rw [List.dropLast_cons_of_ne_nil hn, ih]
theorem incT_getD (t : Int) : ∀ (rs : List Int) (i j : Nat), j < rs.length → (incT t rs i).getD j 0 = rs.getD j 0 + if i = j then t else 0
  | [], _, _, h => by cases h
  | r :: rs, 0, 0, _ => rfl
  | r :: rs, 0, j + 1, _ => by
    show rs.getD j 0 = rs.getD j 0 + _
    rw [if_neg (by omega)]; omega
  | r :: rs, i + 1, 0, _ => by
    show r = r + _
    rw [if_neg (by omega)]; omega
  | r :: rs, i + 1, j + 1, h => by
    show (incT t rs i).getD j 0 = rs.getD j 0 + _
    rw [incT_getD t rs i j (by simpa using h)]
    by_cases c : i = j
    · rw [if_pos c, if_pos (by omega)]
    · rw [if_neg c, if_neg (by omega)]
theorem incP_getD (a b : Int) : ∀ (rs : List (Int × Int)) (i j : Nat), j < rs.length → ((incP a b rs i).getD j (0, 0)).2 = (rs.getD j (0, 0)).2 + if i = j then b else 0
  | [], _, _, h => by cases h
  | r :: rs, 0, 0, _ => rfl
  | r :: rs, 0, j + 1, _ => by
    show (rs.getD j (0, 0)).2 = (rs.getD j (0, 0)).2 + _
    rw [if_neg (by omega)]; omega
  | r :: rs, i + 1, 0, _ => by
    show r.2 = r.2 + _
    rw [if_neg (by omega)]; omega
  | r :: rs, i + 1, j + 1, h => by
    show ((incP a b rs i).getD j (0, 0)).2 = (rs.getD j (0, 0)).2 + _
    rw [incP_getD a b rs i j (by simpa using h)]
    by_cases c : i = j
    · rw [if_pos c, if_pos (by omega)]
    · rw [if_neg c, if_neg (by omega)]
def NonNeg (os : List (Int × Int)) : Prop := ∀ x ∈ os, 0 ≤ x.1 ∧ 0 ≤ x.2
theorem incP_non {a b : Int} (ha : 0 ≤ a) (hb : 0 ≤ b) : ∀ {os : List (Int × Int)} {i : Nat}, NonNeg os → NonNeg (incP a b os i)
  | [], _, _ => fun _ h => nomatch h
  | y :: os, 0, h => fun x hx => by
    have h1 := h y List.mem_cons_self
    rcases List.mem_cons.mp hx with rfl | hx
    · exact ⟨by show 0 ≤ y.1 + a; omega, by show 0 ≤ y.2 + b; omega⟩
    · exact h x (List.mem_cons_of_mem _ hx)
  | y :: os, i + 1, h => fun x hx => by
    rcases List.mem_cons.mp hx with rfl | hx
    · exact h x List.mem_cons_self
    · exact incP_non ha hb (os := os) (i := i) (fun z hz => h z (List.mem_cons_of_mem _ hz)) x hx
/-! ### the count follows the walk -/
theorem cnt_eq {b e e' : Int} : ∀ (rs : List Int) (k back : Int), (∀ j, k ≤ j → ((b ≤ j ∧ j < e) ↔ (b ≤ j ∧ j < e')) ∧ ((e ≤ j ∧ j < b) ↔ (e' ≤ j ∧ j < b))) → cntF b e rs k back = cntF b e' rs k back
  | [], _, _, _ => rfl
  | r :: rs, k, back, h => by
    obtain ⟨h1, h2⟩ := h k (Int.le_refl _)
    unfold cntF
    have e1 : (if b ≤ k ∧ k < e then (1 : Int) else 0) = if b ≤ k ∧ k < e' then 1 else 0 := if_cong h1 _ _
    have e2 : (if e ≤ k ∧ k < b then (1 : Int) else 0) = if e' ≤ k ∧ k < b then 1 else 0 := if_cong h2 _ _
    rw [e1, e2, cnt_eq rs (k + 1) _ fun j hj => h j (by omega)]
theorem cnt_right {b : Int} : ∀ (rs : List Int) (k back : Int) (i : Nat), i < rs.length → cntF b (k + i + 1) (incT 1 rs i) k back = incP 1 0 (cntF b (k + i) rs k back) i
  | [], _, _, _, h => by cases h
  | r :: rs, k, back, 0, _ => by
    have ek : k + ((0 : Nat) : Int) = k := Int.add_zero k
    rw [ek]
    show cntF b (k + 1) ((r + 1) :: rs) k back = incP 1 0 (cntF b k (r :: rs) k back) 0
    unfold cntF
    have e1 : r + 1 - back - (if b ≤ k ∧ k < k + 1 then (1 : Int) else 0) + (if k + 1 ≤ k ∧ k < b then 1 else 0) = r - back - (if b ≤ k ∧ k < k then (1 : Int) else 0) + (if k ≤ k ∧ k < b then 1 else 0) := by
      by_cases c : b ≤ k
      · rw [if_pos ⟨c, by omega⟩, if_neg (by omega), if_neg (by omega), if_neg (by omega)]; omega
      · rw [if_neg (by omega), if_neg (by omega), if_neg (by omega), if_pos (by omega)]; omega
    rw [e1, cnt_eq (e := k + 1) (e' := k) rs (k + 1) _ fun j hj => ⟨by omega, by omega⟩]
    show _ :: _ = _ :: _
    rw [Int.add_zero]
    congr 2
    omega
  | r :: rs, k, back, i + 1, h => by
    have ek : k + ((i + 1 : Nat) : Int) = k + 1 + i := by omega
    rw [ek]
    show cntF b (k + 1 + i + 1) (r :: incT 1 rs i) k back = incP 1 0 (cntF b (k + 1 + i) (r :: rs) k back) (i + 1)
    unfold cntF
    have e1 : (if b ≤ k ∧ k < k + 1 + (i : Int) + 1 then (1 : Int) else 0) = if b ≤ k ∧ k < k + 1 + (i : Int) then 1 else 0 := if_cong (by omega) _ _
    have e2 : (if k + 1 + (i : Int) + 1 ≤ k ∧ k < b then (1 : Int) else 0) = if k + 1 + (i : Int) ≤ k ∧ k < b then 1 else 0 := if_cong (by omega) _ _
    rw [e1, e2]
    show _ :: _ = _ :: incP 1 0 _ i
    rw [cnt_right rs (k + 1) _ i (by simpa using h)]
theorem cnt_left {b : Int} : ∀ (rs : List Int) (k back : Int) (i : Nat), i < rs.length → cntF b (k + i) (incT 1 rs (i + 1)) k back = incP 0 1 (cntF b (k + i + 1) rs k back) i
  | [], _, _, _, h => by cases h
  | r :: rs, k, back, 0, _ => by
    have ek : k + ((0 : Nat) : Int) = k := Int.add_zero k
    rw [ek]
    show cntF b k (r :: incT 1 rs 0) k back = incP 0 1 (cntF b (k + 1) (r :: rs) k back) 0
    unfold cntF
    have e1 : r - back - (if b ≤ k ∧ k < k then (1 : Int) else 0) + (if k ≤ k ∧ k < b then 1 else 0) = r - back - (if b ≤ k ∧ k < k + 1 then (1 : Int) else 0) + (if k + 1 ≤ k ∧ k < b then 1 else 0) + 1 := by
      by_cases c : b ≤ k
      · rw [if_neg (by omega), if_neg (by omega), if_pos (by omega), if_neg (by omega)]; omega
      · rw [if_neg (by omega), if_pos (by omega), if_neg (by omega), if_neg (by omega)]; omega
    rw [e1]
    generalize r - back - (if b ≤ k ∧ k < k + 1 then (1 : Int) else 0) + (if k + 1 ≤ k ∧ k < b then 1 else 0) = o
    show _ :: _ = _ :: _
    have e0 : (r - back + 0, o + 1) = (r - back, o + 1) := by rw [Int.add_zero]
    rw [e0]
    congr 1
    cases rs with
    | nil => rfl
    | cons q rs =>
      show cntF b k ((q + 1) :: rs) (k + 1) (o + 1) = _
      unfold cntF
      have e2 : q + 1 - (o + 1) = q - o := by omega
      have e3 : (if b ≤ k + 1 ∧ k + 1 < k then (1 : Int) else 0) = if b ≤ k + 1 ∧ k + 1 < k + 1 then 1 else 0 := if_cong (by omega) _ _
      have e4 : (if k ≤ k + 1 ∧ k + 1 < b then (1 : Int) else 0) = if k + 1 ≤ k + 1 ∧ k + 1 < b then 1 else 0 := if_cong (by omega) _ _
      rw [e2, e3, e4, cnt_eq (e := k) (e' := k + 1) rs (k + 1 + 1) _ fun j hj => ⟨by omega, by omega⟩]
  | r :: rs, k, back, i + 1, h => by
    have ek : k + ((i + 1 : Nat) : Int) = k + 1 + i := by omega
    rw [ek]
    show cntF b (k + 1 + i) (r :: incT 1 rs (i + 1)) k back = incP 0 1 (cntF b (k + 1 + i + 1) (r :: rs) k back) (i + 1)
    unfold cntF
    have e1 : (if b ≤ k ∧ k < k + 1 + (i : Int) + 1 then (1 : Int) else 0) = if b ≤ k ∧ k < k + 1 + (i : Int) then 1 else 0 := if_cong (by omega) _ _
    have e2 : (if k + 1 + (i : Int) + 1 ≤ k ∧ k < b then (1 : Int) else 0) = if k + 1 + (i : Int) ≤ k ∧ k < b then 1 else 0 := if_cong (by omega) _ _
    rw [e1, e2]
    show _ :: _ = _ :: incP 0 1 _ i
    rw [cnt_left rs (k + 1) _ i (by simpa using h)]
theorem cnt_zero (b : Int) : ∀ (m : Nat) (k : Int), cntF b b (List.replicate m 0) k 0 = List.replicate m (0, 0)
  | 0, _ => rfl
  | m + 1, k => by
    rw [List.replicate_succ, List.replicate_succ]
    unfold cntF
    rw [if_neg (by omega)]
    show (_, _) :: cntF b b _ (k + 1) _ = _
    rw [show (0 : Int) - 0 - 0 + 0 = 0 by rfl, cnt_zero b m (k + 1)]
    rfl
/-! ### hanging together, by truths -/
def ub (f : List (Int × Int)) : List Bool := f.map fun x => decide (0 < x.1 + x.2)
def usedU : List Bool → Nat → List Int
  | [], _ => []
  | true :: u, k => (k : Int) :: usedU u (k + 1)
  | false :: u, k => usedU u (k + 1)
theorem usedF_U : ∀ (f : List (Int × Int)) (k : Nat), usedF f k = usedU (ub f) k
  | [], _ => rfl
  | x :: f, k => by
    have ih := usedF_U f (k + 1)
    unfold usedF ub
    rw [List.map_cons]
    by_cases c : 0 < x.1 + x.2
    · rw [if_pos c, decide_eq_true c, ih]; rfl
    · rw [if_neg c, decide_eq_false c, ih]; rfl
def hangU (u : List Bool) (b e : Int) : Bool := match usedU u 0 with
  | [] => decide (b = e)
  | n :: ns => decide ((((n :: ns).length : Nat) : Int) = ns.foldl max n + 1 - ns.foldl min n) && (decide (ns.foldl min n ≤ b) && decide (b ≤ ns.foldl max n + 1))
theorem hangB_U (f : List (Int × Int)) (b e : Int) : hangB f b e = hangU (ub f) b e := by
  unfold hangB hangU
  rw [usedF_U]
  all_goals (cases usedU (ub f) 0 <;> rfl)
def hangV (u : List Bool) (b c : Int) : Bool := hangU u b c && hangU u c b
def allU : Nat → List (List Bool)
  | 0 => [[]]
  | m + 1 => (allU m).flatMap fun u => [true :: u, false :: u]
theorem mem_allU : ∀ (u : List Bool), u ∈ allU u.length
  | [] => by simp [allU]
  | x :: u => by
    show x :: u ∈ (allU u.length).flatMap fun u => [true :: u, false :: u]
    refine List.mem_flatMap.mpr ⟨u, mem_allU u, ?_⟩
    cases x <;> simp
def minI : List Int → Int
  | [] => 0
  | n :: ns => ns.foldl min n
def maxI : List Int → Int
  | [] => 0
  | n :: ns => ns.foldl max n
def loU (u : List Bool) (b : Int) : Int := minI (usedU u 0 ++ [b])
def hiU (u : List Bool) (b : Int) : Int := maxI ((usedU u 0).map (· + 1) ++ [b])
theorem fin1 : ∀ m ∈ [1, 2, 3, 4], ∀ u ∈ allU m, ∀ b ∈ List.range (m + 1), ∀ c ∈ List.range m,
    (hangV u (b : Nat) (c : Nat) = true → hangV (u.set c true) (b : Nat) ((c : Nat) + 1 : Int) = true) ∧ (hangV u (b : Nat) ((c : Nat) + 1 : Int) = true → hangV (u.set c true) (b : Nat) (c : Nat) = true) := by decide +kernel
theorem fin2 : ∀ m ∈ [1, 2, 3, 4], ∀ u ∈ allU m, ∀ b ∈ List.range (m + 1), ∀ e ∈ List.range (m + 1),
    (hangU u (b : Nat) (e : Nat) = true → hangU (u.set (b - 1) true) (b : Nat) (e : Nat) = true) := by decide +kernel
theorem fin3 : ∀ m ∈ [1, 2, 3, 4], ∀ u ∈ allU m, ∀ b ∈ List.range (m + 1), ∀ c ∈ List.range m,
    (loU u (b : Nat) ≤ (c : Nat) → (c : Nat) ≤ hiU u (b : Nat) → loU (u.set c true) (b : Nat) = min (loU u (b : Nat)) ((c : Nat) + 1 : Int) ∧ hiU (u.set c true) (b : Nat) = max (hiU u (b : Nat)) ((c : Nat) + 1 : Int))
    ∧ (loU u (b : Nat) ≤ (c : Nat) + 1 → (c : Nat) + 1 ≤ hiU u (b : Nat) → loU (u.set c true) (b : Nat) = min (loU u (b : Nat)) (c : Nat) ∧ hiU (u.set c true) (b : Nat) = max (hiU u (b : Nat)) (c : Nat)) := by decide +kernel
theorem ub_inc {a b : Int} (ha : 0 ≤ a) (hb : 0 ≤ b) (hab : 0 < a + b) : ∀ {os : List (Int × Int)} {i : Nat}, NonNeg os → ub (incP a b os i) = (ub os).set i true
  | [], _, _ => rfl
  | x :: os, 0, h => by
    have h1 := h x List.mem_cons_self
    show decide (0 < x.1 + a + (x.2 + b)) :: ub os = true :: ub os
    rw [decide_eq_true (by omega)]
  | x :: os, i + 1, h => by
    show decide (0 < x.1 + x.2) :: ub (incP a b os i) = decide (0 < x.1 + x.2) :: (ub os).set i true
    rw [ub_inc ha hb hab fun y hy => h y (List.mem_cons_of_mem _ hy)]
theorem ub_len (os : List (Int × Int)) : (ub os).length = os.length := List.length_map _
end Tr

set_option Elab.async false
set_option linter.all false
set_option maxRecDepth 100000
set_option maxHeartbeats 4000000
/-! Crossings: a free walk keeps the count; laws of crossings. -/
namespace Tr
open PySem
theorem mem14 {m : Nat} (h1 : 1 ≤ m) (h4 : m ≤ 4) : m ∈ [1, 2, 3, 4] := by
  have : m = 1 ∨ m = 2 ∨ m = 3 ∨ m = 4 := by omega
  rcases this with rfl | rfl | rfl | rfl <;> simp
structure Inv (b : Int) (rs : List Int) (os : List (Int × Int)) (c : Int) : Prop where
  r2 : 2 ≤ rs.length
  r5 : rs.length ≤ 5
  ol : os.length + 1 = rs.length
  b0 : 0 ≤ b
  b1 : b < rs.length
  c0 : 0 ≤ c
  c1 : c < rs.length
  non : NonNeg os
  cnt : cntF b c rs.dropLast 0 0 = os
  last : (os.getD (os.length - 1) (0, 0)).2 = lastD rs
  hang : hangV (ub os) b c = true
theorem Inv.step {b c s : Int} {rs : List Int} {os : List (Int × Int)} (h : Inv b rs os c) (hs : IsStp s) (h0 : 0 ≤ c + s) (h1 : c + s < rs.length) : Inv b (raiseH rs c) (bumpO c s os) (c + s) := by
  obtain ⟨r2, r5, ol, b0, b1, c0, c1, non, cnt, last, hang⟩ := h
  obtain ⟨bn, rfl⟩ : ∃ bn : Nat, b = (bn : Int) := ⟨b.toNat, by omega⟩
  have hu := mem_allU (ub os)
  rw [ub_len] at hu
  rcases hs with rfl | rfl
  · obtain ⟨i, rfl⟩ : ∃ i : Nat, c = (i : Int) + 1 := ⟨(c - 1).toNat, by omega⟩
    have e1 : ((i : Int) + 1).toNat = i + 1 := by omega
    have e2 : ((i : Int) + 1 - 1).toNat = i := by omega
    have e3 : (i : Int) + 1 + -1 = (i : Int) := by omega
    rw [raise_inc, bump_l, e1, e2, e3]
    have hi : i < os.length := by omega
    refine ⟨by rw [incT_len]; exact r2, by rw [incT_len]; exact r5, by rw [incT_len, incP_len]; exact ol, b0, by rw [incT_len]; exact b1, by omega, by rw [incT_len]; omega, incP_non (by decide) (by decide) non, ?_, ?_, ?_⟩
    · have q := cnt_left (b := (bn : Int)) rs.dropLast 0 0 i (by rw [List.length_dropLast]; omega)
      rw [Int.zero_add] at q
      rw [incT_dropLast, q, cnt]
    · unfold lastD at *
      rw [incP_len, incT_len, incP_getD _ _ _ _ _ (by omega), incT_getD _ _ _ _ (by omega), last]
      congr 1
      exact if_cong (by omega) _ _
    · rw [ub_inc (by decide) (by decide) (by decide) non]
      exact (fin1 os.length (mem14 (by omega) (by omega)) (ub os) hu bn (List.mem_range.mpr (by omega)) i (List.mem_range.mpr hi)).2 hang
  · obtain ⟨i, rfl⟩ : ∃ i : Nat, c = (i : Int) := ⟨c.toNat, by omega⟩
    have e1 : (i : Int).toNat = i := by omega
    rw [raise_inc, bump_r, e1]
    have hi : i < os.length := by omega
    refine ⟨by rw [incT_len]; exact r2, by rw [incT_len]; exact r5, by rw [incT_len, incP_len]; exact ol, b0, by rw [incT_len]; exact b1, by omega, by rw [incT_len]; omega, incP_non (by decide) (by decide) non, ?_, ?_, ?_⟩
    · have q := cnt_right (b := (bn : Int)) rs.dropLast 0 0 i (by rw [List.length_dropLast]; omega)
      rw [Int.zero_add] at q
      rw [incT_dropLast, q, cnt]
    · unfold lastD at *
      rw [incP_len, incT_len, incP_getD _ _ _ _ _ (by omega), incT_getD _ _ _ _ (by omega), last]
      rw [if_neg (by omega : ¬ i = rs.length - 1)]
      split <;> rfl
    · rw [ub_inc (by decide) (by decide) (by decide) non]
      exact (fin1 os.length (mem14 (by omega) (by omega)) (ub os) hu bn (List.mem_range.mpr (by omega)) i (List.mem_range.mpr hi)).1 hang
theorem Inv.walk {b : Int} : ∀ {ws : List Int} {rs : List Int} {os : List (Int × Int)} {c : Int}, Inv b rs os c → FreeW rs.length c ws → Inv b (wEnd c rs ws).2 (ovE c os ws) (c + ws.sum)
  | [], rs, os, c, h, _ => by
    have : c + ([] : List Int).sum = c := by simp
    rw [this]
    exact h
  | s :: ws, rs, os, c, h, hw => by
    have h1 := h.step hw.1 hw.2.1 hw.2.2.1
    have := Inv.walk (ws := ws) h1 (by rw [raise_len]; exact hw.2.2.2)
    rw [List.sum_cons, ← Int.add_assoc]
    exact this
theorem usedU_rep : ∀ (m k : Nat), usedU (List.replicate m false) k = []
  | 0, _ => rfl
  | m + 1, k => usedU_rep m (k + 1)
theorem ub_zero (m : Nat) : ub (zerosP m) = List.replicate m false := by
  unfold ub zerosP
  rw [List.map_replicate]
  rfl
theorem Inv.zero {n : Nat} {b : Int} (h2 : 2 ≤ n) (h5 : n ≤ 5) (b0 : 0 ≤ b) (b1 : b < n) : Inv b (zerosI n) (zerosP (n - 1)) b := by
  have l1 : (zerosI n).length = n := List.length_replicate
  have l2 : (zerosP (n - 1)).length = n - 1 := List.length_replicate
  refine ⟨by omega, by omega, by omega, b0, by omega, b0, by omega, fun x hx => by rw [(List.mem_replicate.mp hx).2]; exact ⟨Int.le_refl _, Int.le_refl _⟩, ?_, ?_, ?_⟩
  · unfold zerosI
    rw [List.dropLast_replicate, cnt_zero]
    rfl
  · unfold lastD zerosI zerosP
    simp only [List.length_replicate]
    rw [List.getD_eq_getElem?_getD, List.getD_eq_getElem?_getD, List.getElem?_replicate, List.getElem?_replicate]
    split <;> split <;> rfl
  · rw [ub_zero]
    unfold hangV hangU
    rw [usedU_rep]
    simp
theorem fold_min_non : ∀ (ns : List Int) (n : Int), 0 ≤ n → (∀ x ∈ ns, 0 ≤ x) → 0 ≤ ns.foldl min n
  | [], _, h, _ => h
  | x :: ns, n, h, hx => fold_min_non ns (min n x) (by have := hx x List.mem_cons_self; omega) fun y hy => hx y (List.mem_cons_of_mem _ hy)
theorem fold_min_le : ∀ (ns : List Int) (n : Int), ns.foldl min n ≤ n ∧ ∀ x ∈ ns, ns.foldl min n ≤ x
  | [], n => ⟨Int.le_refl _, fun _ h => nomatch h⟩
  | x :: ns, n => by
    obtain ⟨h1, h2⟩ := fold_min_le ns (min n x)
    refine ⟨by show ns.foldl min (min n x) ≤ n; omega, fun y hy => ?_⟩
    rcases List.mem_cons.mp hy with rfl | hy
    · show ns.foldl min (min n y) ≤ y
      omega
    · exact h2 y hy
theorem minP_non {f : List (Int × Int)} (h : NonNeg f) : ¬ minP f < 0 := by
  unfold minP
  cases f with
  | nil => decide
  | cons x f =>
    have h1 := h x List.mem_cons_self
    show ¬ (f.map fun x => min x.1 x.2).foldl min (min x.1 x.2) < 0
    have := fold_min_non (f.map fun x => min x.1 x.2) (min x.1 x.2) (by omega) fun y hy => by
      obtain ⟨z, hz, rfl⟩ := List.mem_map.mp hy
      have := h z (List.mem_cons_of_mem _ hz)
      omega
    omega
theorem non_minP {f : List (Int × Int)} (h : ¬ minP f < 0) : NonNeg f := by
  unfold minP at h
  cases f with
  | nil => exact fun _ h => nomatch h
  | cons x f =>
    have h : ¬ (f.map fun x => min x.1 x.2).foldl min (min x.1 x.2) < 0 := h
    obtain ⟨h1, h2⟩ := fold_min_le (f.map fun x => min x.1 x.2) (min x.1 x.2)
    intro y hy
    rcases List.mem_cons.mp hy with rfl | hy
    · omega
    · have := h2 _ (List.mem_map.mpr ⟨y, hy, rfl⟩)
      omega
/-- what crossings need -/
def Good (rs : List Int) (b e : Int) (f : List (Int × Int)) : Prop := cntF b e rs.dropLast 0 0 = f ∧ NonNeg f ∧ (f.getD (f.length - 1) (0, 0)).2 = lastD rs ∧ hangB f b e = true
theorem Good.cross {rs : List Int} {b e : Int} {f : List (Int × Int)} (h : Good rs b e f) : crossD rs b e = .tuple (f.map prD) := by
  obtain ⟨h1, h2, h3, h4⟩ := h
  unfold crossD
  dsimp only
  rw [h1, decide_eq_false (minP_non h2), decide_eq_true h3, h4]
  rfl
theorem good_of {rs : List Int} {b e : Int} (h : notNone (crossD rs b e) = true) : Good rs b e (cntF b e rs.dropLast 0 0) := by
  unfold crossD at h
  dsimp only at h
  split at h
  · cases h
  · rename_i hc
    simp at hc
    obtain ⟨⟨h1, h2⟩, h3⟩ := hc
    exact ⟨rfl, non_minP (by omega), by rw [List.getD_eq_getElem?_getD]; exact h2, h3⟩
theorem Inv.good {b c : Int} {rs : List Int} {os : List (Int × Int)} (h : Inv b rs os c) : Good rs b c os := by
  refine ⟨h.cnt, h.non, h.last, ?_⟩
  rw [hangB_U]
  have := h.hang
  unfold hangV at this
  rw [Bool.and_eq_true] at this
  exact this.1
theorem Inv.ends {b c : Int} {rs : List Int} {os : List (Int × Int)} (h : Inv b rs os c) : (b, c) ∈ endsP rs := by
  unfold endsP
  rw [List.mem_filter]
  refine ⟨?_, by show notNone (crossD rs b c) = true; rw [h.good.cross]; rfl⟩
  unfold everP
  have := h.b0; have := h.b1; have := h.c0; have := h.c1
  refine List.mem_flatMap.mpr ⟨b.toNat, List.mem_range.mpr (by omega), List.mem_map.mpr ⟨c.toNat, List.mem_range.mpr (by omega), ?_⟩⟩
  show ((b.toNat : Int), (c.toNat : Int)) = (b, c)
  rw [Int.toNat_of_nonneg h.b0, Int.toNat_of_nonneg h.c0]
/-! ### walks put together, back, mirrored -/
def addI (a b : List Int) : List Int := List.zipWith (· + ·) a b
def addP (a b : List (Int × Int)) : List (Int × Int) := List.zipWith (fun x y => (x.1 + y.1, x.2 + y.2)) a b
theorem addI_inc (t : Int) : ∀ (a b : List Int) (i : Nat), a.length = b.length → addI a (incT t b i) = incT t (addI a b) i
  | [], _, _, _ => by unfold addI; simp [incT]
  | _ :: _, [], _, h => by cases h
  | x :: a, y :: b, 0, _ => by
    show (x + (y + t)) :: addI a b = (x + y + t) :: addI a b
    rw [Int.add_assoc]
  | x :: a, y :: b, i + 1, h => by
    show (x + y) :: addI a (incT t b i) = (x + y) :: incT t (addI a b) i
    rw [addI_inc t a b i (by simpa using h)]
theorem addP_inc (s t : Int) : ∀ (a b : List (Int × Int)) (i : Nat), a.length = b.length → addP a (incP s t b i) = incP s t (addP a b) i
  | [], _, _, _ => by unfold addP; simp [incP]
  | _ :: _, [], _, h => by cases h
  | x :: a, y :: b, 0, _ => by
    show (x.1 + (y.1 + s), x.2 + (y.2 + t)) :: addP a b = (x.1 + y.1 + s, x.2 + y.2 + t) :: addP a b
    rw [Int.add_assoc, Int.add_assoc]
  | x :: a, y :: b, i + 1, h => by
    show (x.1 + y.1, x.2 + y.2) :: addP a (incP s t b i) = (x.1 + y.1, x.2 + y.2) :: incP s t (addP a b) i
    rw [addP_inc s t a b i (by simpa using h)]
theorem bump_inc {s : Int} (hs : IsStp s) (p : Int) : ∃ (a b : Int) (i : Nat), (∀ os, bumpO p s os = incP a b os i) := by
  rcases hs with rfl | rfl
  · exact ⟨0, 1, _, fun os => bump_l os p⟩
  · exact ⟨1, 0, _, fun os => bump_r os p⟩
theorem wEnd_add : ∀ (ws : List Int) (p : Int) (a b : List Int), a.length = b.length → (wEnd p (addI a b) ws).2 = addI a (wEnd p b ws).2
  | [], _, _, _, _ => rfl
  | s :: ws, p, a, b, h => by
    unfold wEnd
    rw [raise_inc, ← addI_inc 1 a b _ h, ← raise_inc, wEnd_add ws _ a _ (by rw [raise_len]; exact h)]
theorem ovE_add : ∀ (ws : List Int) (p : Int) (a b : List (Int × Int)), Stps ws → a.length = b.length → ovE p (addP a b) ws = addP a (ovE p b ws)
  | [], _, _, _, _, _ => rfl
  | s :: ws, p, a, b, hs, h => by
    obtain ⟨x, y, i, e⟩ := bump_inc (hs s List.mem_cons_self) p
    unfold ovE
    rw [e, ← addP_inc x y a b i h, e, ovE_add ws _ a _ (fun z hz => hs z (List.mem_cons_of_mem _ hz)) (by rw [incP_len]; exact h)]
theorem wEnd_app : ∀ (u v : List Int) (p : Int) (rs : List Int), wEnd p rs (u ++ v) = wEnd (p + u.sum) (wEnd p rs u).2 v
  | [], v, p, rs => by
    show wEnd p rs v = wEnd (p + ([] : List Int).sum) rs v
    rw [List.sum_nil, Int.add_zero]
  | s :: u, v, p, rs => by
    show wEnd (p + s) (raiseH rs p) (u ++ v) = wEnd (p + (s :: u).sum) (wEnd (p + s) (raiseH rs p) u).2 v
    rw [wEnd_app u v, List.sum_cons, Int.add_assoc]
theorem ovE_app : ∀ (u v : List Int) (p : Int) (os : List (Int × Int)), ovE p os (u ++ v) = ovE (p + u.sum) (ovE p os u) v
  | [], v, p, rs => by
    show ovE p rs v = ovE (p + ([] : List Int).sum) rs v
    rw [List.sum_nil, Int.add_zero]
  | s :: u, v, p, os => by
    show ovE (p + s) (bumpO p s os) (u ++ v) = ovE (p + (s :: u).sum) (ovE (p + s) (bumpO p s os) u) v
    rw [ovE_app u v, List.sum_cons, Int.add_assoc]
theorem wEnd_1 : ∀ (ws : List Int) (p : Int) (rs : List Int), (wEnd p rs ws).1 = p + ws.sum
  | [], p, _ => by show p = p + ([] : List Int).sum; rw [List.sum_nil, Int.add_zero]
  | s :: ws, p, rs => by
    show (wEnd (p + s) (raiseH rs p) ws).1 = _
    rw [wEnd_1 ws, List.sum_cons, Int.add_assoc]
theorem wEnd_len : ∀ (ws : List Int) (p : Int) (rs : List Int), (wEnd p rs ws).2.length = rs.length
  | [], _, _ => rfl
  | s :: ws, p, rs => by
    show (wEnd (p + s) (raiseH rs p) ws).2.length = _
    rw [wEnd_len ws, raise_len]
theorem free_app {n : Int} : ∀ {u v : List Int} {p : Int}, FreeW n p u → FreeW n (p + u.sum) v → FreeW n p (u ++ v)
  | [], v, p, _, h => by rw [List.sum_nil, Int.add_zero] at h; exact h
  | s :: u, v, p, h, h2 => ⟨h.1, h.2.1, h.2.2.1, free_app h.2.2.2 (by rw [List.sum_cons, ← Int.add_assoc] at h2; exact h2)⟩
theorem addI_zero : ∀ (a : List Int) (n : Nat), a.length = n → addI a (zerosI n) = a
  | [], 0, _ => rfl
  | x :: a, n + 1, h => by
    show (x + 0) :: addI a (zerosI n) = x :: a
    rw [Int.add_zero, addI_zero a n (by simpa using h)]
theorem addP_zero : ∀ (a : List (Int × Int)) (n : Nat), a.length = n → addP a (zerosP n) = a
  | [], 0, _ => rfl
  | x :: a, n + 1, h => by
    show (x.1 + 0, x.2 + 0) :: addP a (zerosP n) = x :: a
    rw [Int.add_zero, Int.add_zero, addP_zero a n (by simpa using h)]
def bk (ws : List Int) : List Int := ws.reverse.map fun s => 0 - s
theorem bk_cons (s : Int) (t : List Int) : bk (s :: t) = bk t ++ [0 - s] := by
  unfold bk
  rw [List.reverse_cons, List.map_append]
  rfl
theorem bk_sum : ∀ ws : List Int, (bk ws).sum = - ws.sum
  | [] => rfl
  | s :: t => by
    rw [bk_cons, List.sum_append, bk_sum t, List.sum_cons]
    simp
    omega
theorem stpN {s : Int} (h : IsStp s) : IsStp (0 - s) := by
  rcases h with rfl | rfl
  · exact .inr rfl
  · exact .inl rfl
theorem bk_free {n : Int} : ∀ {ws : List Int} {p : Int}, FreeW n p ws → 0 ≤ p → p < n → FreeW n (p + ws.sum) (bk ws)
  | [], _, _, _, _ => trivial
  | s :: t, p, h, p0, p1 => by
    rw [bk_cons, List.sum_cons, ← Int.add_assoc]
    refine free_app (bk_free h.2.2.2 h.2.1 h.2.2.1) ?_
    rw [bk_sum]
    refine ⟨stpN h.1, by omega, by omega, trivial⟩
def sw (x : Int × Int) : Int × Int := (x.2, x.1)
theorem sw_inc (a b : Int) : ∀ (os : List (Int × Int)) (i : Nat), (incP a b os i).map sw = incP b a (os.map sw) i
  | [], _ => rfl
  | _ :: _, 0 => rfl
  | x :: os, i + 1 => by
    show sw x :: (incP a b os i).map sw = sw x :: incP b a (os.map sw) i
    rw [sw_inc a b os i]
theorem sw_bump {s : Int} (hs : IsStp s) (p : Int) (os : List (Int × Int)) : (bumpO p s os).map sw = bumpO (p + s) (0 - s) (os.map sw) := by
  rcases hs with rfl | rfl
  · show _ = bumpO (p + -1) 1 (os.map sw)
    rw [bump_l, bump_r, sw_inc]
    rfl
  · show _ = bumpO (p + 1) (-1) (os.map sw)
    rw [bump_l, bump_r, sw_inc]
    congr 1
    omega
theorem inc_comm (a b c d : Int) : ∀ (os : List (Int × Int)) (i j : Nat), incP a b (incP c d os i) j = incP c d (incP a b os j) i
  | [], _, _ => rfl
  | x :: os, 0, 0 => by
    show (x.1 + c + a, x.2 + d + b) :: os = (x.1 + a + c, x.2 + b + d) :: os
    rw [Int.add_right_comm, Int.add_right_comm x.2]
  | _ :: _, 0, _ + 1 => rfl
  | _ :: _, _ + 1, 0 => rfl
  | x :: os, i + 1, j + 1 => by
    show x :: incP a b (incP c d os i) j = x :: incP c d (incP a b os j) i
    rw [inc_comm a b c d os i j]
theorem ovE_inc (a b : Int) (i : Nat) : ∀ (ws : List Int) (q : Int) (os : List (Int × Int)), Stps ws → ovE q (incP a b os i) ws = incP a b (ovE q os ws) i
  | [], _, _, _ => rfl
  | s :: ws, q, os, h => by
    obtain ⟨x, y, j, e⟩ := bump_inc (h s List.mem_cons_self) q
    unfold ovE
    rw [e, inc_comm, ← e, ovE_inc a b i ws _ _ fun z hz => h z (List.mem_cons_of_mem _ hz)]
theorem bk_ov : ∀ (ws : List Int) (p : Int) (os : List (Int × Int)), Stps ws → ovE (p + ws.sum) (os.map sw) (bk ws) = (ovE p os ws).map sw
  | [], _, _, _ => rfl
  | s :: t, p, os, h => by
    have hs := h s List.mem_cons_self
    have ht : Stps t := fun z hz => h z (List.mem_cons_of_mem _ hz)
    rw [bk_cons, ovE_app, List.sum_cons, ← Int.add_assoc, bk_ov t (p + s) os ht, bk_sum]
    show bumpO (p + s + t.sum + -t.sum) (0 - s) ((ovE (p + s) os t).map sw) = (ovE (p + s) (bumpO p s os) t).map sw
    rw [Int.add_neg_cancel_right, ← sw_bump hs]
    obtain ⟨a, b, i, e⟩ := bump_inc hs p
    rw [e, e, ovE_inc a b i t _ _ ht]
def mw (ws : List Int) : List Int := ws.map fun s => 0 - s
theorem mw_free {n : Int} : ∀ {ws : List Int} {p : Int}, FreeW n p ws → FreeW n (n - 1 - p) (mw ws)
  | [], _, _ => trivial
  | s :: t, p, h => ⟨stpN h.1, show 0 ≤ n - 1 - p + (0 - s) by have := h.2.2.1; omega, show n - 1 - p + (0 - s) < n by have := h.2.1; omega, by
      have := mw_free h.2.2.2
      rw [show n - 1 - (p + s) = n - 1 - p + (0 - s) by omega] at this
      exact this⟩
theorem mw_sum : ∀ ws : List Int, (mw ws).sum = - ws.sum
  | [] => rfl
  | s :: t => by
    show (0 - s) + (mw t).sum = _
    rw [mw_sum t, List.sum_cons]
    omega
theorem incT_appL (t : Int) : ∀ (l r : List Int) (i : Nat), i < l.length → incT t (l ++ r) i = incT t l i ++ r
  | [], _, _, h => by cases h
  | _ :: _, _, 0, _ => rfl
  | x :: l, r, i + 1, h => by
    show x :: incT t (l ++ r) i = x :: (incT t l i ++ r)
    rw [incT_appL t l r i (by simpa using h)]
theorem incT_appR (t : Int) : ∀ (l r : List Int) (i : Nat), incT t (l ++ r) (l.length + i) = l ++ incT t r i
  | [], r, i => by rw [List.length_nil, Nat.zero_add]; rfl
  | x :: l, r, i => by
    rw [List.length_cons, Nat.add_right_comm]
    show x :: incT t (l ++ r) (l.length + i) = x :: (l ++ incT t r i)
    rw [incT_appR t l r i]
theorem incT_rev (t : Int) : ∀ (rs : List Int) (i : Nat), i < rs.length → incT t rs.reverse (rs.length - 1 - i) = (incT t rs i).reverse
  | [], _, h => by cases h
  | x :: rs, 0, _ => by
    have := incT_appR t rs.reverse [x] 0
    rw [List.length_reverse] at this
    rw [List.reverse_cons]
    exact this.trans (List.reverse_cons).symm
  | x :: rs, i + 1, h => by
    have h : i < rs.length := by simpa using h
    rw [List.reverse_cons, List.length_cons, show rs.length + 1 - 1 - (i + 1) = rs.length - 1 - i by omega, incT_appL _ _ _ _ (by rw [List.length_reverse]; omega), incT_rev t rs i h]
    exact (List.reverse_cons).symm
theorem incP_appL (s t : Int) : ∀ (l r : List (Int × Int)) (i : Nat), i < l.length → incP s t (l ++ r) i = incP s t l i ++ r
  | [], _, _, h => by cases h
  | _ :: _, _, 0, _ => rfl
  | x :: l, r, i + 1, h => by
    show x :: incP s t (l ++ r) i = x :: (incP s t l i ++ r)
    rw [incP_appL s t l r i (by simpa using h)]
theorem incP_appR (s t : Int) : ∀ (l r : List (Int × Int)) (i : Nat), incP s t (l ++ r) (l.length + i) = l ++ incP s t r i
  | [], r, i => by rw [List.length_nil, Nat.zero_add]; rfl
  | x :: l, r, i => by
    rw [List.length_cons, Nat.add_right_comm]
    show x :: incP s t (l ++ r) (l.length + i) = x :: (l ++ incP s t r i)
    rw [incP_appR s t l r i]
theorem incP_rev (s t : Int) : ∀ (rs : List (Int × Int)) (i : Nat), i < rs.length → incP s t rs.reverse (rs.length - 1 - i) = (incP s t rs i).reverse
  | [], _, h => by cases h
  | x :: rs, 0, _ => by
    have := incP_appR s t rs.reverse [x] 0
    rw [List.length_reverse] at this
    rw [List.reverse_cons]
    exact this.trans (List.reverse_cons).symm
  | x :: rs, i + 1, h => by
    have h : i < rs.length := by simpa using h
    rw [List.reverse_cons, List.length_cons, show rs.length + 1 - 1 - (i + 1) = rs.length - 1 - i by omega, incP_appL _ _ _ _ _ (by rw [List.length_reverse]; omega), incP_rev s t rs i h]
    exact (List.reverse_cons).symm
theorem mw_rows : ∀ (ws : List Int) (p : Int) (rs : List Int), FreeW rs.length p ws → 0 ≤ p → p < rs.length → (wEnd ((rs.length : Int) - 1 - p) rs.reverse (mw ws)).2 = (wEnd p rs ws).2.reverse
  | [], _, _, _, _, _ => rfl
  | s :: t, p, rs, h, p0, p1 => by
    have ih := mw_rows t (p + s) (raiseH rs p) (by rw [raise_len]; exact h.2.2.2) h.2.1 (by rw [raise_len]; exact h.2.2.1)
    show (wEnd ((rs.length : Int) - 1 - p + (0 - s)) (raiseH rs.reverse ((rs.length : Int) - 1 - p)) (mw t)).2 = (wEnd (p + s) (raiseH rs p) t).2.reverse
    rw [← ih, raise_len]
    have e1 : (rs.length : Int) - 1 - p + (0 - s) = (rs.length : Int) - 1 - (p + s) := by omega
    have e2 : raiseH rs.reverse ((rs.length : Int) - 1 - p) = (raiseH rs p).reverse := by
      rw [raise_inc, raise_inc, ← incT_rev 1 rs p.toNat (by omega)]
      congr 1
      omega
    rw [e1, e2]
theorem mw_ov : ∀ (ws : List Int) (p : Int) (os : List (Int × Int)), FreeW ((os.length : Int) + 1) p ws → 0 ≤ p → p < (os.length : Int) + 1 → ovE ((os.length : Int) - p) (os.map sw).reverse (mw ws) = ((ovE p os ws).map sw).reverse
  | [], _, _, _, _, _ => rfl
  | s :: t, p, os, h, p0, p1 => by
    have ih := mw_ov t (p + s) (bumpO p s os) (by rw [bumpO_len]; exact h.2.2.2) h.2.1 (by rw [bumpO_len]; exact h.2.2.1)
    show ovE ((os.length : Int) - p + (0 - s)) (bumpO ((os.length : Int) - p) (0 - s) (os.map sw).reverse) (mw t) = ((ovE (p + s) (bumpO p s os) t).map sw).reverse
    rw [← ih, bumpO_len]
    have e1 : (os.length : Int) - p + (0 - s) = (os.length : Int) - (p + s) := by omega
    have e2 : bumpO ((os.length : Int) - p) (0 - s) (os.map sw).reverse = ((bumpO p s os).map sw).reverse := by
      rcases h.1 with rfl | rfl
      · show bumpO ((os.length : Int) - p) 1 (os.map sw).reverse = _
        have := h.2.1
        rw [bump_r, bump_l, sw_inc, ← incP_rev 1 0 (os.map sw) (p - 1).toNat (by rw [List.length_map]; omega), List.length_map]
        congr 1
        omega
      · show bumpO ((os.length : Int) - p) (-1) (os.map sw).reverse = _
        have := h.2.2.1
        rw [bump_r, bump_l, sw_inc, ← incP_rev 0 1 (os.map sw) p.toNat (by rw [List.length_map]; omega), List.length_map]
        congr 1
        omega
    rw [e1, e2]
/-! ### out of each place; more to and fro -/
def lastS : List (Int × Int) → Int → Int
  | [], back => back
  | x :: xs, _ => lastS xs x.2
theorem lastS_is : ∀ (f : List (Int × Int)) (back : Int), f ≠ [] → lastS f back = (f.getD (f.length - 1) (0, 0)).2
  | [], _, h => (h rfl).elim
  | [_], _, _ => rfl
  | x :: y :: f, back, _ => by
    show lastS (y :: f) x.2 = _
    rw [lastS_is (y :: f) x.2 (by simp)]
    rfl
theorem out_into {b e : Int} : ∀ (rs : List Int) (k back : Int), rs ≠ [] → lastS (cntF b e rs.dropLast k back) back = lastD rs → List.zipWith (· + ·) ((cntF b e rs.dropLast k back).map (·.1) ++ [0]) (back :: (cntF b e rs.dropLast k back).map (·.2)) = rs
  | [], _, _, h, _ => (h rfl).elim
  | [r], k, back, _, h => by
    have h : back = r := h
    show [0 + back] = [r]
    rw [Int.zero_add, h]
  | r :: q :: rs, k, back, _, h => by
    have ih := out_into (b := b) (e := e) (q :: rs) (k + 1) (r - back - (if b ≤ k ∧ k < e then 1 else 0) + (if e ≤ k ∧ k < b then 1 else 0)) (by simp) h
    show (r - back + back) :: _ = r :: q :: rs
    rw [Int.sub_add_cancel]
    exact congrArg (r :: ·) ih
theorem cnt_more {b e t : Int} : ∀ (rs : List Int) (k back : Int) (i : Nat), cntF b e (incT t (incT t rs i) (i + 1)) k back = incP t t (cntF b e rs k back) i
  | [], _, _, _ => rfl
  | r :: rs, k, back, 0 => by
    show cntF b e ((r + t) :: incT t rs 0) k back = incP t t (cntF b e (r :: rs) k back) 0
    unfold cntF
    have e1 : r + t - back - (if b ≤ k ∧ k < e then (1 : Int) else 0) + (if e ≤ k ∧ k < b then 1 else 0) = r - back - (if b ≤ k ∧ k < e then (1 : Int) else 0) + (if e ≤ k ∧ k < b then 1 else 0) + t := by omega
    have e2 : r + t - back = r - back + t := by omega
    rw [e1, e2]
    generalize r - back - (if b ≤ k ∧ k < e then (1 : Int) else 0) + (if e ≤ k ∧ k < b then 1 else 0) = o
    show _ :: _ = _ :: _
    congr 1
    cases rs with
    | nil => rfl
    | cons q rs =>
      show cntF b e ((q + t) :: rs) (k + 1) (o + t) = _
      unfold cntF
      rw [show q + t - (o + t) = q - o by omega]
  | r :: rs, k, back, i + 1 => by
    show _ :: cntF b e (incT t (incT t rs i) (i + 1)) (k + 1) _ = _ :: incP t t _ i
    rw [cnt_more rs (k + 1) _ i]
theorem Good.more {rs : List Int} {b e : Int} {f : List (Int × Int)} (h : Good rs b e f) {t : Int} (ht : 0 < t) (r2 : 2 ≤ rs.length) (r5 : rs.length ≤ 5) (b0 : 0 ≤ b) (b1 : b < rs.length) (e0 : 0 ≤ e) (e1 : e < rs.length) : Good (incT t (incT t rs (b - 1).toNat) ((b - 1).toNat + 1)) b e (incP t t f (b - 1).toNat) := by
  obtain ⟨h1, h2, h3, h4⟩ := h
  have hl : f.length + 1 = rs.length := by rw [← h1, cntF_len, List.length_dropLast]; omega
  have hi : (b - 1).toNat < f.length := by omega
  refine ⟨?_, incP_non (by omega) (by omega) h2, ?_, ?_⟩
  · rw [incT_dropLast, incT_dropLast, cnt_more, h1]
  · unfold lastD at *
    rw [incP_len, incT_len, incT_len, incP_getD _ _ _ _ _ (by omega), incT_getD _ _ _ _ (by rw [incT_len]; omega), incT_getD _ _ _ _ (by omega), h3, if_neg (by omega : ¬ (b - 1).toNat = rs.length - 1), Int.add_zero]
    congr 1
    exact if_cong (by omega) _ _
  · rw [hangB_U] at *
    rw [ub_inc (by omega) (by omega) (by omega) h2]
    have hu := mem_allU (ub f)
    rw [ub_len] at hu
    have q := fin2 f.length (mem14 (by omega) (by omega)) (ub f) hu b.toNat (List.mem_range.mpr (by omega)) e.toNat (List.mem_range.mpr (by omega))
    rw [Int.toNat_of_nonneg b0, Int.toNat_of_nonneg e0, show b.toNat - 1 = (b - 1).toNat by omega] at q
    exact q h4
/-! ### the span -/
theorem fin4 : ∀ m ∈ [1, 2, 3, 4], ∀ u ∈ allU m, ∀ b ∈ List.range (m + 1), ∀ c ∈ List.range (m + 1),
    hangV u (b : Nat) (c : Nat) = true → loU u (b : Nat) ≤ (c : Nat) ∧ (c : Nat) ≤ hiU u (b : Nat) := by decide +kernel
def plt : Int → List Int → List Int
  | _, [] => []
  | p, s :: ws => (p + s) :: plt (p + s) ws
theorem Inv.span {b c s : Int} {rs : List Int} {os : List (Int × Int)} (h : Inv b rs os c) (hs : IsStp s) (h0 : 0 ≤ c + s) (h1 : c + s < rs.length) : loU (ub (bumpO c s os)) b = min (loU (ub os) b) (c + s) ∧ hiU (ub (bumpO c s os)) b = max (hiU (ub os) b) (c + s) := by
  obtain ⟨r2, r5, ol, b0, b1, c0, c1, non, cnt, last, hang⟩ := h
  obtain ⟨bn, rfl⟩ : ∃ bn : Nat, b = (bn : Int) := ⟨b.toNat, by omega⟩
  have hu := mem_allU (ub os)
  rw [ub_len] at hu
  have hm := mem14 (m := os.length) (by omega) (by omega)
  have hb : bn ∈ List.range (os.length + 1) := List.mem_range.mpr (by omega)
  have q4 := fin4 os.length hm (ub os) hu bn hb c.toNat (List.mem_range.mpr (by omega))
  rw [Int.toNat_of_nonneg c0] at q4
  obtain ⟨l1, l2⟩ := q4 hang
  rcases hs with rfl | rfl
  · obtain ⟨i, rfl⟩ : ∃ i : Nat, c = (i : Int) + 1 := ⟨(c - 1).toNat, by omega⟩
    have e2 : ((i : Int) + 1 - 1).toNat = i := by omega
    have e3 : (i : Int) + 1 + -1 = (i : Int) := by omega
    rw [bump_l, e2, e3, ub_inc (by decide) (by decide) (by decide) non]
    exact (fin3 os.length hm (ub os) hu bn hb i (List.mem_range.mpr (by omega))).2 l1 l2
  · obtain ⟨i, rfl⟩ : ∃ i : Nat, c = (i : Int) := ⟨c.toNat, by omega⟩
    have e1 : (i : Int).toNat = i := by omega
    rw [bump_r, e1, ub_inc (by decide) (by decide) (by decide) non]
    exact (fin3 os.length hm (ub os) hu bn hb i (List.mem_range.mpr (by omega))).1 l1 l2
theorem Inv.spans {b : Int} : ∀ {ws : List Int} {rs : List Int} {os : List (Int × Int)} {c : Int}, Inv b rs os c → FreeW rs.length c ws → (plt c ws).foldl min (loU (ub os) b) = loU (ub (ovE c os ws)) b ∧ (plt c ws).foldl max (hiU (ub os) b) = hiU (ub (ovE c os ws)) b
  | [], _, _, _, _, _ => ⟨rfl, rfl⟩
  | s :: ws, rs, os, c, h, hw => by
    obtain ⟨q1, q2⟩ := h.span hw.1 hw.2.1 hw.2.2.1
    have := Inv.spans (ws := ws) (h.step hw.1 hw.2.1 hw.2.2.1) (by rw [raise_len]; exact hw.2.2.2)
    rw [q1, q2] at this
    exact this
theorem lo_zero (m : Nat) (b : Int) : loU (ub (zerosP m)) b = b ∧ hiU (ub (zerosP m)) b = b := by
  rw [ub_zero]
  unfold loU hiU
  rw [usedU_rep]
  exact ⟨rfl, rfl⟩
end Tr

set_option Elab.async false
set_option linter.all false
set_option maxRecDepth 100000
set_option maxHeartbeats 4000000
/-! The ground tells each crossing: span, rises of a walk on a ground. -/
namespace Tr
open PySem
theorem sh_prs (l : List (Int × Int)) : SeqAt.shaped (.tuple (l.map prD)) = true := by
  unfold SeqAt.shaped
  rw [Bool.and_eq_true]
  refine ⟨?_, decide_eq_true ?_⟩
  · show PyData.canLayAll0 (l.map prD) = true
    induction l with
    | nil => rfl
    | cons x l ih =>
      rw [List.map_cons]
      show ((true && (true && true)) && PyData.canLayAll0 (l.map prD)) = true
      rw [ih]; rfl
  · show PyData.depthAll (l.map prD) + 1 ≤ 64
    have : PyData.depthAll (l.map prD) ≤ 1 := by
      induction l with
      | nil => exact Nat.zero_le _
      | cons x l ih =>
        rw [List.map_cons]
        simp only [PyData.depthAll, prD, PyData.depth]
        omega
    omega
theorem sh_ints (l : List Int) : SeqAt.shaped (tI' l) = true := by
  unfold SeqAt.shaped
  rw [Bool.and_eq_true]
  refine ⟨?_, decide_eq_true ?_⟩
  · show PyData.canLayAll0 (l.map .int) = true
    exact lay_ints l
  · show PyData.depthAll (l.map .int) + 1 ≤ 64
    rw [depthL_ints]
    omega
theorem ne_prs (l : List (Int × Int)) : cmpD .ne (.tuple (l.map prD)) (.tuple (l.map prD)) = some false := ne_self (sh_prs l)
theorem eq_prs (l : List (Int × Int)) : cmpD .eq (.tuple (l.map prD)) (.tuple (l.map prD)) = some true := eq_self (sh_prs l)
theorem sh_pr (x : Int × Int) : SeqAt.shaped (prD x) = true := by
  have := sh_prs [x]
  unfold SeqAt.shaped
  rw [Bool.and_eq_true]
  exact ⟨rfl, decide_eq_true (by simp only [prD, PyData.depth, PyData.depthAll]; decide)⟩
theorem notin_prs {x : Int × Int} {l : List (Int × Int)} (h : x ∈ l) : cmpD .notin (prD x) (.tuple (l.map prD)) = some false := by
  have h1 : (l.map prD).all SeqAt.shaped = true := by
    rw [List.all_eq_true]
    intro d hd
    obtain ⟨y, -, rfl⟩ := List.mem_map.mp hd
    exact sh_pr y
  show (if (SeqAt.shaped (prD x) && (l.map prD).all SeqAt.shaped) = true then some (!inD (prD x) (l.map prD)) else none) = _
  rw [sh_pr, h1]
  have h2 : inD (prD x) (l.map prD) = true := by
    unfold inD
    rw [List.any_eq_true]
    exact ⟨prD x, List.mem_map.mpr ⟨x, h, rfl⟩, eqv_self _ (SeqAt.canLay_of_shaped (sh_pr x))⟩
  rw [h2]
  rfl
theorem ne_zero {x : Int × Int} (h : 0 ≤ x.1 ∧ 0 ≤ x.2) : cmpD .ne (prD x) (.tuple [.int 0, .int 0]) = some (decide (0 < x.1 + x.2)) := by
  obtain ⟨a, b⟩ := x
  have e : cmpD .ne (prD (a, b)) (.tuple [.int 0, .int 0]) = if okEq (prD (a, b)) (.tuple [.int 0, .int 0]) then some (!PyData.eqv (prD (a, b)) (.tuple [.int 0, .int 0])) else none := rfl
  have ok : okEq (prD (a, b)) (.tuple [.int 0, .int 0]) = true := by
    unfold okEq
    rw [sh_pr, show SeqAt.shaped (.tuple [.int 0, .int 0]) = true from sh_pr (0, 0)]
    rfl
  rw [e, if_pos ok]
  simp only [prD, PyData.eqv, PyData.eqvAll]
  have h1 : 0 ≤ a := h.1
  have h2 : 0 ≤ b := h.2
  congr 1
  by_cases c1 : a = 0
  · by_cases c2 : b = 0
    · subst c1 c2; rfl
    · have c3 : 0 < a + b := by omega
      have c4 : (b == 0) = false := by simpa using c2
      rw [decide_eq_true c3]
      simp [c1, c4]
  · have c3 : 0 < a + b := by omega
    have c4 : (a == 0) = false := by simpa using c1
    rw [decide_eq_true c3]
    simp [c4]
theorem min_of : ∀ {l : List Int}, l ≠ [] → biD .min [.list (l.map .int)] = some (.fz (.int (minI l)))
  | [], h => (h rfl).elim
  | n :: ns, _ => minL_ints n ns
theorem max_of : ∀ {l : List Int}, l ≠ [] → biD .max [.list (l.map .int)] = some (.fz (.int (maxI l)))
  | [], h => (h rfl).elim
  | n :: ns, _ => maxL_ints n ns
theorem idx_snocL (ws : List D) (s : D) : idxD (.list (ws ++ [s])) (.int (-1)) = some s := by
  have hn : 0 < ws.length + 1 := Nat.succ_pos _
  simp [idxD, place_last hn]
/-! ### the program's span -/
def placesOfFn : Fn := ⟨2, 4, [S.asg (Tg.n 2) (E.lst [E.var 0]), S.for (Tg.n 3) (It.li (E.var 1)) [S.app 2 (E.bin Bop.add ((E.var 2).idx (nI 1)) (E.var 3))], S.retv 2]⟩
theorem places_loop {G : Fs} (r0 r1 : Option Vl) : ∀ (ws : List Int) (c : Int) (acc : List D) (o3 : Option Vl), acc.length + ws.length ≤ 10000 → ∃ b3, forN (turnF G [] (Tg.n 3) [S.app 2 (E.bin Bop.add ((E.var 2).idx (nI 1)) (E.var 3))]) (ws.map .int) [r0, r1, some (.ol (acc ++ [.int c])), o3] = some (.nx, [r0, r1, some (.ol (acc ++ [.int c] ++ (plt c ws).map .int)), b3])
  | [], c, acc, o3, _ => ⟨o3, by simp [forN, plt]⟩
  | s :: ws, c, acc, o3, hl => by
    have ei := idx_snocL acc (.int c)
    have zl : acc.length + 1 < 16777216 := by simp at hl; omega
    have et : turnF G [] (Tg.n 3) [S.app 2 (E.bin Bop.add ((E.var 2).idx (nI 1)) (E.var 3))] (.int s) [r0, r1, some (.ol (acc ++ [.int c])), o3] = some (.nx, [r0, r1, some (.ol (acc ++ [.int c] ++ [.int (c + s)])), some (.fz (.int s))]) := by
      simp [turnF, ei, zl]
    obtain ⟨b3, q⟩ := places_loop (G := G) r0 r1 ws (c + s) (acc ++ [.int c]) (some (.fz (.int s))) (by simp at hl ⊢; omega)
    refine ⟨b3, ?_⟩
    rw [List.map_cons]
    unfold forN
    rw [et]
    simp only [Option.bind_some]
    rw [q]
    simp [plt]
def PPlaces (G : Fs) (f : Nat) : Prop := ∀ (p : Int) (ws : List Int), ws.length ≤ 1000 → G f [.fz (.int p), .fz (tI' ws)] = some (.ol ((p :: plt p ws).map .int), [.fz (.int p), .fz (tI' ws)])
theorem places_run (G : Fs) {p : Int} {ws : List Int} (h : ws.length ≤ 1000) : runF G placesOfFn [.fz (.int p), .fz (tI' ws)] = some (.ol ((p :: plt p ws).map .int), [.fz (.int p), .fz (tI' ws)]) := by
  obtain ⟨b3, q⟩ := places_loop (G := G) (some (.fz (.int p))) (some (.fz (tI' ws))) ws p [] none (by simp; omega)
  have z1 : okSz 1 = true := by decide
  simp only [tI', List.nil_append] at *
  simp [runF, placesOfFn, q, z1]
def spanFn (nd po : Nat) : Fn := ⟨2, 3, [S.exp (E.call nd [E.var 0, E.var 1]), S.asg (Tg.n 2) (E.call po [(E.var 0).idx (cI 0), E.var 1]), S.ret (E.tup [E.bi Bi.min [E.var 2], E.bi Bi.max [E.var 2]])]⟩
def PSpan (G : Fs) (f : Nat) : Prop := ∀ p hs ws, IsSt p hs → IsWalk p hs ws → ws.length ≤ 1000 → G f [.fz (sD p hs), .fz (tI' ws)] = some (.fz (prD ((plt p ws).foldl min p, (plt p ws).foldl max p)), [.fz (sD p hs), .fz (tI' ws)])
theorem span_run {G : Fs} {nd po : Nat} (hn : PNeedDone G nd) (hp : PPlaces G po) {p : Int} {hs ws : List Int} (h : IsSt p hs) (h1 : IsWalk p hs ws) (h2 : ws.length ≤ 1000) : runF G (spanFn nd po) [.fz (sD p hs), .fz (tI' ws)] = some (.fz (prD ((plt p ws).foldl min p, (plt p ws).foldl max p)), [.fz (sD p hs), .fz (tI' ws)]) := by
  have e1 := hn p hs ws h h1 h2
  have e2 := hp p ws h2
  have e3 := minL_ints p (plt p ws)
  have e4 := maxL_ints p (plt p ws)
  have z2 : okSz 2 = true := by decide
  simp only [prD]
  generalize (plt p ws).foldl min p = lo at *
  generalize (plt p ws).foldl max p = hi at *
  generalize (p :: plt p ws).map PyData.int = xs at *
  simp only [sD, tI'] at *
  simp [runF, spanFn, e1, e2, e3, e4, z2]
/-! ### rises -/
def subI (a b : List Int) : List Int := List.zipWith (fun x y => y - x) a b
theorem subI_add : ∀ (a b : List Int), a.length = b.length → subI a (addI a b) = b
  | [], [], _ => rfl
  | x :: a, y :: b, h => by
    show (x + y - x) :: subI a (addI a b) = y :: b
    rw [subI_add a b (by simpa using h)]
    congr 1
    omega
theorem zip_sub : ∀ (a b : List Int), (a.zip b).map (fun x => PyData.int (x.2 - x.1)) = (subI a b).map .int
  | [], _ => rfl
  | _ :: _, [] => rfl
  | x :: a, y :: b => by
    show PyData.int (y - x) :: _ = PyData.int (y - x) :: _
    exact congrArg _ (zip_sub a b)
theorem zip_add : ∀ (a b : List Int), (a.zip b).map (fun x => PyData.int (x.1 + x.2)) = (addI a b).map .int
  | [], _ => rfl
  | _ :: _, [] => rfl
  | x :: a, y :: b => by
    show PyData.int (x + y) :: _ = PyData.int (x + y) :: _
    exact congrArg _ (zip_add a b)
def lawRisenFn : Fn := ⟨2, 4, [S.ret (E.bi Bi.tuple [(E.bin Bop.sub (E.var 3) (E.var 2)).comp (Tg.t [Tg.n 2, Tg.n 3]) (It.zp ((E.var 0).idx (cI 1)) ((E.var 1).idx (cI 1))) none [2, 3] false])]⟩
def PRisen (G : Fs) (f : Nat) : Prop := ∀ (p : Int) (hs : List Int) (q : Int) (gs : List Int), hs.length ≤ 1000 → G f [.fz (sD p hs), .fz (sD q gs)] = some (.fz (tI' (subI hs gs)), [.fz (sD p hs), .fz (sD q gs)])
theorem risen_run (G : Fs) {p : Int} {hs : List Int} {q : Int} {gs : List Int} (h : hs.length ≤ 1000) : runF G lawRisenFn [.fz (sD p hs), .fz (sD q gs)] = some (.fz (tI' (subI hs gs)), [.fz (sD p hs), .fz (sD q gs)]) := by
  have ep := pairs_ints hs gs
  have ec : ev G ((E.bin Bop.sub (E.var 3) (E.var 2)).comp (Tg.t [Tg.n 2, Tg.n 3]) (It.zp ((E.var 0).idx (cI 1)) ((E.var 1).idx (cI 1))) none [2, 3] false) [some (.fz (sD p hs)), some (.fz (sD q gs)), none, none] = some (.st (.ol ((subI hs gs).map .int)), [some (.fz (sD p hs)), some (.fz (sD q gs)), none, none]) := by
    rw [← zip_sub]
    refine ev_comp_map (hs.zip gs) (fun x => .tuple [.int x.1, .int x.2]) (fun x => .int (x.2 - x.1)) ?_ (fun x _ => ?_) (by rw [List.length_zip]; omega)
    · simp only [sD, tI'] at *
      simp [ep]
    · simp [turn0, wipeF, wipeP]
  simp only [sD, tI'] at *
  simp [runF, lawRisenFn, ec]
def lawAddedFn : Fn := ⟨2, 4, [S.ret (E.bi Bi.tuple [(E.bin Bop.add (E.var 2) (E.var 3)).comp (Tg.t [Tg.n 2, Tg.n 3]) (It.zp (E.var 0) (E.var 1)) none [2, 3] false])]⟩
def PAdded (G : Fs) (f : Nat) : Prop := ∀ (hs gs : List Int), hs.length ≤ 1000 → G f [.fz (tI' hs), .fz (tI' gs)] = some (.fz (tI' (addI hs gs)), [.fz (tI' hs), .fz (tI' gs)])
theorem added_run (G : Fs) {hs gs : List Int} (h : hs.length ≤ 1000) : runF G lawAddedFn [.fz (tI' hs), .fz (tI' gs)] = some (.fz (tI' (addI hs gs)), [.fz (tI' hs), .fz (tI' gs)]) := by
  have ep := pairs_ints hs gs
  have ec : ev G ((E.bin Bop.add (E.var 2) (E.var 3)).comp (Tg.t [Tg.n 2, Tg.n 3]) (It.zp (E.var 0) (E.var 1)) none [2, 3] false) [some (.fz (tI' hs)), some (.fz (tI' gs)), none, none] = some (.st (.ol ((addI hs gs).map .int)), [some (.fz (tI' hs)), some (.fz (tI' gs)), none, none]) := by
    rw [← zip_add]
    refine ev_comp_map (hs.zip gs) (fun x => .tuple [.int x.1, .int x.2]) (fun x => .int (x.1 + x.2)) ?_ (fun x _ => ?_) (by rw [List.length_zip]; omega)
    · simp only [tI'] at *
      simp [ep]
    · simp [turn0, wipeF, wipeP]
  simp only [tI'] at *
  simp [runF, lawAddedFn, ec]
/-! ### on a ground -/
theorem walk_freeW : ∀ {ws : List Int} {p : Int} {hs : List Int}, IsWalk p hs ws → FreeW hs.length p ws
  | [], _, _, _ => trivial
  | s :: ws, p, hs, h => by
    have hl := h.2.1
    unfold letB at hl
    simp at hl
    have := walk_freeW h.2.2
    rw [raise_len] at this
    exact ⟨h.1, hl.1.1.1, hl.1.1.2, this⟩
def lawGroundRightFn (lw be lr cr ll ae sp : Nat) : Fn := ⟨2, 9, [S.asg (Tg.n 2) ((E.call lw [E.var 0, E.var 1, cI 40]).idx (cI 0)), S.asg (Tg.n 3) (E.call be [E.var 1, E.var 2]), S.asg (Tg.n 4) (E.call lr [E.var 1, E.var 3]), S.asg (Tg.n 5) (E.call cr [E.var 4, (E.var 1).idx (cI 0), (E.var 3).idx (cI 0)]), S.iff ((E.cmp Cop.ne (E.var 5) ((E.call ll [E.bi Bi.len [E.var 4], (E.var 1).idx (cI 0), E.var 2]).idx (cI 1))).or (E.cmp Cop.notin (E.tup [(E.var 1).idx (cI 0), (E.var 3).idx (cI 0)]) (E.call ae [E.var 4]))) [S.ret (E.con (.bool false))] [], S.asg (Tg.n 6) ((E.var 7).comp (Tg.t [Tg.n 7, Tg.n 8]) (It.en (E.var 5)) (some (E.cmp Cop.ne (E.var 8) (E.tup [cI 0, cI 0]))) [7, 8] false), S.ret (E.cmp Cop.eq (E.call sp [E.var 1, E.var 2]) (E.tup [E.bi Bi.min [E.bin Bop.add (E.var 6) (E.lst [(E.var 1).idx (cI 0)])], E.bi Bi.max [E.bin Bop.add ((E.bin Bop.add (E.var 7) (cI 1)).comp (Tg.n 7) (It.li (E.var 6)) none [7] false) (E.lst [(E.var 1).idx (cI 0)])]]))]⟩
def PGroundRight (G : Fs) (f : Nat) : Prop := ∀ x p hs, IsPen x → IsSt p hs → ∃ x', G f [x, .fz (sD p hs)] = some (.fz (.bool true), [x', .fz (sD p hs)]) ∧ IsPen x'
theorem groundRight_run {G : Fs} {lw be lr cr ll ae sp : Nat} (hlw : PWalk G lw) (hbe : PBehindR G be) (hlr : PRisen G lr) (hcr : PCross G cr) (hll : PLeftW G ll) (hae : PEnds G ae) (hsp : PSpan G sp) {x : Vl} {p : Int} {hs : List Int} (hx : IsPen x) (h : IsSt p hs) : ∃ x', runF G (lawGroundRightFn lw be lr cr ll ae sp) [x, .fz (sD p hs)] = some (.fz (.bool true), [x', .fz (sD p hs)]) ∧ IsPen x' := by
  obtain ⟨⟨l2, l5, h0⟩, p0, p1⟩ := id h
  obtain ⟨ws, x1, e1, hw, hwl, hx1⟩ := hlw x p hs 40 hx h (by decide) (by decide)
  have hfw := walk_freeW hw
  have e2 := hbe p hs ws h hw (by omega)
  have e3 := hlr p hs (wEnd p hs ws).1 (wEnd p hs ws).2 (by omega)
  have hzl : (zerosI hs.length).length = hs.length := List.length_replicate
  have hgs : (wEnd p hs ws).2 = addI hs (wEnd p (zerosI hs.length) ws).2 := by
    have := wEnd_add ws p hs (zerosI hs.length) hzl.symm
    rw [addI_zero hs _ rfl] at this
    exact this
  have hrs : subI hs (wEnd p hs ws).2 = (wEnd p (zerosI hs.length) ws).2 := by
    rw [hgs]
    exact subI_add _ _ (by rw [wEnd_len, hzl])
  rw [hrs] at e3
  have hinv0 := Inv.zero (n := hs.length) (b := p) l2 l5 p0 p1
  have hinv := hinv0.walk (ws := ws) (by rw [hzl]; exact hfw)
  have hend : (wEnd p hs ws).1 = p + ws.sum := wEnd_1 ws p hs
  have e5 := hll hs.length p ws (by omega) (by omega) p0 p1 hfw
  rw [Int.toNat_natCast] at e5
  have hspan := hinv0.spans (ws := ws) (by rw [hzl]; exact hfw)
  rw [(lo_zero _ _).1, (lo_zero _ _).2] at hspan
  have hrl : (wEnd p (zerosI hs.length) ws).2.length = hs.length := by rw [wEnd_len, hzl]
  have hrn : ∀ r ∈ (wEnd p (zerosI hs.length) ws).2, 0 ≤ r := by
    intro r hr
    exact ((free_rows (m := 0) hfw p0 p1 (by rw [hzl]) (fun r hr => by have := (List.mem_replicate.mp hr).2; omega)).2 r hr).1
  have e6 := hsp p hs ws h hw (by omega)
  rw [hspan.1, hspan.2] at e6
  have hend2 := walk_end h hw
  rw [hend] at e2 e3
  generalize hos : ovE p (zerosP (hs.length - 1)) ws = os at *
  generalize hrs' : (wEnd p (zerosI hs.length) ws).2 = rs at *
  have hq : (wEnd p hs ws).1 = p + ws.sum := hend
  have e0 : (wEnd p hs ws) = ((wEnd p hs ws).1, (wEnd p hs ws).2) := rfl
  rw [hend] at e1
  generalize (wEnd p hs ws).2 = gs at *
  have c0 := hinv.c0
  have c1 := hinv.c1
  generalize p + ws.sum = e at *
  have hcross := hinv.good.cross
  have e4 := hcr rs p e ⟨by omega, by omega, hrn⟩ p0 (by omega) c0 c1
  rw [hcross] at e4
  have e7 := hae rs ⟨by omega, by omega, hrn⟩
  have e8 := ne_prs os
  have e9 := notin_prs hinv.ends
  have hol : os.length ≤ 5 := by have := hinv.ol; omega
  have en := enum_map prD os
  obtain ⟨a, b, c, rfl, -, -⟩ := id hx
  obtain ⟨a1, b1, c1', rfl, -, -⟩ := id hx1
  have z1 : okSz 1 = true := by decide
  have z2 : okSz 2 = true := by decide
  have ec : ∀ (o6 : Option Vl), ev G ((E.var 7).comp (Tg.t [Tg.n 7, Tg.n 8]) (It.en (E.var 5)) (some (E.cmp Cop.ne (E.var 8) (E.tup [cI 0, cI 0]))) [7, 8] false) [some (.ol [.int a1, .int b1, .int c1']), some (.fz (sD p hs)), some (.fz (tI' ws)), some (.fz (sD e gs)), some (.fz (tI' rs)), some (.fz (.tuple (os.map prD))), o6, none, none] = some (.st (.ol ((usedU (ub os) 0).map .int)), [some (.ol [.int a1, .int b1, .int c1']), some (.fz (sD p hs)), some (.fz (tI' ws)), some (.fz (sD e gs)), some (.fz (tI' rs)), some (.fz (.tuple (os.map prD))), o6, none, none]) := by
    intro o6
    rw [← usedF_U, ← usedF_is os 0]
    refine ev_comp_filter os.zipIdx (fun x => .tuple [.int (x.2 : Nat), prD x.1]) (fun x => .int (x.2 : Nat)) (fun x => decide (0 < x.1.1 + x.1.2)) ?_ (fun x hx => ?_) (by rw [List.length_zipIdx]; omega)
    · simp [en]
    · have hm : x.1 ∈ os := by
        have := List.mem_zipIdx hx
        obtain ⟨-, -, q⟩ := this
        rw [q]
        exact List.getElem_mem _
      have q := ne_zero (hinv.non _ hm)
      by_cases cc : 0 < x.1.1 + x.1.2 <;> (simp only [cc, decide_true, decide_false] at q; simp [turn0, wipeF, wipeP, q, cc, z2])
  have ul : (usedU (ub os) 0).length ≤ 10 := by
    have : ∀ (u : List Bool) (k : Nat), (usedU u k).length ≤ u.length := by
      intro u
      induction u with
      | nil => intro k; exact Nat.le_refl _
      | cons x u ih =>
        intro k
        cases x
        · have := ih (k + 1)
          show (usedU u (k + 1)).length ≤ _
          simp; omega
        · have := ih (k + 1)
          show ((k : Int) :: usedU u (k + 1)).length ≤ _
          simp; omega
    have := this (ub os) 0
    rw [ub_len] at this
    omega
  have em := min_of (l := usedU (ub os) 0 ++ [p]) (by simp)
  have eM := max_of (l := (usedU (ub os) 0).map (· + 1) ++ [p]) (by simp)
  have elo : minI (usedU (ub os) 0 ++ [p]) = loU (ub os) p := rfl
  have ehi : maxI ((usedU (ub os) 0).map (· + 1) ++ [p]) = hiU (ub os) p := rfl
  rw [elo, List.map_append] at em
  rw [ehi, List.map_append] at eM
  simp only [List.map_cons, List.map_nil] at em eM
  have ec2 : ev G ((E.bin Bop.add (E.var 7) (cI 1)).comp (Tg.n 7) (It.li (E.var 6)) none [7] false) [some (.ol [.int a1, .int b1, .int c1']), some (.fz (sD p hs)), some (.fz (tI' ws)), some (.fz (sD e gs)), some (.fz (tI' rs)), some (.fz (.tuple (os.map prD))), some (.ol ((usedU (ub os) 0).map .int)), none, none] = some (.st (.ol (((usedU (ub os) 0).map (· + 1)).map .int)), [some (.ol [.int a1, .int b1, .int c1']), some (.fz (sD p hs)), some (.fz (tI' ws)), some (.fz (sD e gs)), some (.fz (tI' rs)), some (.fz (.tuple (os.map prD))), some (.fz (.list ((usedU (ub os) 0).map .int))), none, none]) := by
    rw [List.map_map]
    refine ev_comp_map (usedU (ub os) 0) .int _ ?_ (fun s _ => ?_) (by omega)
    · simp
    · simp [turn0, wipeF, wipeP]
  have efin := eq_self (sh_pr (loU (ub os) p, hiU (ub os) p))
  refine ⟨.ol [.int a1, .int b1, .int c1'], ?_, hx1⟩
  have ul2 : ((usedU (ub os) 0).map (· + 1)).length ≤ 10 := by rw [List.length_map]; exact ul
  generalize usedU (ub os) 0 = us at *
  generalize us.map (· + 1) = us2 at *
  generalize loU (ub os) p = lo at *
  generalize hiU (ub os) p = hi at *
  have y1 : okSz (us.length + 1) = true := okSz_ok (by omega)
  have y2 : okSz (us2.length + 1) = true := okSz_ok (by omega)
  generalize os.map prD = osD at *
  generalize (endsP rs).map prD = edD at *
  simp only [sD, tI', prD] at *
  simp [runF, lawGroundRightFn, e1, e2, e3, e4, e5, e6, e7, e8, e9, ec, ec2, em, eM, efin, hrl, z1, z2, y1, y2]
end Tr

set_option Elab.async false
set_option linter.all false
set_option maxRecDepth 100000
set_option maxHeartbeats 4000000
/-! The ground tells each crossing: free walks put together, back, mirrored. -/
namespace Tr
open PySem
def rowsW (n p : Int) (ws : List Int) : List Int := (wEnd p (zerosI n.toNat) ws).2
def overW (n p : Int) (ws : List Int) : List (Int × Int) := ovE p (zerosP (n.toNat - 1)) ws
theorem zerosI_len (n : Nat) : (zerosI n).length = n := List.length_replicate
theorem zerosP_len (n : Nat) : (zerosP n).length = n := List.length_replicate
theorem rowsW_len {n p : Int} {ws : List Int} (n2 : 2 ≤ n) : ((rowsW n p ws).length : Int) = n := by
  unfold rowsW
  rw [wEnd_len, zerosI_len]
  omega
theorem overW_len {n p : Int} {ws : List Int} : (overW n p ws).length = n.toNat - 1 := by
  unfold overW
  rw [ovE_len, zerosP_len]
theorem rowsW_is {n p : Int} {ws : List Int} (n2 : 2 ≤ n) (n5 : n ≤ 5) (p0 : 0 ≤ p) (p1 : p < n) (hw : FreeW n p ws) : IsHs (rowsW n p ws) := by
  have hz : ((zerosI n.toNat).length : Int) = n := by rw [zerosI_len]; omega
  obtain ⟨r1, r2⟩ := free_rows (m := 0) hw p0 p1 hz (fun r hr => by have := (List.mem_replicate.mp hr).2; omega)
  exact ⟨by unfold rowsW; omega, by unfold rowsW; omega, fun r hr => (r2 r hr).1⟩
theorem freeW_inv {n p : Int} {ws : List Int} (n2 : 2 ≤ n) (n5 : n ≤ 5) (p0 : 0 ≤ p) (p1 : p < n) (hw : FreeW n p ws) : Inv p (rowsW n p ws) (overW n p ws) (p + ws.sum) := by
  have h0 := Inv.zero (n := n.toNat) (b := p) (by omega) (by omega) p0 (by omega)
  exact h0.walk (by rw [zerosI_len, Int.toNat_of_nonneg (by omega)]; exact hw)
theorem cross_free {G : Fs} {cr : Nat} (hcr : PCross G cr) {n p : Int} {ws : List Int} (n2 : 2 ≤ n) (n5 : n ≤ 5) (p0 : 0 ≤ p) (p1 : p < n) (hw : FreeW n p ws) : G cr [.fz (tI' (rowsW n p ws)), .fz (.int p), .fz (.int (p + ws.sum))] = some (.fz (.tuple ((overW n p ws).map prD)), [.fz (tI' (rowsW n p ws)), .fz (.int p), .fz (.int (p + ws.sum))]) := by
  have hi := freeW_inv n2 n5 p0 p1 hw
  have e := hcr (rowsW n p ws) p (p + ws.sum) (rowsW_is n2 n5 p0 p1 hw) hi.b0 hi.b1 hi.c0 hi.c1
  rw [hi.good.cross] at e
  exact e
theorem rowsW_app {n p : Int} {u v : List Int} : rowsW n p (u ++ v) = addI (rowsW n p u) (rowsW n (p + u.sum) v) := by
  unfold rowsW
  rw [wEnd_app]
  have hl : (wEnd p (zerosI n.toNat) u).2.length = n.toNat := by rw [wEnd_len, zerosI_len]
  have := wEnd_add v (p + u.sum) (wEnd p (zerosI n.toNat) u).2 (zerosI n.toNat) (by rw [hl, zerosI_len])
  rw [addI_zero _ _ hl] at this
  exact this
theorem overW_app {n p : Int} {u v : List Int} (hv : Stps v) : overW n p (u ++ v) = addP (overW n p u) (overW n (p + u.sum) v) := by
  unfold overW
  rw [ovE_app]
  have hl : (ovE p (zerosP (n.toNat - 1)) u).length = n.toNat - 1 := by rw [ovE_len, zerosP_len]
  have := ovE_add v (p + u.sum) (ovE p (zerosP (n.toNat - 1)) u) (zerosP (n.toNat - 1)) hv (by rw [hl, zerosP_len])
  rw [addP_zero _ _ hl] at this
  exact this
theorem zerosP_sw (m : Nat) : (zerosP m).map sw = zerosP m := by
  unfold zerosP
  rw [List.map_replicate]
  rfl
theorem overW_bk {n p : Int} {ws : List Int} (h : Stps ws) : overW n (p + ws.sum) (bk ws) = (overW n p ws).map sw := by
  unfold overW
  have := bk_ov ws p (zerosP (n.toNat - 1)) h
  rw [zerosP_sw] at this
  exact this
theorem rowsW_mw {n p : Int} {ws : List Int} (n2 : 2 ≤ n) (p0 : 0 ≤ p) (p1 : p < n) (hw : FreeW n p ws) : rowsW n (n - 1 - p) (mw ws) = (rowsW n p ws).reverse := by
  unfold rowsW
  have hz : ((zerosI n.toNat).length : Int) = n := by rw [zerosI_len]; omega
  have := mw_rows ws p (zerosI n.toNat) (by rw [hz]; exact hw) p0 (by rw [hz]; exact p1)
  rw [hz, show (zerosI n.toNat).reverse = zerosI n.toNat from List.reverse_replicate] at this
  exact this
theorem overW_mw {n p : Int} {ws : List Int} (n2 : 2 ≤ n) (p0 : 0 ≤ p) (p1 : p < n) (hw : FreeW n p ws) : overW n (n - 1 - p) (mw ws) = ((overW n p ws).map sw).reverse := by
  unfold overW
  have hz : ((zerosP (n.toNat - 1)).length : Int) = n - 1 := by rw [zerosP_len]; omega
  have := mw_ov ws p (zerosP (n.toNat - 1)) (by rw [hz, Int.sub_add_cancel]; exact hw) p0 (by rw [hz, Int.sub_add_cancel]; exact p1)
  rw [hz, zerosP_sw, show (zerosP (n.toNat - 1)).reverse = zerosP (n.toNat - 1) from List.reverse_replicate] at this
  exact this
theorem pairs_prs : ∀ (as bs : List (Int × Int)), pairs (as.map prD) (bs.map prD) = (as.zip bs).map fun x => .tuple [prD x.1, prD x.2]
  | [], _ => rfl
  | _ :: _, [] => rfl
  | a :: as, b :: bs => by
    show PyData.tuple [prD a, prD b] :: _ = PyData.tuple [prD a, prD b] :: _
    exact congrArg _ (pairs_prs as bs)
theorem zip_addP : ∀ (a b : List (Int × Int)), (a.zip b).map (fun x => prD (x.1.1 + x.2.1, x.1.2 + x.2.2)) = (addP a b).map prD
  | [], _ => rfl
  | _ :: _, [] => rfl
  | x :: a, y :: b => by
    show prD (x.1 + y.1, x.2 + y.2) :: _ = prD (x.1 + y.1, x.2 + y.2) :: _
    exact congrArg _ (zip_addP a b)
def lawFreeRightFn (lf ld lp ll cr la : Nat) : Fn := ⟨2, 19, [S.asg (Tg.t [Tg.n 2, Tg.n 3, Tg.n 4]) (E.call lf [E.var 0, E.var 1, cI 60]), S.par [5, 6] [E.var 4, E.tup []], S.for (Tg.n 7) (It.rg1 (E.call ld [E.var 0, cI 30])) [S.asg (Tg.n 8) ((E.var 9).comp (Tg.n 9) (It.li (E.tup [nI 1, cI 1])) (some (E.chn Cop.le Cop.lt (cI 0) (E.bin Bop.add (E.var 5) (E.var 9)) (E.var 1))) [9] false), S.asg (Tg.n 6) (E.bin Bop.add (E.var 6) (E.tup [E.call lp [E.var 0, E.var 8]])), S.asg (Tg.n 5) (E.bin Bop.add (E.var 5) ((E.var 6).idx (nI 1)))], S.par [10, 11] [(E.call ll [E.var 1, E.var 2, E.var 3]).idx (cI 0), (E.call ll [E.var 1, E.var 4, E.var 6]).idx (cI 0)], S.par [12, 13] [E.call cr [E.var 10, E.var 2, E.var 4], E.call cr [E.var 11, E.var 4, E.var 5]], S.asg (Tg.n 14) (E.call cr [E.call la [E.var 10, E.var 11], E.var 2, E.var 5]), S.iff (E.cmp Cop.ne (E.var 14) (E.bi Bi.tuple [(E.call la [E.var 15, E.var 16]).comp (Tg.t [Tg.n 15, Tg.n 16]) (It.zp (E.var 12) (E.var 13)) none [15, 16] false])) [S.ret (E.con (.bool false))] [], S.asg (Tg.n 17) ((E.call ll [E.var 1, E.var 4, E.bi Bi.tuple [(E.bin Bop.sub (cI 0) (E.var 9)).comp (Tg.n 9) (It.li ((E.var 3).slc none none true)) none [9] false]]).idx (cI 0)), S.iff (E.cmp Cop.ne (E.call cr [E.var 17, E.var 4, E.var 2]) (E.bi Bi.tuple [((E.var 15).slc none none true).comp (Tg.n 15) (It.li (E.var 12)) none [15] false])) [S.ret (E.con (.bool false))] [], S.asg (Tg.n 18) (E.call cr [(E.var 10).slc none none true, E.bin Bop.sub (E.bin Bop.sub (E.var 1) (cI 1)) (E.var 2), E.bin Bop.sub (E.bin Bop.sub (E.var 1) (cI 1)) (E.var 4)]), S.ret (E.cmp Cop.eq (E.var 18) (E.bi Bi.tuple [((E.var 15).slc none none true).comp (Tg.n 15) (It.li ((E.var 12).slc none none true)) none [15] false]))]⟩
def freeIn (lp : Nat) : List S := [S.asg (Tg.n 8) ((E.var 9).comp (Tg.n 9) (It.li (E.tup [nI 1, cI 1])) (some (E.chn Cop.le Cop.lt (cI 0) (E.bin Bop.add (E.var 5) (E.var 9)) (E.var 1))) [9] false), S.asg (Tg.n 6) (E.bin Bop.add (E.var 6) (E.tup [E.call lp [E.var 0, E.var 8]])), S.asg (Tg.n 5) (E.bin Bop.add (E.var 5) ((E.var 6).idx (nI 1)))]
/-- the second walk, step by step -/
theorem more_loop {G : Fs} {lp : Nat} (hp : PPick G lp) {n st m : Int} {r2 r3 r4 : Option Vl} {x : Vl} (n2 : 2 ≤ n) (hx : IsPen x) (st0 : 0 ≤ st) (st1 : st < n) (m1 : m ≤ 1000) :
    ∃ (y : Vl) (ws : List Int) (o7 o8 : Option Vl), forN (turnF G [0] (Tg.n 7) (freeIn lp)) (rangeD 0 m) [some x, some (.fz (.int n)), r2, r3, r4, some (.fz (.int st)), some (.fz (tI' [])), none, none, none, none, none, none, none, none, none, none, none, none] = some (.nx, [some y, some (.fz (.int n)), r2, r3, r4, some (.fz (.int (st + ws.sum))), some (.fz (tI' ws)), o7, o8, none, none, none, none, none, none, none, none, none, none]) ∧ IsPen y ∧ FreeW n st ws := by
  have z1 : okSz 1 = true := by decide
  have z2 : okSz 2 = true := by decide
  let I : Nat → Fm → Prop := fun k fr => ∃ (y : Vl) (ws : List Int) (o7 o8 : Option Vl), fr = [some y, some (.fz (.int n)), r2, r3, r4, some (.fz (.int (st + ws.sum))), some (.fz (tI' ws)), o7, o8, none, none, none, none, none, none, none, none, none, none] ∧ IsPen y ∧ FreeW n st ws ∧ ws.length ≤ k
  have loop : ∃ g', forN (turnF G [0] (Tg.n 7) (freeIn lp)) (rangeD 0 m) [some x, some (.fz (.int n)), r2, r3, r4, some (.fz (.int st)), some (.fz (tI' [])), none, none, none, none, none, none, none, none, none, none, none, none] = some (.nx, g') ∧ I (0 + (rangeD 0 m).length) g' := by
    refine forN_ix I ⟨x, [], none, none, by simp, hx, trivial, Nat.le_refl _⟩ ?_
    rintro i d g hi ⟨y, ws, o7, o8, rfl, hy, hw, hl⟩
    have hil : (i : Int) ≤ 1000 := by
      have := (List.getElem?_eq_some_iff.mp hi).1
      rw [rangeD_length] at this
      omega
    obtain ⟨q0, q1⟩ := free_end hw st0 st1
    obtain ⟨q, hq⟩ : ∃ q, q = st + ws.sum := ⟨_, rfl⟩
    obtain ⟨a, b, c, rfl, -, -⟩ := id hy
    have hne : stepsIn n q ≠ [] := by
      unfold stepsIn
      intro h
      rw [List.filter_eq_nil_iff] at h
      have a1 := h (-1) (by simp)
      have a2 := h 1 (by simp)
      simp at a1 a2
      omega
    have ec : ev G ((E.var 9).comp (Tg.n 9) (It.li (E.tup [nI 1, cI 1])) (some (E.chn Cop.le Cop.lt (cI 0) (E.bin Bop.add (E.var 5) (E.var 9)) (E.var 1))) [9] false) [some (.ol [.int a, .int b, .int c]), some (.fz (.int n)), r2, r3, r4, some (.fz (.int q)), some (.fz (tI' ws)), some (.fz d), o8, none, none, none, none, none, none, none, none, none, none] = some (.st (.ol ((stepsIn n q).map .int)), [some (.ol [.int a, .int b, .int c]), some (.fz (.int n)), r2, r3, r4, some (.fz (.int q)), some (.fz (tI' ws)), some (.fz d), o8, none, none, none, none, none, none, none, none, none, none]) := by
      refine ev_comp_filter ([-1, 1] : List Int) .int .int (fun s => decide (0 ≤ q + s) && decide (q + s < n)) (by simp [z2]) (fun s _ => ?_) (by decide)
      by_cases h1 : 0 ≤ q + s <;> by_cases h2 : q + s < n <;> simp [turn0, wipeF, wipeP, h1, h2]
    obtain ⟨v, y2, e4, hv, hy2⟩ := hp (.ol [.int a, .int b, .int c]) (.ol ((stepsIn n q).map .int)) _ hy (.inl rfl) (by rw [List.length_map]; exact List.length_pos_iff.mpr hne) (by
      rw [List.length_map]
      have : (stepsIn n q).length ≤ 2 := List.length_filter_le _ _
      omega)
    obtain ⟨s, hs', rfl⟩ := List.mem_map.mp hv
    have hs2 : IsStp s ∧ 0 ≤ q + s ∧ q + s < n := by
      unfold stepsIn at hs'
      rw [List.mem_filter] at hs'
      have a1 := hs'.1
      have a2 := hs'.2
      simp at a1 a2
      exact ⟨a1, a2⟩
    obtain ⟨a2, b2, c2, rfl, -, -⟩ := id hy2
    have zl : okSz (ws.length + 1) = true := okSz_ok (by omega)
    have ei := idx_snoc ws s
    have hsum : st + (ws ++ [s]).sum = q + s := by rw [List.sum_append, hq]; simp; omega
    refine ⟨[some (.ol [.int a2, .int b2, .int c2]), some (.fz (.int n)), r2, r3, r4, some (.fz (.int (q + s))), some (.fz (tI' (ws ++ [s]))), some (.fz d), some (.ol ((stepsIn n q).map .int)), none, none, none, none, none, none, none, none, none, none], ?_, ⟨_, ws ++ [s], _, _, by rw [hsum], hy2, free_snoc hw hs2.1 (by omega) (by omega), by simp; omega⟩⟩
    rw [← hq]
    simp only [tI'] at *
    simp [turnF, freeIn, ec, e4, z1, zl, ei]
  obtain ⟨g', el, y, ws, o7, o8, rfl, hy, hw, hl⟩ := loop
  exact ⟨y, ws, o7, o8, el, hy, hw⟩
def PFreeRight (G : Fs) (f : Nat) : Prop := ∀ x n, IsPen x → 2 ≤ n → n ≤ 5 → ∃ x', G f [x, .fz (.int n)] = some (.fz (.bool true), [x', .fz (.int n)]) ∧ IsPen x'
theorem freeRight_run {G : Fs} {lf ld lp ll cr la : Nat} (hlf : PFree G lf) (hd : PDraw G ld) (hp : PPick G lp) (hll : PLeftW G ll) (hcr : PCross G cr) (hla : PAdded G la) {x : Vl} {n : Int} (hx : IsPen x) (n2 : 2 ≤ n) (n5 : n ≤ 5) : ∃ x', runF G (lawFreeRightFn lf ld lp ll cr la) [x, .fz (.int n)] = some (.fz (.bool true), [x', .fz (.int n)]) ∧ IsPen x' := by
  obtain ⟨s, ws, x1, e1, s0, s1, hw, hwl, hx1⟩ := hlf x n 60 hx n2 n5 (by decide) (by decide)
  obtain ⟨m, x2, e2, m0, m1, hx2⟩ := hd x1 30 hx1 (by decide) (by decide)
  obtain ⟨a0, a1⟩ := free_end hw s0 s1
  obtain ⟨x3, more, o7, o8, e3, hx3, hm⟩ := more_loop (G := G) (r2 := some (.fz (.int s))) (r3 := some (.fz (tI' ws))) (r4 := some (.fz (.int (s + ws.sum)))) (m := m) hp n2 hx2 a0 a1 (by omega)
  have l1 := hll n s ws n2 n5 s0 s1 hw
  have l2 := hll n (s + ws.sum) more n2 n5 a0 a1 hm
  have hbf := bk_free hw s0 s1
  have l3 := hll n (s + ws.sum) (bk ws) n2 n5 a0 a1 hbf
  have k1 := cross_free hcr n2 n5 s0 s1 hw
  have k2 := cross_free hcr n2 n5 a0 a1 hm
  have k3 := cross_free hcr n2 n5 s0 s1 (free_app hw hm)
  have k4 := cross_free hcr n2 n5 a0 a1 hbf
  have k5 := cross_free hcr n2 n5 (by omega) (by omega) (mw_free hw)
  have r1 : rowsW n s ws = (wEnd s (zerosI n.toNat) ws).2 := rfl
  have r2 : rowsW n (s + ws.sum) more = (wEnd (s + ws.sum) (zerosI n.toNat) more).2 := rfl
  have r3 : rowsW n (s + ws.sum) (bk ws) = (wEnd (s + ws.sum) (zerosI n.toNat) (bk ws)).2 := rfl
  rw [← r1] at l1
  rw [← r2] at l2
  rw [← r3] at l3
  rw [rowsW_app, overW_app (free_stps hm), List.sum_append, ← Int.add_assoc] at k3
  rw [overW_bk (free_stps hw), bk_sum, Int.add_neg_cancel_right] at k4
  rw [rowsW_mw n2 s0 s1 hw, overW_mw n2 s0 s1 hw, mw_sum, show n - 1 - s + -ws.sum = n - 1 - (s + ws.sum) by omega] at k5
  have ha := hla (rowsW n s ws) (rowsW n (s + ws.sum) more) (by have := rowsW_len (n := n) (p := s) (ws := ws) n2; omega)
  have hlm : (overW n s ws).length ≤ 4 := by rw [overW_len]; omega
  have hlo : (overW n (s + ws.sum) more).length ≤ 4 := by rw [overW_len]; omega
  generalize (ovE s (zerosP (n.toNat - 1)) ws).map prD = v1 at *
  generalize (ovE (s + ws.sum) (zerosP (n.toNat - 1)) more).map prD = v2 at *
  generalize (ovE (s + ws.sum) (zerosP (n.toNat - 1)) (bk ws)).map prD = v3 at *
  generalize rowsW n s ws = R1 at *
  generalize rowsW n (s + ws.sum) more = R2 at *
  generalize rowsW n (s + ws.sum) (bk ws) = R3 at *
  generalize overW n s ws = O1 at *
  generalize overW n (s + ws.sum) more = O2 at *
  generalize hamid : s + ws.sum = amid at *
  generalize amid + more.sum = last at *
  have z0 : okSz 0 = true := by decide
  have ep := pairs_prs O1 O2
  have hwl' : ws.length ≤ 60 := by omega
  have ne1 := ne_prs (addP O1 O2)
  have ne2 := ne_prs (O1.map sw)
  have eq3 := eq_prs ((O1.map sw).reverse)
  have er : ∀ xs : List D, slcD true none none (.tuple xs) = some (.fz (.tuple xs.reverse)) := fun _ => rfl
  obtain ⟨a, b, c, rfl, -, -⟩ := id hx
  obtain ⟨a1', b1', c1', rfl, -, -⟩ := id hx1
  obtain ⟨a2, b2, c2, rfl, -, -⟩ := id hx2
  obtain ⟨a3, b3, c3, rfl, -, -⟩ := id hx3
  have ec1 : ∀ (o14 : Option Vl), ev G ((E.call la [E.var 15, E.var 16]).comp (Tg.t [Tg.n 15, Tg.n 16]) (It.zp (E.var 12) (E.var 13)) none [15, 16] false) [some (.ol [.int a3, .int b3, .int c3]), some (.fz (.int n)), some (.fz (.int s)), some (.fz (tI' ws)), some (.fz (.int amid)), some (.fz (.int last)), some (.fz (tI' more)), o7, o8, none, some (.fz (tI' R1)), some (.fz (tI' R2)), some (.fz (.tuple (O1.map prD))), some (.fz (.tuple (O2.map prD))), o14, none, none, none, none] = some (.st (.ol ((addP O1 O2).map prD)), [some (.ol [.int a3, .int b3, .int c3]), some (.fz (.int n)), some (.fz (.int s)), some (.fz (tI' ws)), some (.fz (.int amid)), some (.fz (.int last)), some (.fz (tI' more)), o7, o8, none, some (.fz (tI' R1)), some (.fz (tI' R2)), some (.fz (.tuple (O1.map prD))), some (.fz (.tuple (O2.map prD))), o14, none, none, none, none]) := by
    intro o14
    rw [← zip_addP]
    refine ev_comp_map (O1.zip O2) (fun x => .tuple [prD x.1, prD x.2]) (fun x => prD (x.1.1 + x.2.1, x.1.2 + x.2.2)) ?_ (fun x _ => ?_) (by rw [List.length_zip]; omega)
    · simp [ep]
    · have q := hla [x.1.1, x.1.2] [x.2.1, x.2.2] (by simp)
      have q' : G la [.fz (prD x.1), .fz (prD x.2)] = some (.fz (prD (x.1.1 + x.2.1, x.1.2 + x.2.2)), [.fz (prD x.1), .fz (prD x.2)]) := q
      simp [turn0, wipeF, wipeP, q']
  have ec2 : ∀ (o14 : Option Vl), ev G ((E.bin Bop.sub (cI 0) (E.var 9)).comp (Tg.n 9) (It.li ((E.var 3).slc none none true)) none [9] false) [some (.ol [.int a3, .int b3, .int c3]), some (.fz (.int n)), some (.fz (.int s)), some (.fz (tI' ws)), some (.fz (.int amid)), some (.fz (.int last)), some (.fz (tI' more)), o7, o8, none, some (.fz (tI' R1)), some (.fz (tI' R2)), some (.fz (.tuple (O1.map prD))), some (.fz (.tuple (O2.map prD))), o14, none, none, none, none] = some (.st (.ol ((bk ws).map .int)), [some (.ol [.int a3, .int b3, .int c3]), some (.fz (.int n)), some (.fz (.int s)), some (.fz (tI' ws)), some (.fz (.int amid)), some (.fz (.int last)), some (.fz (tI' more)), o7, o8, none, some (.fz (tI' R1)), some (.fz (tI' R2)), some (.fz (.tuple (O1.map prD))), some (.fz (.tuple (O2.map prD))), o14, none, none, none, none]) := by
    intro o14
    unfold bk
    rw [List.map_map]
    refine ev_comp_map ws.reverse .int _ ?_ (fun x _ => ?_) (by rw [List.length_reverse]; omega)
    · simp only [tI']
      simp [er]
    · simp [turn0, wipeF, wipeP]
  have esw : ∀ y : Int × Int, slcD true none none (prD y) = some (.fz (prD (sw y))) := fun _ => rfl
  have ec3 : ∀ (o14 o17 : Option Vl), ev G (((E.var 15).slc none none true).comp (Tg.n 15) (It.li (E.var 12)) none [15] false) [some (.ol [.int a3, .int b3, .int c3]), some (.fz (.int n)), some (.fz (.int s)), some (.fz (tI' ws)), some (.fz (.int amid)), some (.fz (.int last)), some (.fz (tI' more)), o7, o8, none, some (.fz (tI' R1)), some (.fz (tI' R2)), some (.fz (.tuple (O1.map prD))), some (.fz (.tuple (O2.map prD))), o14, none, none, o17, none] = some (.st (.ol ((O1.map sw).map prD)), [some (.ol [.int a3, .int b3, .int c3]), some (.fz (.int n)), some (.fz (.int s)), some (.fz (tI' ws)), some (.fz (.int amid)), some (.fz (.int last)), some (.fz (tI' more)), o7, o8, none, some (.fz (tI' R1)), some (.fz (tI' R2)), some (.fz (.tuple (O1.map prD))), some (.fz (.tuple (O2.map prD))), o14, none, none, o17, none]) := by
    intro o14 o17
    rw [List.map_map]
    refine ev_comp_map O1 prD _ ?_ (fun y _ => ?_) (by omega)
    · simp
    · simp [turn0, wipeF, wipeP, esw]
  have ec4 : ∀ (o14 o17 o18 : Option Vl), ev G (((E.var 15).slc none none true).comp (Tg.n 15) (It.li ((E.var 12).slc none none true)) none [15] false) [some (.ol [.int a3, .int b3, .int c3]), some (.fz (.int n)), some (.fz (.int s)), some (.fz (tI' ws)), some (.fz (.int amid)), some (.fz (.int last)), some (.fz (tI' more)), o7, o8, none, some (.fz (tI' R1)), some (.fz (tI' R2)), some (.fz (.tuple (O1.map prD))), some (.fz (.tuple (O2.map prD))), o14, none, none, o17, o18] = some (.st (.ol (((O1.map sw).reverse).map prD)), [some (.ol [.int a3, .int b3, .int c3]), some (.fz (.int n)), some (.fz (.int s)), some (.fz (tI' ws)), some (.fz (.int amid)), some (.fz (.int last)), some (.fz (tI' more)), o7, o8, none, some (.fz (tI' R1)), some (.fz (tI' R2)), some (.fz (.tuple (O1.map prD))), some (.fz (.tuple (O2.map prD))), o14, none, none, o17, o18]) := by
    intro o14 o17 o18
    rw [← List.map_reverse, List.map_map]
    refine ev_comp_map O1.reverse prD _ ?_ (fun y _ => ?_) (by rw [List.length_reverse]; omega)
    · simp [er]
    · simp [turn0, wipeF, wipeP, esw]
  have er1 : slcD true none none (tI' R1) = some (.fz (tI' R1.reverse)) := by
    show some (Vl.fz (.tuple (R1.map PyData.int).reverse)) = _
    rw [← List.map_reverse]
    rfl
  refine ⟨.ol [.int a3, .int b3, .int c3], ?_, hx3⟩
  have z1 : okSz 1 = true := by decide
  have sm := small_ok (n := m) m0 (by omega)
  generalize (addP O1 O2).map prD = A1 at *
  generalize (O1.map sw).map prD = A2 at *
  generalize ((O1.map sw).reverse).map prD = A3 at *
  generalize O1.map prD = P1 at *
  generalize O2.map prD = P2 at *
  have i1 : idxD (.tuple [tI' R1, .tuple v1]) (.int 0) = some (tI' R1) := idx_0 _ _
  have i2 : idxD (.tuple [tI' R2, .tuple v2]) (.int 0) = some (tI' R2) := idx_0 _ _
  have i3 : idxD (.tuple [tI' R3, .tuple v3]) (.int 0) = some (tI' R3) := idx_0 _ _
  simp only [tI', freeIn, List.map_nil] at *
  rw [List.map_reverse] at k5
  simp [runF, lawFreeRightFn, er, e1, e2, e3, l1, l2, l3, k1, k2, k3, k4, k5, ha, ec1, ec2, ec3, ec4, ne1, ne2, eq3, i1, i2, i3, z0, z1, sm]
end Tr

set_option Elab.async false
set_option linter.all false
set_option maxRecDepth 100000
set_option maxHeartbeats 4000000
/-! The ground tells each crossing: all ends; the law. -/
namespace Tr
open PySem
theorem cutL_from {α : Type} (l : List α) {n : Int} (h0 : 0 ≤ n) (h1 : n < l.length) : cutL l (some (n + 1)) none = l.drop (n.toNat + 1) := by
  unfold cutL HT.sIx
  simp only []
  rw [if_neg (by omega)]
  have e : min (n + 1).toNat l.length = n.toNat + 1 := by omega
  rw [e]
  exact List.take_of_length_le (by rw [List.length_drop]; exact Nat.le_refl _)
theorem incP_split (a b : Int) {f : List (Int × Int)} {k : Nat} (h : k < f.length) : incP a b f k = f.take k ++ ((f.getD k (0, 0)).1 + a, (f.getD k (0, 0)).2 + b) :: f.drop (k + 1) := by
  rw [← incP_set, List.set_eq_take_append_cons_drop, if_pos h]
theorem incT_comm (a b : Int) : ∀ (os : List Int) (i j : Nat), incT a (incT b os i) j = incT b (incT a os j) i
  | [], _, _ => rfl
  | x :: os, 0, 0 => by
    show (x + b + a) :: os = (x + a + b) :: os
    rw [Int.add_right_comm]
  | _ :: _, 0, _ + 1 => rfl
  | _ :: _, _ + 1, 0 => rfl
  | x :: os, i + 1, j + 1 => by
    show x :: incT a (incT b os i) j = x :: incT b (incT a os j) i
    rw [incT_comm a b os i j]
theorem incT_non {t : Int} (ht : 0 ≤ t) : ∀ {rs : List Int} {i : Nat}, (∀ r ∈ rs, 0 ≤ r) → ∀ r ∈ incT t rs i, 0 ≤ r
  | [], _, _ => fun _ h => nomatch h
  | y :: os, 0, h => fun x hx => by
    have h1 := h y List.mem_cons_self
    rcases List.mem_cons.mp hx with rfl | hx
    · show 0 ≤ y + t; omega
    · exact h x (List.mem_cons_of_mem _ hx)
  | y :: os, i + 1, h => fun x hx => by
    rcases List.mem_cons.mp hx with rfl | hx
    · exact h x List.mem_cons_self
    · exact incT_non ht (rs := os) (i := i) (fun z hz => h z (List.mem_cons_of_mem _ hz)) x hx
theorem sidx_inc {rs : List Int} {q t : Int} : (rs.map PyData.int).set q.toNat (.int (at' rs q + t)) = (incT t rs q.toNat).map .int := by
  rw [← incT_set, List.map_set]
  rfl
def endsIn (cr : Nat) : List S := [S.asg (Tg.n 6) (E.call cr [E.var 1, E.var 4, E.var 5]), S.asg (Tg.n 7) (E.bin Bop.add (((E.var 8).idx (cI 0)).comp (Tg.n 8) (It.li (E.var 6)) none [8] false) (E.lst [cI 0])), S.asg (Tg.n 9) (E.bin Bop.add (E.lst [cI 0]) (((E.var 8).idx (cI 1)).comp (Tg.n 8) (It.li (E.var 6)) none [8] false)), S.iff (E.cmp Cop.ne (E.bi Bi.tuple [(E.bin Bop.add (E.var 8) (E.var 10)).comp (Tg.t [Tg.n 8, Tg.n 10]) (It.zp (E.var 7) (E.var 9)) none [8, 10] false]) (E.var 1)) [S.ret (E.con (.bool false))] [], S.asg (Tg.n 11) (E.bi Bi.list [E.var 1]), S.asg (Tg.n 12) ((E.cmp Cop.gt (E.var 4) (cI 0)).ite (E.bin Bop.sub (E.var 4) (cI 1)) (cI 1)), S.for (Tg.n 13) (It.li (E.tup [E.var 4, E.var 12])) [S.sidx 11 (E.var 13) (E.bin Bop.add ((E.var 11).idx (E.var 13)) (E.var 3))], S.asg (Tg.n 14) (E.bi Bi.min [E.var 4, E.var 12]), S.asg (Tg.n 15) (E.tup [E.bin Bop.add (((E.var 6).idx (E.var 14)).idx (cI 0)) (E.var 3), E.bin Bop.add (((E.var 6).idx (E.var 14)).idx (cI 1)) (E.var 3)]), S.asg (Tg.n 16) (E.bin Bop.add (E.bin Bop.add ((E.var 6).slc none (some (E.var 14)) false) (E.tup [E.var 15])) ((E.var 6).slc (some (E.bin Bop.add (E.var 14) (cI 1))) none false)), S.iff (E.cmp Cop.ne (E.call cr [E.bi Bi.tuple [E.var 11], E.var 4, E.var 5]) (E.var 16)) [S.ret (E.con (.bool false))] []]
def lawEndsRightFn (ld ae cr : Nat) : Fn := ⟨2, 17, [S.par [2, 3] [E.bi Bi.len [E.var 1], E.bin Bop.add (cI 1) (E.call ld [E.var 0, cI 9])], S.for (Tg.t [Tg.n 4, Tg.n 5]) (It.li (E.call ae [E.var 1])) (endsIn cr), S.ret (E.con (.bool true))]⟩
theorem ends_in {G : Fs} {cr : Nat} (hcr : PCross G cr) {x : Vl} {rs : List Int} {t : Int} {be : Int × Int} (hx : IsPen x) (hrs : IsRs rs) (t0 : 0 < t) (hbe : be ∈ endsP rs) (o4 o5 o6 o7 o8 o9 o10 o11 o12 o13 o14 o15 o16 : Option Vl) :
    ∃ (b6 b7 b8 b9 b10 b11 b12 b13 b14 b15 b16 : Option Vl), turnF G [0] (Tg.t [Tg.n 4, Tg.n 5]) (endsIn cr) (prD be) [some x, some (.fz (tI' rs)), some (.fz (.int (rs.length : Nat))), some (.fz (.int t)), o4, o5, o6, o7, o8, o9, o10, o11, o12, o13, o14, o15, o16]
      = some (.nx, [some x, some (.fz (tI' rs)), some (.fz (.int (rs.length : Nat))), some (.fz (.int t)), some (.fz (.int be.1)), some (.fz (.int be.2)), b6, b7, b8, b9, b10, b11, b12, b13, b14, b15, b16]) := by
  obtain ⟨b, e⟩ := be
  have hbe2 := hbe
  unfold endsP at hbe2
  have hg := good_of (List.mem_filter.mp hbe2).2
  obtain ⟨b0, b1, e0, e1⟩ := ends_mem hbe
  have b0 : 0 ≤ b := b0
  have b1 : b < rs.length := b1
  have e0 : 0 ≤ e := e0
  have e1 : e < rs.length := e1
  obtain ⟨⟨l2, l5, r0⟩, r1⟩ := id hrs
  have hg : Good rs b e (cntF b e rs.dropLast 0 0) := hg
  have hm := hg.more t0 l2 l5 b0 b1 e0 e1
  have hfl : (cntF b e rs.dropLast 0 0).length + 1 = rs.length := by rw [cntF_len, List.length_dropLast]; omega
  have hne : cntF b e rs.dropLast 0 0 ≠ [] := by intro h; rw [h] at hfl; simp at hfl; omega
  have hout := out_into (b := b) (e := e) rs 0 0 (by intro h; rw [h] at l2; simp at l2) (by rw [lastS_is _ _ hne]; exact hg.2.2.1)
  have k1 := hcr rs b e ⟨l2, l5, r0⟩ b0 b1 e0 e1
  rw [hg.cross] at k1
  have hk : (b - 1).toNat < (cntF b e rs.dropLast 0 0).length := by omega
  have hsplit := incP_split t t hk
  have k2 := hcr (incT t (incT t rs (b - 1).toNat) ((b - 1).toNat + 1)) b e ⟨by rw [incT_len, incT_len]; exact l2, by rw [incT_len, incT_len]; exact l5, incT_non (by omega) (incT_non (by omega) r0)⟩ b0 (by rw [incT_len, incT_len]; exact b1) e0 (by rw [incT_len, incT_len]; exact e1)
  rw [hm.cross] at k2
  clear hm hg hbe2
  generalize cntF b e rs.dropLast 0 0 = f at *
  obtain ⟨near, hnear⟩ : ∃ near, near = if 0 < b then b - 1 else 1 := ⟨_, rfl⟩
  obtain ⟨k, hkk⟩ : ∃ k : Nat, (b - 1).toNat = k := ⟨_, rfl⟩
  rw [hkk] at hsplit k2 hk
  have hmin : min b near = (k : Int) := by rw [hnear]; split <;> omega
  have n0 : 0 ≤ near := by rw [hnear]; split <;> omega
  have n1 : near < rs.length := by rw [hnear]; split <;> omega
  have hinc : incT t (incT t rs b.toNat) near.toNat = incT t (incT t rs k) (k + 1) := by
    by_cases c : 0 < b
    · rw [if_pos c] at hnear
      rw [incT_comm, show near.toNat = k by omega, show b.toNat = k + 1 by omega]
    · rw [if_neg c] at hnear
      rw [show near.toNat = k + 1 by omega, show b.toNat = k by omega]
  obtain ⟨p, q, r, rfl, -, -⟩ := id hx
  have z1 : okSz 1 = true := by decide
  have z2 : okSz 2 = true := by decide
  -- the three comprehensions
  have ec1 : ∀ (o7 o9 o10 o11 o12 o13 o14 o15 o16 : Option Vl), ev G (((E.var 8).idx (cI 0)).comp (Tg.n 8) (It.li (E.var 6)) none [8] false) [some (.ol [.int p, .int q, .int r]), some (.fz (tI' rs)), some (.fz (.int (rs.length : Nat))), some (.fz (.int t)), some (.fz (.int b)), some (.fz (.int e)), some (.fz (.tuple (f.map prD))), o7, o8, o9, o10, o11, o12, o13, o14, o15, o16] = some (.st (.ol ((f.map (·.1)).map .int)), [some (.ol [.int p, .int q, .int r]), some (.fz (tI' rs)), some (.fz (.int (rs.length : Nat))), some (.fz (.int t)), some (.fz (.int b)), some (.fz (.int e)), some (.fz (.tuple (f.map prD))), o7, o8, o9, o10, o11, o12, o13, o14, o15, o16]) := by
    intros
    rw [List.map_map]
    refine ev_comp_map f prD _ ?_ (fun y _ => ?_) (by omega)
    · simp
    · have i0 : idxD (prD y) (.int 0) = some (.int y.1) := idx_0 _ _
      simp [turn0, wipeF, wipeP, i0]
  have ec2 : ∀ (o7 o9 o10 o11 o12 o13 o14 o15 o16 : Option Vl), ev G (((E.var 8).idx (cI 1)).comp (Tg.n 8) (It.li (E.var 6)) none [8] false) [some (.ol [.int p, .int q, .int r]), some (.fz (tI' rs)), some (.fz (.int (rs.length : Nat))), some (.fz (.int t)), some (.fz (.int b)), some (.fz (.int e)), some (.fz (.tuple (f.map prD))), o7, o8, o9, o10, o11, o12, o13, o14, o15, o16] = some (.st (.ol ((f.map (·.2)).map .int)), [some (.ol [.int p, .int q, .int r]), some (.fz (tI' rs)), some (.fz (.int (rs.length : Nat))), some (.fz (.int t)), some (.fz (.int b)), some (.fz (.int e)), some (.fz (.tuple (f.map prD))), o7, o8, o9, o10, o11, o12, o13, o14, o15, o16]) := by
    intros
    rw [List.map_map]
    refine ev_comp_map f prD _ ?_ (fun y _ => ?_) (by omega)
    · simp
    · have i1 : idxD (prD y) (.int 1) = some (.int y.2) := idx_1 _ _ _
      simp [turn0, wipeF, wipeP, i1]
  have lA : (f.map (·.1)).length ≤ 5 := by rw [List.length_map]; omega
  have lB : (f.map (·.2)).length ≤ 5 := by rw [List.length_map]; omega
  generalize hA : f.map (·.1) = A at *
  generalize hB : f.map (·.2) = B at *
  have ep := pairs_ints (A ++ [0]) (0 :: B)
  have ez := zip_add (A ++ [0]) (0 :: B)
  have hout : addI (A ++ [0]) (0 :: B) = rs := hout
  rw [hout] at ez
  simp only [List.map_append, List.map_cons, List.map_nil] at ep
  have ec3 : ∀ (o11 o12 o13 o14 o15 o16 : Option Vl), ev G ((E.bin Bop.add (E.var 8) (E.var 10)).comp (Tg.t [Tg.n 8, Tg.n 10]) (It.zp (E.var 7) (E.var 9)) none [8, 10] false) [some (.ol [.int p, .int q, .int r]), some (.fz (tI' rs)), some (.fz (.int (rs.length : Nat))), some (.fz (.int t)), some (.fz (.int b)), some (.fz (.int e)), some (.fz (.tuple (f.map prD))), some (.ol (A.map .int ++ [.int 0])), o8, some (.ol (.int 0 :: B.map .int)), o10, o11, o12, o13, o14, o15, o16] = some (.st (.ol (rs.map .int)), [some (.ol [.int p, .int q, .int r]), some (.fz (tI' rs)), some (.fz (.int (rs.length : Nat))), some (.fz (.int t)), some (.fz (.int b)), some (.fz (.int e)), some (.fz (.tuple (f.map prD))), some (.fz (.list (A.map .int ++ [.int 0]))), o8, some (.fz (.list (.int 0 :: B.map .int))), o10, o11, o12, o13, o14, o15, o16]) := by
    intros
    rw [← ez]
    refine ev_comp_map ((A ++ [0]).zip (0 :: B)) (fun x => .tuple [.int x.1, .int x.2]) (fun x => .int (x.1 + x.2)) ?_ (fun y _ => ?_) (by rw [List.length_zip]; simp; omega)
    · simp [ep]
    · simp [turn0, wipeF, wipeP]
  have ner : cmpD .ne (.tuple (rs.map .int)) (.tuple (rs.map .int)) = some false := ne_self (sh_ints rs)
  -- the two places
  have el : ∀ (o14 o15 o16 o7 o9 : Option Vl), forN (turnF G [0] (Tg.n 13) [S.sidx 11 (E.var 13) (E.bin Bop.add ((E.var 11).idx (E.var 13)) (E.var 3))]) [.int b, .int near] [some (.ol [.int p, .int q, .int r]), some (.fz (tI' rs)), some (.fz (.int (rs.length : Nat))), some (.fz (.int t)), some (.fz (.int b)), some (.fz (.int e)), some (.fz (.tuple (f.map prD))), o7, o8, o9, o10, some (.ol (rs.map .int)), some (.fz (.int near)), o13, o14, o15, o16] = some (.nx, [some (.ol [.int p, .int q, .int r]), some (.fz (tI' rs)), some (.fz (.int (rs.length : Nat))), some (.fz (.int t)), some (.fz (.int b)), some (.fz (.int e)), some (.fz (.tuple (f.map prD))), o7, o8, o9, o10, some (.ol ((incT t (incT t rs k) (k + 1)).map .int)), some (.fz (.int near)), some (.fz (.int near)), o14, o15, o16]) := by
    intros
    have i1 := idx_lst (hs := rs) (q := b) b0 b1
    have i2 : placeD rs.length b = some b.toNat := place_ok b0 b1
    have i3 := idx_lst (hs := incT t rs b.toNat) (q := near) n0 (by rw [incT_len]; exact n1)
    have i4 : placeD (incT t rs b.toNat).length near = some near.toNat := place_ok n0 (by rw [incT_len]; exact n1)
    have s1 := sidx_inc (rs := rs) (q := b) (t := t)
    have s2 := sidx_inc (rs := incT t rs b.toNat) (q := near) (t := t)
    rw [hinc] at s2
    generalize incT t (incT t rs k) (k + 1) = fin at *
    generalize incT t rs b.toNat = mid at *
    simp [forN, turnF, i1, i2, i3, i4, s1, s2]
  have emin : biD .min [.int b, .int near] = some (.fz (.int (k : Int))) := by
    rw [← hmin]
    by_cases c : near < b
    · rw [show min b near = near by omega]
      simp [c]
    · rw [show min b near = b by omega]
      simp [c]
  have ei : idxD (.tuple (f.map prD)) (.int (k : Int)) = some (prD (f.getD k (0, 0))) := by
    have : placeD (f.map prD).length (k : Int) = some k := by
      rw [place_ok (by omega) (by rw [List.length_map]; omega)]
      rfl
    simp only [idxD, this, Option.bind_some, List.getElem?_map]
    rw [List.getD_eq_getElem?_getD, List.getElem?_eq_getElem hk]
    rfl
  have i0 : ∀ y : Int × Int, idxD (prD y) (.int 0) = some (.int y.1) := fun _ => idx_0 _ _
  have i1 : ∀ y : Int × Int, idxD (prD y) (.int 1) = some (.int y.2) := fun _ => idx_1 _ _ _
  have c1 := cutL_to (f.map prD) (n := (k : Int)) (by omega)
  have c2 := cutL_from (f.map prD) (n := (k : Int)) (by omega) (by rw [List.length_map]; omega)
  rw [Int.toNat_natCast, ← List.map_take] at c1
  rw [Int.toNat_natCast, ← List.map_drop] at c2
  have lt : (f.take k).length ≤ 5 := by rw [List.length_take]; omega
  have ldr : (f.drop (k + 1)).length ≤ 5 := by rw [List.length_drop]; omega
  have nef := ne_prs (incP t t f k)
  rw [hsplit, List.map_append, List.map_cons] at nef
  rw [hsplit, List.map_append, List.map_cons] at k2
  have hnn : (if 0 < b then b - 1 else 1) = near := hnear.symm
  generalize hw : f.getD k (0, 0) = w at *
  have zz : ∀ k : Nat, k ≤ 50 → okSz k = true := fun k hk => okSz_ok (by omega)
  have y1 : okSz (A.length + 1) = true := zz _ (by omega)
  have y2 : okSz (B.length + 1) = true := zz _ (by omega)
  have y5 : okSz (1 + B.length) = true := zz _ (by omega)
  have y3 : okSz ((f.take k).length + 1) = true := zz _ (by omega)
  have y4 : okSz ((f.take k).length + ((f.drop (k + 1)).length + 1)) = true := zz _ (by omega)
  have y6 : okSz ((f.take k).length + 1 + (f.drop (k + 1)).length) = true := zz _ (by omega)
  have y7 : okSz ((f.take k).length + (1 + (f.drop (k + 1)).length)) = true := zz _ (by omega)
  have epw : prD (w.1 + t, w.2 + t) = .tuple [.int (w.1 + t), .int (w.2 + t)] := rfl
  have y8 : (List.map prD (List.take k f)).length = (f.take k).length := List.length_map _
  have y9 : (List.map prD (List.drop (k + 1) f)).length = (f.drop (k + 1)).length := List.length_map _
  rw [epw] at k2 nef
  generalize (f.take k).map prD = ft at *
  generalize (f.drop (k + 1)).map prD = fd at *
  generalize (f.take k).length = lft at *
  generalize (f.drop (k + 1)).length = lfd at *
  clear hsplit hout ez ep hA hB hinc hfl hne hk lt ldr
  generalize f.map prD = fD at *
  generalize incT t (incT t rs k) (k + 1) = rs' at *
  refine ⟨some (.fz (.tuple fD)), some (.fz (.list (A.map .int ++ [.int 0]))), o8, some (.fz (.list (.int 0 :: B.map .int))), o10, some (.ol (rs'.map .int)), some (.fz (.int near)), some (.fz (.int near)), some (.fz (.int (k : Int))), some (.fz (.tuple [.int (w.1 + t), .int (w.2 + t)])), some (.fz (.tuple (ft ++ .tuple [.int (w.1 + t), .int (w.2 + t)] :: fd))), ?_⟩
  by_cases c : 0 < b
  · rw [if_pos c] at hnn
    subst hnn
    simp only [tI', prD] at *
    simp [turnF, endsIn, k1, k2, ec1, ec2, ec3, ner, el, emin, ei, i0, i1, c1, c2, nef, c, y1, y2, y3, y4, y5, y6, y7, y8, y9, z1, z2]
  · rw [if_neg c] at hnn
    subst hnn
    simp only [tI', prD] at *
    simp [turnF, endsIn, k1, k2, ec1, ec2, ec3, ner, el, emin, ei, i0, i1, c1, c2, nef, c, y1, y2, y3, y4, y5, y6, y7, y8, y9, z1, z2]
end Tr

set_option Elab.async false
set_option linter.all false
set_option maxRecDepth 100000
set_option maxHeartbeats 4000000
namespace Tr
open PySem
def PEndsRight (G : Fs) (f : Nat) : Prop := ∀ x rs, IsPen x → IsRs rs → ∃ x', G f [x, .fz (tI' rs)] = some (.fz (.bool true), [x', .fz (tI' rs)]) ∧ IsPen x'
theorem endsRight_run {G : Fs} {ld ae cr : Nat} (hd : PDraw G ld) (hae : PEnds G ae) (hcr : PCross G cr) {x : Vl} {rs : List Int} (hx : IsPen x) (hrs : IsRs rs) : ∃ x', runF G (lawEndsRightFn ld ae cr) [x, .fz (tI' rs)] = some (.fz (.bool true), [x', .fz (tI' rs)]) ∧ IsPen x' := by
  obtain ⟨t, x1, e1, t0, t1, hx1⟩ := hd x 9 hx (by decide) (by decide)
  have e2 := hae rs hrs.1
  let I : Fm → Prop := fun fr => ∃ (o4 o5 o6 o7 o8 o9 o10 o11 o12 o13 o14 o15 o16 : Option Vl), fr = [some x1, some (.fz (tI' rs)), some (.fz (.int (rs.length : Nat))), some (.fz (.int (1 + t))), o4, o5, o6, o7, o8, o9, o10, o11, o12, o13, o14, o15, o16]
  obtain ⟨g', el, o4, o5, o6, o7, o8, o9, o10, o11, o12, o13, o14, o15, o16, rfl⟩ : ∃ g', forN (turnF G [0] (Tg.t [Tg.n 4, Tg.n 5]) (endsIn cr)) ((endsP rs).map prD) [some x1, some (.fz (tI' rs)), some (.fz (.int (rs.length : Nat))), some (.fz (.int (1 + t))), none, none, none, none, none, none, none, none, none, none, none, none, none] = some (.nx, g') ∧ I g' := by
    refine forN_inv I ⟨_, _, _, _, _, _, _, _, _, _, _, _, _, rfl⟩ ?_
    rintro d g ⟨o4, o5, o6, o7, o8, o9, o10, o11, o12, o13, o14, o15, o16, rfl⟩ hd
    obtain ⟨be, hbe, rfl⟩ := List.mem_map.mp hd
    obtain ⟨b6, b7, b8, b9, b10, b11, b12, b13, b14, b15, b16, q⟩ := ends_in hcr hx1 hrs (t := 1 + t) (by omega) hbe o4 o5 o6 o7 o8 o9 o10 o11 o12 o13 o14 o15 o16
    exact ⟨_, q, ⟨_, _, _, _, _, _, _, _, _, _, _, _, _, rfl⟩⟩
  refine ⟨x1, ?_, hx1⟩
  obtain ⟨p, q, r, rfl, -, -⟩ := id hx
  obtain ⟨p1, q1, r1, rfl, -, -⟩ := id hx1
  unfold lawEndsRightFn
  generalize endsIn cr = body at *
  simp only [tI'] at *
  generalize (endsP rs).map prD = ed at *
  simp [runF, e1, e2, el]
def law80In (lfr ld ler lr lgr ls : Nat) : List S := [S.iff (E.call lfr [E.var 2, E.bin Bop.add (cI 2) (E.call ld [E.var 2, cI 4])]).not [S.ret (E.con (.bool false))] [], S.iff (E.call ler [E.var 2, E.call lr [E.var 2]]).not [S.ret (E.con (.bool false))] [], S.for (Tg.n 3) (It.rg1 (cI 2)) [S.iff (E.call lgr [E.var 2, E.call ls [E.var 2, cI 5, cI 5]]).not [S.ret (E.con (.bool false))] []]]
def law80Fn (lp lca lfr ld ler lr lgr ls : Nat) : Fn := ⟨1, 4, [S.for (Tg.n 1) (It.rg1 (E.bi Bi.max [cI 1, E.bi Bi.min [E.bi Bi.len [E.var 0], cI 4]])) (S.asg (Tg.n 2) (E.call lp [E.call lca [E.var 0, E.var 1]]) :: law80In lfr ld ler lr lgr ls), S.ret (E.con (.bool true))]⟩
theorem law80_run {G : Fs} {lp lca lfr ld ler lr lgr ls : Nat} (hpe : PPen G lp) (hce : PCell G lca) (hfr : PFreeRight G lfr) (hd : PDraw G ld) (her : PEndsRight G ler) (hr : PRises G lr) (hgr : PGroundRight G lgr) (hst : PStandDraw G ls) (ns : List Int) : ∃ ps, runF G (law80Fn lp lca lfr ld ler lr lgr ls) [.scr ns] = some (.fz (.bool true), ps) := by
  refine outer1_run hce hpe ns (N := 4) (m := 1) (pre := []) (by decide) ?_ ?_
  · intro rest _ ss
    rfl
  · intro i y rest hy hrest
    obtain ⟨o3, rfl⟩ : ∃ o3, rest = [o3] := by
      match rest, hrest with
      | [a], _ => exact ⟨a, rfl⟩
    obtain ⟨n, y1, e1, n0, n1, hy1⟩ := hd y 4 hy (by decide) (by decide)
    obtain ⟨y2, e2, hy2⟩ := hfr y1 (2 + n) hy1 (by omega) (by omega)
    obtain ⟨rs, y3, e3, hrs, hy3⟩ := hr y2 hy2
    obtain ⟨y4, e4, hy4⟩ := her y3 rs hy3 hrs
    let I : Fm → Prop := fun fr => ∃ (y : Vl) (o3 : Option Vl), fr = [some (.scr ns), some (.fz (.int i)), some y, o3] ∧ IsPen y
    obtain ⟨g', el, y5, b3, rfl, hy5⟩ : ∃ g', forN (turnF G [] (Tg.n 3) [S.iff (E.call lgr [E.var 2, E.call ls [E.var 2, cI 5, cI 5]]).not [S.ret (E.con (.bool false))] []]) (rangeD 0 2) [some (.scr ns), some (.fz (.int i)), some y4, o3] = some (.nx, g') ∧ I g' := by
      refine forN_inv I ⟨_, _, rfl, hy4⟩ ?_
      rintro d g ⟨z, o3, rfl, hz⟩ -
      obtain ⟨p, hs, z1, e5, h, -, -, hz1⟩ := hst z 5 5 hz (by decide) (by decide) (by decide) (by decide)
      obtain ⟨z2, e6, hz2⟩ := hgr z1 p hs hz1 h
      obtain ⟨a, b, c, rfl, -, -⟩ := id hz
      obtain ⟨a1, b1, c1, rfl, -, -⟩ := id hz1
      obtain ⟨a2, b2, c2, rfl, -, -⟩ := id hz2
      refine ⟨[some (.scr ns), some (.fz (.int i)), some (.ol [.int a2, .int b2, .int c2]), some (.fz d)], ?_, ⟨_, _, rfl, hz2⟩⟩
      simp only [sD, tI'] at *
      simp [turnF, e5, e6]
    obtain ⟨a, b, c, rfl, -, -⟩ := id hy
    obtain ⟨a1, b1, c1, rfl, -, -⟩ := id hy1
    obtain ⟨a2, b2, c2, rfl, -, -⟩ := id hy2
    obtain ⟨a3, b3', c3, rfl, -, -⟩ := id hy3
    obtain ⟨a4, b4, c4, rfl, -, -⟩ := id hy4
    obtain ⟨a5, b5, c5, rfl, -, -⟩ := id hy5
    have sm : smallI 2 = true := by decide
    refine ⟨.ol [.int a5, .int b5, .int c5], [b3], ?_, hy5, rfl⟩
    simp only [tI'] at *
    simp [law80In, e1, e2, e3, e4, sm, el]
end Tr

set_option Elab.async false
set_option linter.all false
set_option maxRecDepth 100000
set_option maxHeartbeats 1000000
/-! From the head's facts to the defs' promises. -/
namespace Tr
open PySem PySem.Spec PyProof.Rows L2
/-- what the head knows of a def -/
def DfFact (K : PySem.W.Frag) (nm : Str) (st : Stmt) : Prop := ∃ (fa : Addr) (oc : Value) (od : Option Addr) (osl : Array (Option Value)) (kV doc pm : Value) (an : Option Addr) (cdv ct : Value),
  PySem.W.nsIn K mainGlobals nm = some (some (.ref fa)) ∧ K.lookup fa = some ⟨oc, od, .func (PySem.W.fnOf nm nm (defArgs st) (defBody st) (defScope st) .none kV doc pm an cdv ct), osl⟩ ∧ PySem.W.codeIn K cdv nm = true ∧ PySem.W.keepIn K (.ref fa) = true
theorem df_fact {K : PySem.W.Frag} {nm : Str} {st : Stmt} {fa : Addr} {oc : Value} {od : Option Addr} {osl : Array (Option Value)} {kV doc pm : Value} {an : Option Addr} {cdv ct : Value}
  (a : PySem.W.nsIn K mainGlobals nm = some (some (.ref fa))) (l : K.lookup fa = some ⟨oc, od, .func (PySem.W.fnOf nm nm (defArgs st) (defBody st) (defScope st) .none kV doc pm an cdv ct), osl⟩) (c : PySem.W.codeIn K cdv nm = true) (k : PySem.W.keepIn K (.ref fa) = true) : DfFact K nm st := ⟨fa, oc, od, osl, kV, doc, pm, an, cdv, ct, a, l, c, k⟩
/-- what the text alone says of a def -/
structure DfSt (d : Df) : Prop where
  sc : FnScope d.N d.ps (defScope d.st)
  bd : ∀ (kV doc pm : Value) (an : Option Addr) (cdv ct : Value) (us : List Value), us.length = d.ps.length → bindArgs (PySem.W.fnOf d.nm d.nm (defArgs d.st) (defBody d.st) (defScope d.st) .none kV doc pm an cdv ct) ⟨us, []⟩ = pure (d.ps.zip us)
def ConFact (mg : Str → Option Value) (K : PySem.W.Frag) (x : Str) (d : D) : Prop := ∃ u v, mg x = some u ∧ RelV v u ∧ ∀ F H, RelD K F H v d
theorem con_int {K : PySem.W.Frag} {mg : Str → Option Value} {x : Str} {n : Int} {t : Tok} (a : mg x = some (.int n t)) : ConFact mg K x (.int n) := ⟨_, .int n, a, ⟨t, rfl⟩, fun _ _ => .int n⟩
theorem con_str {K : PySem.W.Frag} {mg : Str → Option Value} {x : Str} {n : Str} {t : Tok} (a : mg x = some (.str n t)) : ConFact mg K x (.str n) := ⟨_, .str n, a, ⟨t, rfl⟩, fun _ _ => .str n⟩
theorem con_tup2 {K : PySem.W.Frag} {mg : Str → Option Value} {x : Str} {m n : Int} {t t2 : Tok} {r : Addr} {dd : Option Addr} {k : Nat} {sl : Array (Option Value)} (a : mg x = some (.ref r)) (l : K.lookup r = some ⟨.type "tuple", dd, .seq #[.int m t, .int n t2] k, sl⟩) : ConFact mg K x (.tuple [.int m, .int n]) := by
  refine ⟨_, .ref r, a, rfl, fun F H => .tup (xs := [.int m, .int n]) (.inr (.inr ⟨_, _, _, l, rfl, rfl, by show 2 ≤ sizeLine; decide, .cons ⟨t, rfl⟩ (.cons ⟨t2, rfl⟩ .nil)⟩)) (.cons (.int m) (.cons (.int n) .nil))⟩
theorem df_ok {K : PySem.W.Frag} {h : Heap} {mg : Str → Option Value} {d : Df} (kx : K.In h) (g : h.Ns mainGlobals mg) (s : DfSt d) (f : DfFact K d.nm d.st) : ∃ fa fd, DfOk K mg d fa fd := by
  obtain ⟨fa, oc, od, osl, kV, doc, pm, an, cdv, ct, a, l, c, k⟩ := f
  have F := fun_mk l c k
  exact ⟨fa, _, PySem.W.mg_of kx g a, F, F.binds s.bd, s.sc⟩
theorem env_of {K : PySem.W.Frag} {h : Heap} {mg : Str → Option Value} {T : Tb} {ds : List Df} (kx : K.In h) (g : h.Ns mainGlobals mg) (hn : T.fs = ds.map Df.nm) (s : ∀ d ∈ ds, DfSt d) (f : ∀ d ∈ ds, DfFact K d.nm d.st)
    (kw : ∀ p ∈ T.kw, ∃ f d, posOf p.1.1 T.fs = some f ∧ ds[f]? = some d ∧ d.nm = p.1.1 ∧ KwSt d p.1.2 p.2) (b : ∀ x ∈ bNames, PySem.W.nsIn K mainGlobals x = some none) (c : ∀ p ∈ T.cs, ConFact mg K p.1 p.2) : Env1 K mg T ds where
  names := hn
  fns := fun i d hd => df_ok kx g (s d (List.mem_of_getElem? hd)) (f d (List.mem_of_getElem? hd))
  kws := fun x ks perm hx => kw _ hx
  bis := fun x hx => PySem.W.mg_none_of kx g (b x hx)
  cons := fun x d hx => c (x, d) (PySem.mem_of_lookup hx)
theorem walkT {l : PySem.W.OpenLaw} {n k : Nat} {q : Program} {loose : List Str} {XP : (Str → Option Value) → Heap → Prop} {YP : World → Heap → Prop} {d : DefRec} {K : Params → PySem.W.Frag} {T : Tb} {ds : List Df} {f : Nat} {df : Df} {x : Str}
    (hn : l.most = some n) (hn2 : n ≤ sizeLine) (hdf : d.params.defaults = []) (hr : Room k callerA) (hY : ∀ (w : World) (h : Heap), YP w h → (K w.params).In h)
    (hd : ds[f]? = some df) (hnm : df.nm = d.name) (hps : df.ps = [x])
    (hb : ∀ (kV doc pm : Value) (an : Option Addr) (cdv ct u : Value), bindArgs (PySem.W.fnOf df.nm df.nm (defArgs df.st) (defBody df.st) (defScope df.st) .none kV doc pm an cdv ct) ⟨[u], []⟩ = pure [(x, u)])
    (hrun : ∀ ns : List Int, ns.length ≤ n → (∀ z ∈ ns, Builtin.Int.intBits z ≤ 1048576) → ∃ ps, callN (prgOf T ds) k f [.scr ns] = some (.fz (.bool true), ps))
    (F : ∀ (w : World) (mg : Str → Option Value) (h : Heap), (K w.params).In h → h.Ns mainGlobals mg → Env1 (K w.params) mg T ds) :
    PySem.W.WalkO q loose XP YP l.row.toRowW d [] (fun f vs => PySem.call f vs) := by
  refine walkG (n := n) (k := k) (x := x) (K := K) (sp := fun w => spOf (K w.params) (callN (prgOf T ds) k f)) hn hn2 hdf hr hY (fun w mg fa h kx g hmg => ?_) fun w H a ns h1 h2 hs => ?_
  · have E := F w mg h kx g
    obtain ⟨fa', fd, ok⟩ := E.fns f df hd
    have e := ok.mg
    rw [hnm, hmg] at e
    cases e
    refine ⟨fd, fun s u => ?_, fun base _ _ => ?_⟩
    · obtain ⟨oc, od, kV, doc, pm, an, cdv, ct, osl, rfl, _, _⟩ := ok.fn.ex
      exact .of_eq (hb kV doc pm an cdv ct u)
    · have := fn_depth (P := l.prog) (w := w) (base := base) E k f df fa fd hd ok
      rw [hps] at this
      exact this
  · obtain ⟨ps, e⟩ := hrun ns h1 h2
    exact law_true (F := fun _ => False) hs e
end Tr

set_option Elab.async false
set_option linter.all false
set_option maxRecDepth 1000000
set_option maxHeartbeats 4000000
namespace Lawk80
open PySem L2 Tr
abbrev top (i : Nat) : Stmt := PySem.Challenge.pw_treadrise_k80_whole_the_ground_tells_eac.main.body.getD i (.Pass ⟨0, 0, 0, 0⟩)
def df0 : Df := ⟨"is_whole", top 13, ["thing"], ["thing"]⟩
def df1 : Df := ⟨"is_within", top 14, ["thing", "least", "most"], ["thing", "least", "most"]⟩
def df2 : Df := ⟨"is_long", top 15, ["thing", "least", "most"], ["thing", "least", "most"]⟩
def df3 : Df := ⟨"are_counts", top 16, ["thing", "one"], ["thing"]⟩
def df4 : Df := ⟨"is_stand", top 17, ["thing"], ["thing"]⟩
def df5 : Df := ⟨"need_stand", top 18, ["thing"], ["thing"]⟩
def df6 : Df := ⟨"is_step", top 19, ["thing"], ["thing"]⟩
def df7 : Df := ⟨"is_let", top 20, ["stand", "step", "place", "heights", "there"], ["stand", "step"]⟩
def df8 : Df := ⟨"raised", top 21, ["heights", "place"], ["heights", "place"]⟩
def df9 : Df := ⟨"step_by", top 22, ["stand", "step", "place", "heights"], ["stand", "step"]⟩
def df10 : Df := ⟨"need_rises", top 24, ["thing"], ["thing"]⟩
def df11 : Df := ⟨"need_place", top 25, ["many", "thing"], ["many", "thing"]⟩
def df12 : Df := ⟨"counted", top 26, ["rises", "begin", "end", "found", "back", "border", "rise", "ahead"], ["rises", "begin", "end"]⟩
def df13 : Df := ⟨"hang_together", top 27, ["crossed", "begin", "end", "used", "border", "ahead", "back", "low", "high"], ["crossed", "begin", "end"]⟩
def df14 : Df := ⟨"crossings_by", top 28, ["rises", "begin", "end", "found", "one"], ["rises", "begin", "end"]⟩
def df15 : Df := ⟨"crossings", top 29, ["rises", "begin", "end"], ["rises", "begin", "end"]⟩
def df16 : Df := ⟨"all_ends", top 30, ["rises", "every", "begin", "end", "pair"], ["rises"]⟩
def df17 : Df := ⟨"is_walk", top 32, ["thing", "one"], ["thing"]⟩
def df18 : Df := ⟨"need_walk", top 33, ["thing"], ["thing"]⟩
def df19 : Df := ⟨"bar_by", top 34, ["stand", "walk", "at", "step"], ["stand", "walk"]⟩
def df20 : Df := ⟨"need_done", top 35, ["stand", "walk"], ["stand", "walk"]⟩
def df21 : Df := ⟨"behind_by", top 36, ["stand", "walk", "step"], ["stand", "walk"]⟩
def df22 : Df := ⟨"behind", top 37, ["stand", "walk"], ["stand", "walk"]⟩
def df23 : Df := ⟨"places_of", top 38, ["place", "walk", "found", "step"], ["place", "walk"]⟩
def df24 : Df := ⟨"span", top 39, ["stand", "walk", "some"], ["stand", "walk"]⟩
def df25 : Df := ⟨"_law_cell_at", top 41, ["_law_script", "_law_k"], ["_law_script", "_law_k"]⟩
def df26 : Df := ⟨"_law_pen", top 42, ["_law_cell"], ["_law_cell"]⟩
def df27 : Df := ⟨"_law_draw", top 43, ["_law_pen_here", "_law_many", "_law_found", "_law_mixed"], ["_law_pen_here", "_law_many"]⟩
def df28 : Df := ⟨"_law_pick", top 44, ["_law_pen_here", "_law_some"], ["_law_pen_here", "_law_some"]⟩
def df29 : Df := ⟨"_law_stand", top 45, ["_law_pen_here", "_law_most", "_law_high", "_law_many", "_law_here", "_law_heights", "_law_lap", "_law_near"], ["_law_pen_here", "_law_most", "_law_high"]⟩
def df30 : Df := ⟨"_law_let", top 46, ["_law_stand_here", "_law_step_here", "_law_place", "_law_heights"], ["_law_stand_here", "_law_step_here"]⟩
def df31 : Df := ⟨"_law_step", top 47, ["_law_stand_here", "_law_step_here", "_law_place", "_law_heights", "_law_at", "_law_one"], ["_law_stand_here", "_law_step_here"]⟩
def df32 : Df := ⟨"_law_steps", top 48, ["_law_stand_here", "_law_step_here"], ["_law_stand_here"]⟩
def df33 : Df := ⟨"_law_walk", top 49, ["_law_pen_here", "_law_stand_here", "_law_most", "_law_found", "_law_lap", "_law_some", "_law_step_here"], ["_law_pen_here", "_law_stand_here", "_law_most"]⟩
def df34 : Df := ⟨"_law_free", top 50, ["_law_pen_here", "_law_many", "_law_most", "_law_begin", "_law_found", "_law_place", "_law_lap", "_law_some", "_law_step_here"], ["_law_pen_here", "_law_many", "_law_most"]⟩
def df35 : Df := ⟨"_law_left", top 51, ["_law_many", "_law_begin", "_law_walk_here", "_law_rows_here", "_law_over", "_law_place", "_law_border", "_law_step_here", "_law_side", "_law_one"], ["_law_many", "_law_begin", "_law_walk_here"]⟩
def df36 : Df := ⟨"_law_rows", top 52, ["_law_pen_here", "_law_many", "_law_begin", "_law_walk_here", "_law_end", "_law_rows_here", "_law_at", "_law_place"], ["_law_pen_here"]⟩
def df37 : Df := ⟨"_law_risen", top 53, ["_law_stand_here", "_law_later", "_law_was", "_law_now"], ["_law_stand_here", "_law_later"]⟩
def df38 : Df := ⟨"_law_ground_right", top 54, ["_law_pen_here", "_law_stand_here", "_law_walk_here", "_law_later", "_law_rows_here", "_law_told", "_law_used", "_law_border", "_law_one"], ["_law_pen_here", "_law_stand_here"]⟩
def df39 : Df := ⟨"_law_added", top 55, ["_law_rows_here", "_law_more", "_law_one", "_law_other"], ["_law_rows_here", "_law_more"]⟩
def df40 : Df := ⟨"_law_free_right", top 56, ["_law_pen_here", "_law_many", "_law_start", "_law_walk_here", "_law_amid", "_law_last", "_law_more", "_law_lap", "_law_some", "_law_step_here", "_law_rows_here", "_law_its", "_law_mine", "_law_other", "_law_every", "_law_one", "_law_two", "_law_back", "_law_glass"], ["_law_pen_here", "_law_many"]⟩
def df41 : Df := ⟨"_law_ends_right", top 57, ["_law_pen_here", "_law_rows_here", "_law_many", "_law_times", "_law_start", "_law_last", "_law_told", "_law_out", "_law_one", "_law_into", "_law_other", "_law_more", "_law_near", "_law_place", "_law_border", "_law_wide", "_law_due"], ["_law_pen_here", "_law_rows_here"]⟩
def df42 : Df := ⟨"law", top 58, ["_law_script", "_law_k", "_law_pen_here", "_law_lap"], ["_law_script"]⟩
def dfs : List Df := [df0, df1, df2, df3, df4, df5, df6, df7, df8, df9, df10, df11, df12, df13, df14, df15, df16, df17, df18, df19, df20, df21, df22, df23, df24, df25, df26, df27, df28, df29, df30, df31, df32, df33, df34, df35, df36, df37, df38, df39, df40, df41, df42]
def tab : Tb := ⟨[("is_whole" : Str), ("is_within" : Str), ("is_long" : Str), ("are_counts" : Str), ("is_stand" : Str), ("need_stand" : Str), ("is_step" : Str), ("is_let" : Str), ("raised" : Str), ("step_by" : Str), ("need_rises" : Str), ("need_place" : Str), ("counted" : Str), ("hang_together" : Str), ("crossings_by" : Str), ("crossings" : Str), ("all_ends" : Str), ("is_walk" : Str), ("need_walk" : Str), ("bar_by" : Str), ("need_done" : Str), ("behind_by" : Str), ("behind" : Str), ("places_of" : Str), ("span" : Str), ("_law_cell_at" : Str), ("_law_pen" : Str), ("_law_draw" : Str), ("_law_pick" : Str), ("_law_stand" : Str), ("_law_let" : Str), ("_law_step" : Str), ("_law_steps" : Str), ("_law_walk" : Str), ("_law_free" : Str), ("_law_left" : Str), ("_law_rows" : Str), ("_law_risen" : Str), ("_law_ground_right" : Str), ("_law_added" : Str), ("_law_free_right" : Str), ("_law_ends_right" : Str), ("law" : Str)], [("FEWEST_PLACES", (.int (2))), ("MOST_PLACES", (.int (5))), ("STEPS", (.tuple [(.int (-1)), (.int (1))]))], []⟩
theorem ds0 : DfSt df0 := ⟨⟨rfl, rfl, rfl, by decide +kernel, rfl, by decide +kernel, by decide +kernel⟩, fun _ _ _ _ _ _ us hl => match us, hl with | [_], _ => rfl⟩
theorem ds1 : DfSt df1 := ⟨⟨rfl, rfl, rfl, by decide +kernel, rfl, by decide +kernel, by decide +kernel⟩, fun _ _ _ _ _ _ us hl => match us, hl with | [_, _, _], _ => rfl⟩
theorem ds2 : DfSt df2 := ⟨⟨rfl, rfl, rfl, by decide +kernel, rfl, by decide +kernel, by decide +kernel⟩, fun _ _ _ _ _ _ us hl => match us, hl with | [_, _, _], _ => rfl⟩
theorem ds3 : DfSt df3 := ⟨⟨rfl, rfl, rfl, by decide +kernel, rfl, by decide +kernel, by decide +kernel⟩, fun _ _ _ _ _ _ us hl => match us, hl with | [_], _ => rfl⟩
theorem ds4 : DfSt df4 := ⟨⟨rfl, rfl, rfl, by decide +kernel, rfl, by decide +kernel, by decide +kernel⟩, fun _ _ _ _ _ _ us hl => match us, hl with | [_], _ => rfl⟩
theorem ds5 : DfSt df5 := ⟨⟨rfl, rfl, rfl, by decide +kernel, rfl, by decide +kernel, by decide +kernel⟩, fun _ _ _ _ _ _ us hl => match us, hl with | [_], _ => rfl⟩
theorem ds6 : DfSt df6 := ⟨⟨rfl, rfl, rfl, by decide +kernel, rfl, by decide +kernel, by decide +kernel⟩, fun _ _ _ _ _ _ us hl => match us, hl with | [_], _ => rfl⟩
theorem ds7 : DfSt df7 := ⟨⟨rfl, rfl, rfl, by decide +kernel, rfl, by decide +kernel, by decide +kernel⟩, fun _ _ _ _ _ _ us hl => match us, hl with | [_, _], _ => rfl⟩
theorem ds8 : DfSt df8 := ⟨⟨rfl, rfl, rfl, by decide +kernel, rfl, by decide +kernel, by decide +kernel⟩, fun _ _ _ _ _ _ us hl => match us, hl with | [_, _], _ => rfl⟩
theorem ds9 : DfSt df9 := ⟨⟨rfl, rfl, rfl, by decide +kernel, rfl, by decide +kernel, by decide +kernel⟩, fun _ _ _ _ _ _ us hl => match us, hl with | [_, _], _ => rfl⟩
theorem ds10 : DfSt df10 := ⟨⟨rfl, rfl, rfl, by decide +kernel, rfl, by decide +kernel, by decide +kernel⟩, fun _ _ _ _ _ _ us hl => match us, hl with | [_], _ => rfl⟩
theorem ds11 : DfSt df11 := ⟨⟨rfl, rfl, rfl, by decide +kernel, rfl, by decide +kernel, by decide +kernel⟩, fun _ _ _ _ _ _ us hl => match us, hl with | [_, _], _ => rfl⟩
theorem ds12 : DfSt df12 := ⟨⟨rfl, rfl, rfl, by decide +kernel, rfl, by decide +kernel, by decide +kernel⟩, fun _ _ _ _ _ _ us hl => match us, hl with | [_, _, _], _ => rfl⟩
theorem ds13 : DfSt df13 := ⟨⟨rfl, rfl, rfl, by decide +kernel, rfl, by decide +kernel, by decide +kernel⟩, fun _ _ _ _ _ _ us hl => match us, hl with | [_, _, _], _ => rfl⟩
theorem ds14 : DfSt df14 := ⟨⟨rfl, rfl, rfl, by decide +kernel, rfl, by decide +kernel, by decide +kernel⟩, fun _ _ _ _ _ _ us hl => match us, hl with | [_, _, _], _ => rfl⟩
theorem ds15 : DfSt df15 := ⟨⟨rfl, rfl, rfl, by decide +kernel, rfl, by decide +kernel, by decide +kernel⟩, fun _ _ _ _ _ _ us hl => match us, hl with | [_, _, _], _ => rfl⟩
theorem ds16 : DfSt df16 := ⟨⟨rfl, rfl, rfl, by decide +kernel, rfl, by decide +kernel, by decide +kernel⟩, fun _ _ _ _ _ _ us hl => match us, hl with | [_], _ => rfl⟩
theorem ds17 : DfSt df17 := ⟨⟨rfl, rfl, rfl, by decide +kernel, rfl, by decide +kernel, by decide +kernel⟩, fun _ _ _ _ _ _ us hl => match us, hl with | [_], _ => rfl⟩
theorem ds18 : DfSt df18 := ⟨⟨rfl, rfl, rfl, by decide +kernel, rfl, by decide +kernel, by decide +kernel⟩, fun _ _ _ _ _ _ us hl => match us, hl with | [_], _ => rfl⟩
theorem ds19 : DfSt df19 := ⟨⟨rfl, rfl, rfl, by decide +kernel, rfl, by decide +kernel, by decide +kernel⟩, fun _ _ _ _ _ _ us hl => match us, hl with | [_, _], _ => rfl⟩
theorem ds20 : DfSt df20 := ⟨⟨rfl, rfl, rfl, by decide +kernel, rfl, by decide +kernel, by decide +kernel⟩, fun _ _ _ _ _ _ us hl => match us, hl with | [_, _], _ => rfl⟩
theorem ds21 : DfSt df21 := ⟨⟨rfl, rfl, rfl, by decide +kernel, rfl, by decide +kernel, by decide +kernel⟩, fun _ _ _ _ _ _ us hl => match us, hl with | [_, _], _ => rfl⟩
theorem ds22 : DfSt df22 := ⟨⟨rfl, rfl, rfl, by decide +kernel, rfl, by decide +kernel, by decide +kernel⟩, fun _ _ _ _ _ _ us hl => match us, hl with | [_, _], _ => rfl⟩
theorem ds23 : DfSt df23 := ⟨⟨rfl, rfl, rfl, by decide +kernel, rfl, by decide +kernel, by decide +kernel⟩, fun _ _ _ _ _ _ us hl => match us, hl with | [_, _], _ => rfl⟩
theorem ds24 : DfSt df24 := ⟨⟨rfl, rfl, rfl, by decide +kernel, rfl, by decide +kernel, by decide +kernel⟩, fun _ _ _ _ _ _ us hl => match us, hl with | [_, _], _ => rfl⟩
theorem ds25 : DfSt df25 := ⟨⟨rfl, rfl, rfl, by decide +kernel, rfl, by decide +kernel, by decide +kernel⟩, fun _ _ _ _ _ _ us hl => match us, hl with | [_, _], _ => rfl⟩
theorem ds26 : DfSt df26 := ⟨⟨rfl, rfl, rfl, by decide +kernel, rfl, by decide +kernel, by decide +kernel⟩, fun _ _ _ _ _ _ us hl => match us, hl with | [_], _ => rfl⟩
theorem ds27 : DfSt df27 := ⟨⟨rfl, rfl, rfl, by decide +kernel, rfl, by decide +kernel, by decide +kernel⟩, fun _ _ _ _ _ _ us hl => match us, hl with | [_, _], _ => rfl⟩
theorem ds28 : DfSt df28 := ⟨⟨rfl, rfl, rfl, by decide +kernel, rfl, by decide +kernel, by decide +kernel⟩, fun _ _ _ _ _ _ us hl => match us, hl with | [_, _], _ => rfl⟩
theorem ds29 : DfSt df29 := ⟨⟨rfl, rfl, rfl, by decide +kernel, rfl, by decide +kernel, by decide +kernel⟩, fun _ _ _ _ _ _ us hl => match us, hl with | [_, _, _], _ => rfl⟩
theorem ds30 : DfSt df30 := ⟨⟨rfl, rfl, rfl, by decide +kernel, rfl, by decide +kernel, by decide +kernel⟩, fun _ _ _ _ _ _ us hl => match us, hl with | [_, _], _ => rfl⟩
theorem ds31 : DfSt df31 := ⟨⟨rfl, rfl, rfl, by decide +kernel, rfl, by decide +kernel, by decide +kernel⟩, fun _ _ _ _ _ _ us hl => match us, hl with | [_, _], _ => rfl⟩
theorem ds32 : DfSt df32 := ⟨⟨rfl, rfl, rfl, by decide +kernel, rfl, by decide +kernel, by decide +kernel⟩, fun _ _ _ _ _ _ us hl => match us, hl with | [_], _ => rfl⟩
theorem ds33 : DfSt df33 := ⟨⟨rfl, rfl, rfl, by decide +kernel, rfl, by decide +kernel, by decide +kernel⟩, fun _ _ _ _ _ _ us hl => match us, hl with | [_, _, _], _ => rfl⟩
theorem ds34 : DfSt df34 := ⟨⟨rfl, rfl, rfl, by decide +kernel, rfl, by decide +kernel, by decide +kernel⟩, fun _ _ _ _ _ _ us hl => match us, hl with | [_, _, _], _ => rfl⟩
theorem ds35 : DfSt df35 := ⟨⟨rfl, rfl, rfl, by decide +kernel, rfl, by decide +kernel, by decide +kernel⟩, fun _ _ _ _ _ _ us hl => match us, hl with | [_, _, _], _ => rfl⟩
theorem ds36 : DfSt df36 := ⟨⟨rfl, rfl, rfl, by decide +kernel, rfl, by decide +kernel, by decide +kernel⟩, fun _ _ _ _ _ _ us hl => match us, hl with | [_], _ => rfl⟩
theorem ds37 : DfSt df37 := ⟨⟨rfl, rfl, rfl, by decide +kernel, rfl, by decide +kernel, by decide +kernel⟩, fun _ _ _ _ _ _ us hl => match us, hl with | [_, _], _ => rfl⟩
theorem ds38 : DfSt df38 := ⟨⟨rfl, rfl, rfl, by decide +kernel, rfl, by decide +kernel, by decide +kernel⟩, fun _ _ _ _ _ _ us hl => match us, hl with | [_, _], _ => rfl⟩
theorem ds39 : DfSt df39 := ⟨⟨rfl, rfl, rfl, by decide +kernel, rfl, by decide +kernel, by decide +kernel⟩, fun _ _ _ _ _ _ us hl => match us, hl with | [_, _], _ => rfl⟩
theorem ds40 : DfSt df40 := ⟨⟨rfl, rfl, rfl, by decide +kernel, rfl, by decide +kernel, by decide +kernel⟩, fun _ _ _ _ _ _ us hl => match us, hl with | [_, _], _ => rfl⟩
theorem ds41 : DfSt df41 := ⟨⟨rfl, rfl, rfl, by decide +kernel, rfl, by decide +kernel, by decide +kernel⟩, fun _ _ _ _ _ _ us hl => match us, hl with | [_, _], _ => rfl⟩
theorem ds42 : DfSt df42 := ⟨⟨rfl, rfl, rfl, by decide +kernel, rfl, by decide +kernel, by decide +kernel⟩, fun _ _ _ _ _ _ us hl => match us, hl with | [_], _ => rfl⟩
theorem ds_all : ∀ d ∈ dfs, DfSt d := by
  simp only [dfs, List.forall_mem_cons]
  exact ⟨ds0, ⟨ds1, ⟨ds2, ⟨ds3, ⟨ds4, ⟨ds5, ⟨ds6, ⟨ds7, ⟨ds8, ⟨ds9, ⟨ds10, ⟨ds11, ⟨ds12, ⟨ds13, ⟨ds14, ⟨ds15, ⟨ds16, ⟨ds17, ⟨ds18, ⟨ds19, ⟨ds20, ⟨ds21, ⟨ds22, ⟨ds23, ⟨ds24, ⟨ds25, ⟨ds26, ⟨ds27, ⟨ds28, ⟨ds29, ⟨ds30, ⟨ds31, ⟨ds32, ⟨ds33, ⟨ds34, ⟨ds35, ⟨ds36, ⟨ds37, ⟨ds38, ⟨ds39, ⟨ds40, ⟨ds41, ⟨ds42, fun _ h => nomatch h⟩⟩⟩⟩⟩⟩⟩⟩⟩⟩⟩⟩⟩⟩⟩⟩⟩⟩⟩⟩⟩⟩⟩⟩⟩⟩⟩⟩⟩⟩⟩⟩⟩⟩⟩⟩⟩⟩⟩⟩⟩⟩⟩
theorem kw_all : ∀ p ∈ tab.kw, ∃ f d, posOf p.1.1 tab.fs = some f ∧ dfs[f]? = some d ∧ d.nm = p.1.1 ∧ KwSt d p.1.2 p.2 := by
  exact fun _ h => nomatch h
abbrev G (k : Nat) : Fs := callN (prgOf tab dfs) k
theorem p26 : prgOf tab dfs 26 = some penFn := by kernel_rfl
theorem p25 : prgOf tab dfs 25 = some cellAtFn := by kernel_rfl
theorem p27 : prgOf tab dfs 27 = some drawFn := by kernel_rfl
theorem p28 : prgOf tab dfs 28 = some (pickFn 27) := by kernel_rfl
theorem p34 : prgOf tab dfs 34 = some (lawFreeFn 27 28) := by kernel_rfl
theorem p35 : prgOf tab dfs 35 = some lawLeftFn := by kernel_rfl
theorem p2 : prgOf tab dfs 2 = some isLongFn := by kernel_rfl
theorem p0 : prgOf tab dfs 0 = some isWholeFn := by kernel_rfl
theorem p3 : prgOf tab dfs 3 = some (areCountsFn 2 0) := by kernel_rfl
theorem p10 : prgOf tab dfs 10 = some (needRisesFn 3) := by kernel_rfl
theorem p1 : prgOf tab dfs 1 = some (isWithinFn 0) := by kernel_rfl
theorem p11 : prgOf tab dfs 11 = some (needPlaceFn 1) := by kernel_rfl
theorem p12 : prgOf tab dfs 12 = some countedFn := by kernel_rfl
theorem p13 : prgOf tab dfs 13 = some hangTogetherFn := by kernel_rfl
theorem p14 : prgOf tab dfs 14 = some (crossingsByFn 12 13) := by kernel_rfl
theorem p15 : prgOf tab dfs 15 = some (crossingsFn 10 11 14) := by kernel_rfl
theorem p39 : prgOf tab dfs 39 = some lawAddedFn := by kernel_rfl
theorem p40 : prgOf tab dfs 40 = some (lawFreeRightFn 34 27 28 35 15 39) := by kernel_rfl
theorem p16 : prgOf tab dfs 16 = some (allEndsFn 10 14) := by kernel_rfl
theorem p41 : prgOf tab dfs 41 = some (lawEndsRightFn 27 16 15) := by kernel_rfl
theorem p36 : prgOf tab dfs 36 = some (lawRowsFn 27 34 35) := by kernel_rfl
theorem p30 : prgOf tab dfs 30 = some lawLetFn := by kernel_rfl
theorem p32 : prgOf tab dfs 32 = some (lawStepsFn 30) := by kernel_rfl
theorem p31 : prgOf tab dfs 31 = some lawStepFn := by kernel_rfl
theorem p33 : prgOf tab dfs 33 = some (walkFn 27 32 28 31) := by kernel_rfl
theorem p4 : prgOf tab dfs 4 = some (isStandFn 2 3 1) := by kernel_rfl
theorem p5 : prgOf tab dfs 5 = some (needStandFn 4) := by kernel_rfl
theorem p6 : prgOf tab dfs 6 = some (isStepFn 0) := by kernel_rfl
theorem p17 : prgOf tab dfs 17 = some (isWalkFn 6) := by kernel_rfl
theorem p18 : prgOf tab dfs 18 = some (needWalkFn 17) := by kernel_rfl
theorem p7 : prgOf tab dfs 7 = some isLetFn := by kernel_rfl
theorem p8 : prgOf tab dfs 8 = some raisedFn := by kernel_rfl
theorem p9 : prgOf tab dfs 9 = some (stepByFn 8) := by kernel_rfl
theorem p19 : prgOf tab dfs 19 = some (barByFn 7 9) := by kernel_rfl
theorem p20 : prgOf tab dfs 20 = some (needDoneFn 5 18 19) := by kernel_rfl
theorem p21 : prgOf tab dfs 21 = some (behindByFn 9) := by kernel_rfl
theorem p22 : prgOf tab dfs 22 = some (behindFn 20 21) := by kernel_rfl
theorem p37 : prgOf tab dfs 37 = some lawRisenFn := by kernel_rfl
theorem p23 : prgOf tab dfs 23 = some placesOfFn := by kernel_rfl
theorem p24 : prgOf tab dfs 24 = some (spanFn 20 23) := by kernel_rfl
theorem p38 : prgOf tab dfs 38 = some (lawGroundRightFn 33 22 37 15 35 16 24) := by kernel_rfl
theorem p29 : prgOf tab dfs 29 = some (standFn 27 28) := by kernel_rfl
theorem p42 : prgOf tab dfs 42 = some (law80Fn 26 25 40 27 41 36 38 29) := by kernel_rfl
theorem h26 (k : Nat) : PPen (G (k + 1)) 26 := fun v => by have e : ∀ xs, G (k + 1) 26 xs = runF (G k) penFn xs := fun xs => callN_of p26; rw [e]; exact pen_run _ v
theorem h25 (k : Nat) : PCell (G (k + 1)) 25 := fun ns i q => by have e : ∀ xs, G (k + 1) 25 xs = runF (G k) cellAtFn xs := fun xs => callN_of p25; rw [e]; exact cell_run _ q
theorem h27 (k : Nat) : PDraw (G (k + 1)) 27 := fun x m q1 q2 q3 => by have e : ∀ xs, G (k + 1) 27 xs = runF (G k) drawFn xs := fun xs => callN_of p27; rw [e]; exact draw_run _ q1 q2 q3
theorem h28 (k : Nat) : PPick (G (k + 2)) 28 := fun x y xs q1 q2 q3 q4 => by have e : ∀ xs, G (k + 2) 28 xs = runF (G (k + 1)) (pickFn 27) xs := fun xs => callN_of p28; rw [e]; exact pick_run (h27 k) q1 q2 q3 q4
theorem h34 (k : Nat) : PFree (G (k + 3)) 34 := fun x n m q1 q2 q3 q4 q5 => by have e : ∀ xs, G (k + 3) 34 xs = runF (G (k + 2)) (lawFreeFn 27 28) xs := fun xs => callN_of p34; rw [e]; exact free_run (h27 (k + 1)) (h28 k) q1 q2 q3 q4 q5
theorem h35 (k : Nat) : PLeftW (G (k + 1)) 35 := fun n p ws q1 q2 q3 q4 q5 => by have e : ∀ xs, G (k + 1) 35 xs = runF (G k) lawLeftFn xs := fun xs => callN_of p35; rw [e]; exact leftW_run _ q1 q2 q3 q4 q5
theorem h2 (k : Nat) : PLong (G (k + 1)) 2 := fun xs a b q1 q2 => by have e : ∀ xs, G (k + 1) 2 xs = runF (G k) isLongFn xs := fun xs => callN_of p2; rw [e]; exact long_run _ q1 q2
theorem h0 (k : Nat) : PWhole (G (k + 1)) 0 := fun d => by have e : ∀ xs, G (k + 1) 0 xs = runF (G k) isWholeFn xs := fun xs => callN_of p0; rw [e]; exact whole_run _ d
theorem h3 (k : Nat) : PCounts (G (k + 2)) 3 := fun hs q => by have e : ∀ xs, G (k + 2) 3 xs = runF (G (k + 1)) (areCountsFn 2 0) xs := fun xs => callN_of p3; rw [e]; exact counts_run (h2 k) (h0 k) q
theorem h10 (k : Nat) : PNeedRises (G (k + 3)) 10 := fun hs q => by have e : ∀ xs, G (k + 3) 10 xs = runF (G (k + 2)) (needRisesFn 3) xs := fun xs => callN_of p10; rw [e]; exact needRises_run (h3 k) q
theorem h1 (k : Nat) : PWithin (G (k + 2)) 1 := fun i a b q1 q2 => by have e : ∀ xs, G (k + 2) 1 xs = runF (G (k + 1)) (isWithinFn 0) xs := fun xs => callN_of p1; rw [e]; exact within_run (h0 k) q1 q2
theorem h11 (k : Nat) : PNeedPlace (G (k + 3)) 11 := fun n p q1 q2 => by have e : ∀ xs, G (k + 3) 11 xs = runF (G (k + 2)) (needPlaceFn 1) xs := fun xs => callN_of p11; rw [e]; exact needPlace_run (h1 k) q1 q2
theorem h12 (k : Nat) : PCounted (G (k + 1)) 12 := fun rs b e q => by have e : ∀ xs, G (k + 1) 12 xs = runF (G k) countedFn xs := fun xs => callN_of p12; rw [e]; exact counted_run _ q
theorem h13 (k : Nat) : PHang (G (k + 1)) 13 := fun xs b e q => by have e : ∀ xs, G (k + 1) 13 xs = runF (G k) hangTogetherFn xs := fun xs => callN_of p13; rw [e]; exact hang_run _ q
theorem h14 (k : Nat) : PCrossBy (G (k + 2)) 14 := fun rs b e q1 q2 => by have e : ∀ xs, G (k + 2) 14 xs = runF (G (k + 1)) (crossingsByFn 12 13) xs := fun xs => callN_of p14; rw [e]; exact crossBy_run (h12 k) (h13 k) q1 q2
theorem h15 (k : Nat) : PCross (G (k + 4)) 15 := fun rs b e q1 q2 q3 q4 q5 => by have e : ∀ xs, G (k + 4) 15 xs = runF (G (k + 3)) (crossingsFn 10 11 14) xs := fun xs => callN_of p15; rw [e]; exact cross_run (h10 k) (h11 k) (h14 (k + 1)) q1 q2 q3 q4 q5
theorem h39 (k : Nat) : PAdded (G (k + 1)) 39 := fun hs gs q1 => by have e : ∀ xs, G (k + 1) 39 xs = runF (G k) lawAddedFn xs := fun xs => callN_of p39; rw [e]; exact added_run _ q1
theorem h40 (k : Nat) : PFreeRight (G (k + 5)) 40 := fun x n q1 q2 q3 => by have e : ∀ xs, G (k + 5) 40 xs = runF (G (k + 4)) (lawFreeRightFn 34 27 28 35 15 39) xs := fun xs => callN_of p40; rw [e]; exact freeRight_run (h34 (k + 1)) (h27 (k + 3)) (h28 (k + 2)) (h35 (k + 3)) (h15 k) (h39 (k + 3)) q1 q2 q3
theorem h16 (k : Nat) : PEnds (G (k + 4)) 16 := fun rs q => by have e : ∀ xs, G (k + 4) 16 xs = runF (G (k + 3)) (allEndsFn 10 14) xs := fun xs => callN_of p16; rw [e]; exact ends_run (h10 k) (h14 (k + 1)) q
theorem h41 (k : Nat) : PEndsRight (G (k + 5)) 41 := fun x rs q1 q2 => by have e : ∀ xs, G (k + 5) 41 xs = runF (G (k + 4)) (lawEndsRightFn 27 16 15) xs := fun xs => callN_of p41; rw [e]; exact endsRight_run (h27 (k + 3)) (h16 k) (h15 k) q1 q2
theorem h36 (k : Nat) : PRises (G (k + 4)) 36 := fun x q => by have e : ∀ xs, G (k + 4) 36 xs = runF (G (k + 3)) (lawRowsFn 27 34 35) xs := fun xs => callN_of p36; rw [e]; exact rises_run (h27 (k + 2)) (h34 k) (h35 (k + 2)) q
theorem h30 (k : Nat) : PLet (G (k + 1)) 30 := fun p hs s q => by have e : ∀ xs, G (k + 1) 30 xs = runF (G k) lawLetFn xs := fun xs => callN_of p30; rw [e]; exact lawLet_run _ q
theorem h32 (k : Nat) : PLawSteps (G (k + 2)) 32 := fun p hs q => by have e : ∀ xs, G (k + 2) 32 xs = runF (G (k + 1)) (lawStepsFn 30) xs := fun xs => callN_of p32; rw [e]; exact lawSteps_run (h30 k) q
theorem h31 (k : Nat) : PStepBy (G (k + 1)) 31 := fun p hs s q => by have e : ∀ xs, G (k + 1) 31 xs = runF (G k) lawStepFn xs := fun xs => callN_of p31; rw [e]; exact lawStep_run _ q
theorem h33 (k : Nat) : PWalk (G (k + 3)) 33 := fun x p hs m q1 q2 q3 q4 => by have e : ∀ xs, G (k + 3) 33 xs = runF (G (k + 2)) (walkFn 27 32 28 31) xs := fun xs => callN_of p33; rw [e]; exact walk_run (h27 (k + 1)) (h32 k) (h28 k) (h31 (k + 1)) q1 q2 q3 q4
theorem h4 (k : Nat) : PStand (G (k + 3)) 4 := fun p hs q => by have e : ∀ xs, G (k + 3) 4 xs = runF (G (k + 2)) (isStandFn 2 3 1) xs := fun xs => callN_of p4; rw [e]; exact stand_run (h2 (k + 1)) (h3 k) (h1 k) q
theorem h5 (k : Nat) : PNeed (G (k + 4)) 5 := fun p hs q => by have e : ∀ xs, G (k + 4) 5 xs = runF (G (k + 3)) (needStandFn 4) xs := fun xs => callN_of p5; rw [e]; exact need_run (h4 k) q
theorem h6 (k : Nat) : PIsStep (G (k + 2)) 6 := fun s q => by have e : ∀ xs, G (k + 2) 6 xs = runF (G (k + 1)) (isStepFn 0) xs := fun xs => callN_of p6; rw [e]; exact isStep_run (h0 k) q
theorem h17 (k : Nat) : PIsWalk (G (k + 3)) 17 := fun ws q1 q2 => by have e : ∀ xs, G (k + 3) 17 xs = runF (G (k + 2)) (isWalkFn 6) xs := fun xs => callN_of p17; rw [e]; exact isWalk_run (h6 k) q1 q2
theorem h18 (k : Nat) : PNeedWalk (G (k + 4)) 18 := fun ws q1 q2 => by have e : ∀ xs, G (k + 4) 18 xs = runF (G (k + 3)) (needWalkFn 17) xs := fun xs => callN_of p18; rw [e]; exact needWalk_run (h17 k) q1 q2
theorem h7 (k : Nat) : PLet (G (k + 1)) 7 := fun p hs s q => by have e : ∀ xs, G (k + 1) 7 xs = runF (G k) isLetFn xs := fun xs => callN_of p7; rw [e]; exact let_run _ q
theorem h8 (k : Nat) : PRaised (G (k + 1)) 8 := fun p hs q => by have e : ∀ xs, G (k + 1) 8 xs = runF (G k) raisedFn xs := fun xs => callN_of p8; rw [e]; exact raised_run _ q
theorem h9 (k : Nat) : PStepBy (G (k + 2)) 9 := fun p hs s q => by have e : ∀ xs, G (k + 2) 9 xs = runF (G (k + 1)) (stepByFn 8) xs := fun xs => callN_of p9; rw [e]; exact stepBy_run (h8 k) q
theorem h19 (k : Nat) : PBar (G (k + 3)) 19 := fun p hs ws q1 q2 q3 => by have e : ∀ xs, G (k + 3) 19 xs = runF (G (k + 2)) (barByFn 7 9) xs := fun xs => callN_of p19; rw [e]; exact barBy_run (h7 (k + 1)) (h9 k) q1
theorem h20 (k : Nat) : PNeedDone (G (k + 5)) 20 := fun p hs ws q1 q2 q3 => by have e : ∀ xs, G (k + 5) 20 xs = runF (G (k + 4)) (needDoneFn 5 18 19) xs := fun xs => callN_of p20; rw [e]; exact needDone_run (h5 k) (h18 k) (h19 (k + 1)) q1 q2 q3
theorem h21 (k : Nat) : PBehind (G (k + 3)) 21 := fun p hs ws q1 q2 => by have e : ∀ xs, G (k + 3) 21 xs = runF (G (k + 2)) (behindByFn 9) xs := fun xs => callN_of p21; rw [e]; exact behind_run (h9 k) q1 q2
theorem h22 (k : Nat) : PBehindR (G (k + 6)) 22 := fun p hs ws q1 q2 q3 => by have e : ∀ xs, G (k + 6) 22 xs = runF (G (k + 5)) (behindFn 20 21) xs := fun xs => callN_of p22; rw [e]; exact behindR_run (h20 k) (h21 (k + 2)) q1 q2 q3
theorem h37 (k : Nat) : PRisen (G (k + 1)) 37 := fun p hs q gs q1 => by have e : ∀ xs, G (k + 1) 37 xs = runF (G k) lawRisenFn xs := fun xs => callN_of p37; rw [e]; exact risen_run _ q1
theorem h23 (k : Nat) : PPlaces (G (k + 1)) 23 := fun p ws q => by have e : ∀ xs, G (k + 1) 23 xs = runF (G k) placesOfFn xs := fun xs => callN_of p23; rw [e]; exact places_run _ q
theorem h24 (k : Nat) : PSpan (G (k + 6)) 24 := fun p hs ws q1 q2 q3 => by have e : ∀ xs, G (k + 6) 24 xs = runF (G (k + 5)) (spanFn 20 23) xs := fun xs => callN_of p24; rw [e]; exact span_run (h20 k) (h23 (k + 4)) q1 q2 q3
theorem h38 (k : Nat) : PGroundRight (G (k + 7)) 38 := fun x p hs q1 q2 => by have e : ∀ xs, G (k + 7) 38 xs = runF (G (k + 6)) (lawGroundRightFn 33 22 37 15 35 16 24) xs := fun xs => callN_of p38; rw [e]; exact groundRight_run (h33 (k + 3)) (h22 k) (h37 (k + 5)) (h15 (k + 2)) (h35 (k + 5)) (h16 (k + 2)) (h24 k) q1 q2
theorem h29 (k : Nat) : PStandDraw (G (k + 3)) 29 := fun x m hi q1 q2 q3 q4 q5 => by have e : ∀ xs, G (k + 3) 29 xs = runF (G (k + 2)) (standFn 27 28) xs := fun xs => callN_of p29; rw [e]; exact standDraw_run (h27 (k + 1)) (h28 k) q1 q2 q3 q4 q5
theorem law_runs (ns : List Int) : ∃ ps, callN (prgOf tab dfs) 8 42 [.scr ns] = some (.fz (.bool true), ps) := by
  have e : callN (prgOf tab dfs) 8 42 [.scr ns] = runF (G 7) (law80Fn 26 25 40 27 41 36 38 29) [.scr ns] := callN_of p42
  rw [e]
  exact law80_run (h26 6) (h25 6) (h40 2) (h27 6) (h41 2) (h36 3) (h38 0) (h29 4) ns
theorem env {K : PySem.W.Frag} {h : Heap} {mg : Str → Option Value} (KX : K.In h) (G : h.Ns mainGlobals mg)
    (f0 : DfFact K "is_whole" (top 13)) (f1 : DfFact K "is_within" (top 14)) (f2 : DfFact K "is_long" (top 15))
    (f3 : DfFact K "are_counts" (top 16)) (f4 : DfFact K "is_stand" (top 17)) (f5 : DfFact K "need_stand" (top 18))
    (f6 : DfFact K "is_step" (top 19)) (f7 : DfFact K "is_let" (top 20)) (f8 : DfFact K "raised" (top 21))
    (f9 : DfFact K "step_by" (top 22)) (f10 : DfFact K "need_rises" (top 24)) (f11 : DfFact K "need_place" (top 25))
    (f12 : DfFact K "counted" (top 26)) (f13 : DfFact K "hang_together" (top 27)) (f14 : DfFact K "crossings_by" (top 28))
    (f15 : DfFact K "crossings" (top 29)) (f16 : DfFact K "all_ends" (top 30)) (f17 : DfFact K "is_walk" (top 32))
    (f18 : DfFact K "need_walk" (top 33)) (f19 : DfFact K "bar_by" (top 34)) (f20 : DfFact K "need_done" (top 35))
    (f21 : DfFact K "behind_by" (top 36)) (f22 : DfFact K "behind" (top 37)) (f23 : DfFact K "places_of" (top 38))
    (f24 : DfFact K "span" (top 39)) (f25 : DfFact K "_law_cell_at" (top 41)) (f26 : DfFact K "_law_pen" (top 42))
    (f27 : DfFact K "_law_draw" (top 43)) (f28 : DfFact K "_law_pick" (top 44)) (f29 : DfFact K "_law_stand" (top 45))
    (f30 : DfFact K "_law_let" (top 46)) (f31 : DfFact K "_law_step" (top 47)) (f32 : DfFact K "_law_steps" (top 48))
    (f33 : DfFact K "_law_walk" (top 49)) (f34 : DfFact K "_law_free" (top 50)) (f35 : DfFact K "_law_left" (top 51))
    (f36 : DfFact K "_law_rows" (top 52)) (f37 : DfFact K "_law_risen" (top 53)) (f38 : DfFact K "_law_ground_right" (top 54))
    (f39 : DfFact K "_law_added" (top 55)) (f40 : DfFact K "_law_free_right" (top 56)) (f41 : DfFact K "_law_ends_right" (top 57))
    (f42 : DfFact K "law" (top 58)) (b_len : PySem.W.nsIn K mainGlobals "len" = some none) (b_abs : PySem.W.nsIn K mainGlobals "abs" = some none)
    (b_max : PySem.W.nsIn K mainGlobals "max" = some none) (b_min : PySem.W.nsIn K mainGlobals "min" = some none) (b_sum : PySem.W.nsIn K mainGlobals "sum" = some none)
    (b_int : PySem.W.nsIn K mainGlobals "int" = some none) (b_str : PySem.W.nsIn K mainGlobals "str" = some none) (b_repr : PySem.W.nsIn K mainGlobals "repr" = some none)
    (b_list : PySem.W.nsIn K mainGlobals "list" = some none) (b_tuple : PySem.W.nsIn K mainGlobals "tuple" = some none) (b_sorted : PySem.W.nsIn K mainGlobals "sorted" = some none)
    (b_all : PySem.W.nsIn K mainGlobals "all" = some none) (b_isinstance : PySem.W.nsIn K mainGlobals "isinstance" = some none) (b_bool : PySem.W.nsIn K mainGlobals "bool" = some none)
    (b_range : PySem.W.nsIn K mainGlobals "range" = some none) (b_enumerate : PySem.W.nsIn K mainGlobals "enumerate" = some none) (b_zip : PySem.W.nsIn K mainGlobals "zip" = some none)
    (b_divmod : PySem.W.nsIn K mainGlobals "divmod" = some none) (c_FEWEST_PLACES : ConFact mg K "FEWEST_PLACES" (.int (2))) (c_MOST_PLACES : ConFact mg K "MOST_PLACES" (.int (5)))
    (c_STEPS : ConFact mg K "STEPS" (.tuple [(.int (-1)), (.int (1))]))
    : Env1 K mg tab dfs := by
  refine env_of KX G rfl ds_all ?_ kw_all ?_ ?_
  · simp only [dfs, List.forall_mem_cons]
    exact ⟨f0, ⟨f1, ⟨f2, ⟨f3, ⟨f4, ⟨f5, ⟨f6, ⟨f7, ⟨f8, ⟨f9, ⟨f10, ⟨f11, ⟨f12, ⟨f13, ⟨f14, ⟨f15, ⟨f16, ⟨f17, ⟨f18, ⟨f19, ⟨f20, ⟨f21, ⟨f22, ⟨f23, ⟨f24, ⟨f25, ⟨f26, ⟨f27, ⟨f28, ⟨f29, ⟨f30, ⟨f31, ⟨f32, ⟨f33, ⟨f34, ⟨f35, ⟨f36, ⟨f37, ⟨f38, ⟨f39, ⟨f40, ⟨f41, ⟨f42, fun _ h => nomatch h⟩⟩⟩⟩⟩⟩⟩⟩⟩⟩⟩⟩⟩⟩⟩⟩⟩⟩⟩⟩⟩⟩⟩⟩⟩⟩⟩⟩⟩⟩⟩⟩⟩⟩⟩⟩⟩⟩⟩⟩⟩⟩⟩
  · simp only [bNames, List.forall_mem_cons]
    exact ⟨b_len, ⟨b_abs, ⟨b_max, ⟨b_min, ⟨b_sum, ⟨b_int, ⟨b_str, ⟨b_repr, ⟨b_list, ⟨b_tuple, ⟨b_sorted, ⟨b_all, ⟨b_isinstance, ⟨b_bool, ⟨b_range, ⟨b_enumerate, ⟨b_zip, ⟨b_divmod, fun _ h => nomatch h⟩⟩⟩⟩⟩⟩⟩⟩⟩⟩⟩⟩⟩⟩⟩⟩⟩⟩
  · simp only [tab, List.forall_mem_cons]
    exact ⟨c_FEWEST_PLACES, ⟨c_MOST_PLACES, ⟨c_STEPS, fun _ h => nomatch h⟩⟩⟩
end Lawk80

set_option maxRecDepth 1000000
set_option maxHeartbeats 0 in
open PySem PySem.W PyProof.Rows in
theorem PySem.Challenge.cw_treadrise_k80_whole_the_ground_tells_eac_holds : PySem.Challenge.rw_treadrise_k80_whole_the_ground_tells_eac.Holds := by
  w_on; o_law; k_head; (case hw => w_witness2)
  k_fill
  refine Tr.walkT (l := PySem.Challenge.rw_treadrise_k80_whole_the_ground_tells_eac) (n := 63) (k := 8) (x := "_law_script") (T := Lawk80.tab) (ds := Lawk80.dfs) (f := 42) (df := Lawk80.df42) rfl (by decide) rfl ⟨rfl, by decide, by decide⟩ (fun w h Y => PySem.W.kIn_of Y) rfl rfl rfl (fun _ _ _ _ _ _ _ => rfl) (fun ns _ _ => Lawk80.law_runs ns) ?F
  case F =>
    intro w mg h KX G
    refine' Lawk80.env KX G ?f0 ?f1 ?f2 ?f3 ?f4 ?f5 ?f6 ?f7 ?f8 ?f9 ?f10 ?f11 ?f12 ?f13 ?f14 ?f15 ?f16 ?f17 ?f18 ?f19 ?f20 ?f21 ?f22 ?f23 ?f24 ?f25 ?f26 ?f27 ?f28 ?f29 ?f30 ?f31 ?f32 ?f33 ?f34 ?f35 ?f36 ?f37 ?f38 ?f39 ?f40 ?f41 ?f42 ?b_len ?b_abs ?b_max ?b_min ?b_sum ?b_int ?b_str ?b_repr ?b_list ?b_tuple ?b_sorted ?b_all ?b_isinstance ?b_bool ?b_range ?b_enumerate ?b_zip ?b_divmod ?c_FEWEST_PLACES ?c_MOST_PLACES ?c_STEPS
    (case f0 => refine' Tr.df_fact ?a ?l ?c ?k; (case a => k_is); (case l => k_is); (case c => k_is); (case k => k_is))
    (case f1 => refine' Tr.df_fact ?a ?l ?c ?k; (case a => k_is); (case l => k_is); (case c => k_is); (case k => k_is))
    (case f2 => refine' Tr.df_fact ?a ?l ?c ?k; (case a => k_is); (case l => k_is); (case c => k_is); (case k => k_is))
    (case f3 => refine' Tr.df_fact ?a ?l ?c ?k; (case a => k_is); (case l => k_is); (case c => k_is); (case k => k_is))
    (case f4 => refine' Tr.df_fact ?a ?l ?c ?k; (case a => k_is); (case l => k_is); (case c => k_is); (case k => k_is))
    (case f5 => refine' Tr.df_fact ?a ?l ?c ?k; (case a => k_is); (case l => k_is); (case c => k_is); (case k => k_is))
    (case f6 => refine' Tr.df_fact ?a ?l ?c ?k; (case a => k_is); (case l => k_is); (case c => k_is); (case k => k_is))
    (case f7 => refine' Tr.df_fact ?a ?l ?c ?k; (case a => k_is); (case l => k_is); (case c => k_is); (case k => k_is))
    (case f8 => refine' Tr.df_fact ?a ?l ?c ?k; (case a => k_is); (case l => k_is); (case c => k_is); (case k => k_is))
    (case f9 => refine' Tr.df_fact ?a ?l ?c ?k; (case a => k_is); (case l => k_is); (case c => k_is); (case k => k_is))
    (case f10 => refine' Tr.df_fact ?a ?l ?c ?k; (case a => k_is); (case l => k_is); (case c => k_is); (case k => k_is))
    (case f11 => refine' Tr.df_fact ?a ?l ?c ?k; (case a => k_is); (case l => k_is); (case c => k_is); (case k => k_is))
    (case f12 => refine' Tr.df_fact ?a ?l ?c ?k; (case a => k_is); (case l => k_is); (case c => k_is); (case k => k_is))
    (case f13 => refine' Tr.df_fact ?a ?l ?c ?k; (case a => k_is); (case l => k_is); (case c => k_is); (case k => k_is))
    (case f14 => refine' Tr.df_fact ?a ?l ?c ?k; (case a => k_is); (case l => k_is); (case c => k_is); (case k => k_is))
    (case f15 => refine' Tr.df_fact ?a ?l ?c ?k; (case a => k_is); (case l => k_is); (case c => k_is); (case k => k_is))
    (case f16 => refine' Tr.df_fact ?a ?l ?c ?k; (case a => k_is); (case l => k_is); (case c => k_is); (case k => k_is))
    (case f17 => refine' Tr.df_fact ?a ?l ?c ?k; (case a => k_is); (case l => k_is); (case c => k_is); (case k => k_is))
    (case f18 => refine' Tr.df_fact ?a ?l ?c ?k; (case a => k_is); (case l => k_is); (case c => k_is); (case k => k_is))
    (case f19 => refine' Tr.df_fact ?a ?l ?c ?k; (case a => k_is); (case l => k_is); (case c => k_is); (case k => k_is))
    (case f20 => refine' Tr.df_fact ?a ?l ?c ?k; (case a => k_is); (case l => k_is); (case c => k_is); (case k => k_is))
    (case f21 => refine' Tr.df_fact ?a ?l ?c ?k; (case a => k_is); (case l => k_is); (case c => k_is); (case k => k_is))
    (case f22 => refine' Tr.df_fact ?a ?l ?c ?k; (case a => k_is); (case l => k_is); (case c => k_is); (case k => k_is))
    (case f23 => refine' Tr.df_fact ?a ?l ?c ?k; (case a => k_is); (case l => k_is); (case c => k_is); (case k => k_is))
    (case f24 => refine' Tr.df_fact ?a ?l ?c ?k; (case a => k_is); (case l => k_is); (case c => k_is); (case k => k_is))
    (case f25 => refine' Tr.df_fact ?a ?l ?c ?k; (case a => k_is); (case l => k_is); (case c => k_is); (case k => k_is))
    (case f26 => refine' Tr.df_fact ?a ?l ?c ?k; (case a => k_is); (case l => k_is); (case c => k_is); (case k => k_is))
    (case f27 => refine' Tr.df_fact ?a ?l ?c ?k; (case a => k_is); (case l => k_is); (case c => k_is); (case k => k_is))
    (case f28 => refine' Tr.df_fact ?a ?l ?c ?k; (case a => k_is); (case l => k_is); (case c => k_is); (case k => k_is))
    (case f29 => refine' Tr.df_fact ?a ?l ?c ?k; (case a => k_is); (case l => k_is); (case c => k_is); (case k => k_is))
    (case f30 => refine' Tr.df_fact ?a ?l ?c ?k; (case a => k_is); (case l => k_is); (case c => k_is); (case k => k_is))
    (case f31 => refine' Tr.df_fact ?a ?l ?c ?k; (case a => k_is); (case l => k_is); (case c => k_is); (case k => k_is))
    (case f32 => refine' Tr.df_fact ?a ?l ?c ?k; (case a => k_is); (case l => k_is); (case c => k_is); (case k => k_is))
    (case f33 => refine' Tr.df_fact ?a ?l ?c ?k; (case a => k_is); (case l => k_is); (case c => k_is); (case k => k_is))
    (case f34 => refine' Tr.df_fact ?a ?l ?c ?k; (case a => k_is); (case l => k_is); (case c => k_is); (case k => k_is))
    (case f35 => refine' Tr.df_fact ?a ?l ?c ?k; (case a => k_is); (case l => k_is); (case c => k_is); (case k => k_is))
    (case f36 => refine' Tr.df_fact ?a ?l ?c ?k; (case a => k_is); (case l => k_is); (case c => k_is); (case k => k_is))
    (case f37 => refine' Tr.df_fact ?a ?l ?c ?k; (case a => k_is); (case l => k_is); (case c => k_is); (case k => k_is))
    (case f38 => refine' Tr.df_fact ?a ?l ?c ?k; (case a => k_is); (case l => k_is); (case c => k_is); (case k => k_is))
    (case f39 => refine' Tr.df_fact ?a ?l ?c ?k; (case a => k_is); (case l => k_is); (case c => k_is); (case k => k_is))
    (case f40 => refine' Tr.df_fact ?a ?l ?c ?k; (case a => k_is); (case l => k_is); (case c => k_is); (case k => k_is))
    (case f41 => refine' Tr.df_fact ?a ?l ?c ?k; (case a => k_is); (case l => k_is); (case c => k_is); (case k => k_is))
    (case f42 => refine' Tr.df_fact ?a ?l ?c ?k; (case a => k_is); (case l => k_is); (case c => k_is); (case k => k_is))
    (case b_len => k_is)
    (case b_abs => k_is)
    (case b_max => k_is)
    (case b_min => k_is)
    (case b_sum => k_is)
    (case b_int => k_is)
    (case b_str => k_is)
    (case b_repr => k_is)
    (case b_list => k_is)
    (case b_tuple => k_is)
    (case b_sorted => k_is)
    (case b_all => k_is)
    (case b_isinstance => k_is)
    (case b_bool => k_is)
    (case b_range => k_is)
    (case b_enumerate => k_is)
    (case b_zip => k_is)
    (case b_divmod => k_is)
    (case c_FEWEST_PLACES => refine' Tr.con_int (PySem.W.mg_of KX G ?a); (case a => k_is))
    (case c_MOST_PLACES => refine' Tr.con_int (PySem.W.mg_of KX G ?a); (case a => k_is))
    (case c_STEPS => refine' Tr.con_tup2 (PySem.W.mg_of KX G ?a) ?l; (case a => k_is); (case l => k_is))

