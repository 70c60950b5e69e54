import PyProof.Rows.All
import Wide.All
import OpenK.AllK
import Wide.FinOn
import HandS.ForMost
import HandS.Zip
import HandS.Star
import HandS.Style
import HandS.IsInst
import HandS.DictComp
import HandS.OwnEq
import HandS.Defaults
import HandS.NoneIn
import HandS.WideBits
import HandS.TupAny
import HandS.SortKw
import HandS.Deep
import KE.KDictZip
import KE.KMinBuiltin
import HandS.Walk
import HandS.Codes
import PySem.Challenge.RW_keptlamps_k39_whole_threes_of_the_top_cl
set_option Elab.async false
set_option maxRecDepth 100000
namespace K39
abbrev Gate := List Nat × Nat × Nat

def underM : Nat → List Nat → Nat → Nat → Nat → List Gate
  | 0, bs, a, b, c => [(bs, a, b), (bs, a, c)]
  | k + 1, bs, a, b, c =>
    if bs.length < 2 then [(bs, a, b), (bs, a, c)]
    else
      let inner := underM k bs.dropLast a c b
      let g : Gate := ([bs.getLastD 0], a, b)
      inner ++ (g :: (inner.reverse ++ [g]))

def restM (n u v w : Nat) : List Nat := (List.range n).filter fun l => !(l == u || l == v || l == w)
def sixM : List (Nat × Nat × Nat × Nat) := [(0, 1, 2, 3), (1, 0, 2, 3), (0, 1, 3, 2), (2, 0, 1, 3), (3, 0, 1, 2), (2, 0, 3, 1)]
/-- called: 3 -> u, 0 -> v, 1 -> w, 2 -> r -/
def calM (u v w r : Nat) : Nat → Nat
  | 0 => v
  | 1 => w
  | 2 => r
  | _ => u
def topM (n u v w : Nat) : List Gate :=
  if n = 3 then [([v], u, w), ([u], v, w)]
  else if n = 4 then
    let r := (restM n u v w).headD 0
    (sixM.map fun t => underM 4 [calM u v w r t.1] (calM u v w r t.2.1) (calM u v w r t.2.2.1) (calM u v w r t.2.2.2)).flatten
  else
    let p := (restM n u v w).getD 0 0
    let q := (restM n u v w).getD 1 0
    let one := underM 4 (restM n u p w) u p w
    let other := underM 4 (restM n u q v) u q v
    one ++ (other ++ (one.reverse ++ (other.reverse ++ [])))

def keptM (g : Gate) : Gate := (g.1, min g.2.1 g.2.2, max g.2.1 g.2.2)
def litM (row : Nat) (l : Nat) : Bool := (row >>> l) &&& 1 == 1
def stepM (row : Nat) (g : Gate) : Nat :=
  if g.1.all (litM row) && ((row >>> g.2.1) ^^^ (row >>> g.2.2)) &&& 1 == 1 then row ^^^ ((1 <<< g.2.1) ||| (1 <<< g.2.2)) else row
def runM (gs : List Gate) (row : Nat) : Nat := gs.foldl stepM row

def okGate (n : Nat) (g : Gate) : Bool :=
  decide (g.1.length ≤ 1) && decide (g.2.1 ≠ g.2.2) && decide (g.2.1 < n) && decide (g.2.2 < n) && g.1.all fun h => decide (h < n) && decide (h ≠ g.2.1) && decide (h ≠ g.2.2)

def rowOf (n l : Nat) : Nat := ((1 <<< n) - 1) ^^^ (1 <<< l)
def ledM (n u v w row : Nat) : Nat :=
  if row = rowOf n u then rowOf n v else if row = rowOf n v then rowOf n w else if row = rowOf n w then rowOf n u else row
def checkM (n u v w : Nat) : Bool :=
  let gs := topM n u v w
  gs.all (okGate n) && decide (gs.length ≤ 1000) && (List.range (1 <<< n)).all fun row => runM (gs.map keptM) row == ledM n u v w row
def allM (n : Nat) : Bool :=
  (List.range n).all fun u => (List.range n).all fun v => (List.range n).all fun w => (u == v || u == w || v == w) || checkM n u v w
/-- how many lamps burn -/
def wtF : Nat → Nat → Nat
  | 0, _ => 0
  | k + 1, n => n % 2 + wtF k (n / 2)
theorem wtF_zero : ∀ k, wtF k 0 = 0
  | 0 => rfl
  | k + 1 => by
    show 0 % 2 + wtF k (0 / 2) = 0
    rw [Nat.zero_div, wtF_zero k]
end K39

set_option Elab.async false
set_option linter.all false
set_option maxRecDepth 100000
set_option maxHeartbeats 4000000
/-! rules of our own: t[::-1], extend by a tuple, sorted of a tuple, max with a default -/
namespace K39
open PySem PySem.Spec PyProof.Rows L2

/-! ### t[::-1] -/
section
variable {prog : Program} {w : World} {A : Around} {E : Value → Shared → Prop} {s : Shared}
theorem adj_rev (n : Nat) : Builtin.Slice.sliceAdjust none none (-1) (n : Int) = ((n : Int) - 1, -1) := by
  unfold Builtin.Slice.sliceAdjust
  simp
theorem pla_rev (n : Nat) : Builtin.Slice.slicePlaces ((n : Int) - 1) (-1) (-1) = n := by
  unfold Builtin.Slice.slicePlaces
  rw [if_neg (by decide)]
  by_cases h : n = 0
  · subst h
    simp
  · rw [if_pos (by omega)]
    simp
theorem applied_rev {sl : Addr} {vl vu vs : Value} {n : Nat} {Q : Int × Int × Nat → Shared → Prop} (hs : s.heap.IsSliceOf sl vl vu vs) (pl : IsPart vl none) (pu : IsPart vu none) (ps : IsPart vs (some (-1)))
    (h : Q ((n : Int) - 1, -1, n) s) : wpAny (model prog w) A (Builtin.Slice.sliceApplied (.ref sl) (pure (n : Int))) Q E s := by
  obtain ⟨oS, hoS, hcS, hdS⟩ := hs
  unfold Builtin.Slice.sliceApplied Builtin.Slice.sliceFields
  refine wpAny_bind (wpAny_bind (wpAny_field hoS hdS (x := vl) rfl (wpAny_bind (wpAny_field hoS hdS (x := vu) rfl (wpAny_bind (wpAny_field hoS hdS (x := vs) rfl (wpAny_pure ?_)))))))
  refine wpAny_bind (HT.slicePart_ ps ?_)
  show wpAny _ _ (if ((-1 : Int) == 0) = true then _ else _) _ _ s
  rw [if_neg (by decide)]
  refine wpAny_bind (HT.slicePart_ pl (wpAny_bind (HT.slicePart_ pu (wpAny_bind (wpAny_pure ?_)))))
  show wpAny _ _ (match Builtin.Slice.sliceAdjust none none (-1) (n : Int) with | (lo, hi) => pure (lo, (-1 : Int), Builtin.Slice.slicePlaces lo hi (-1))) _ _ s
  rw [adj_rev n]
  show wpAny _ _ (pure ((n : Int) - 1, (-1 : Int), Builtin.Slice.slicePlaces ((n : Int) - 1) (-1) (-1))) _ _ s
  rw [pla_rev]
  exact wpAny_pure h
theorem pick_rev (xs : Array Value) : ((List.range xs.size).filterMap fun (k : Nat) => xs[((xs.size : Int) - 1 + (k : Int) * (-1)).toNat]?).toArray = xs.toList.reverse.toArray := by
  have e : (fun (k : Nat) => xs[((xs.size : Int) - 1 + (k : Int) * (-1)).toNat]?) = (fun j => xs[j]?) ∘ (fun k => xs.size - 1 - k) := by
    funext k
    have : ((xs.size : Int) - 1 + (k : Int) * (-1)).toNat = xs.size - 1 - k := by omega
    show xs[((xs.size : Int) - 1 + (k : Int) * (-1)).toNat]? = xs[xs.size - 1 - k]?
    rw [this]
  rw [e, ← List.filterMap_map, PySem.W.krv_range, List.filterMap_reverse, PySem.W.krv_all]
theorem item_tuple_rev {t sl : Addr} {items : Array Value} {vl vu vs : Value} {Q : Value → Shared → Prop} (ht : IsTup s.heap t items) (hs : s.heap.IsSliceOf sl vl vu vs)
    (pl : IsPart vl none) (pu : IsPart vu none) (ps : IsPart vs (some (-1))) (hsz : items.size ≤ sizeLine)
    (h : Q (.ref s.heap.objs.size) { s with heap := s.heap.push { cls := .type "tuple", data := .seq items.toList.reverse.toArray } }) : wpAny (model prog w) A (getItem (.ref t) (.ref sl)) Q E s := by
  have fits : sizeOk (.seq items.toList.reverse.toArray) := by
    show items.toList.reverse.toArray.size ≤ sizeLine
    simpa using hsz
  obtain ⟨oS, hoS, hcS, hdS⟩ := id hs
  have tySl : s.TypeIs (.ref sl) "slice" := ⟨oS, hoS, hcS⟩
  unfold getItem
  try with_reducible refine wpAny_holding ?_
  first | refine wpAny_bind (wpAny_pure ?_) | skip
  refine wpAny_bind (wpAny_sequenceKey ht.typeIs (by decide) ?_)
  refine wpAny_bind (wpAny_callSpecial?_slot (name := Str.ofString "__getitem__") ht.typeIs PyProof.Rows.slot_tuple_getitem
    (wpAny_call_entry PyProof.Rows.slot_tuple_getitem ht.typeIs entry_tuple_getitem ?_ (args_tuple_getitem _ _)))
  show wpAny _ _ (Builtin.Tuple.tupleItemsOf (.ref t) >>= _) _ _ s
  refine wpAny_bind (tupleItemsOf_ ht ?_)
  refine wpAny_bind (wpAny_typeOf tySl ?_)
  rw [if_pos (by decide)]
  refine wpAny_bind (applied_rev (n := items.size) hs pl pu ps ?_)
  have no : ¬ ((((items.size : Int) - 1) == 0 && (-1 : Int) == 1 && items.size == items.size) = true) := by
    have z : ((-1 : Int) == 1) = false := by decide
    rw [z, Bool.and_false, Bool.false_and]
    exact Bool.false_ne_true
  show wpAny _ _ (if (((items.size : Int) - 1) == 0 && (-1 : Int) == 1 && items.size == items.size) = true then _ else _) _ _ s
  rw [if_neg no, pick_rev]
  first
    | exact wpAny_bind (m := Builtin.Tuple.tupleExact _) (wpAny_newObj_type (wpAny_pure ⟨_, rfl, wpAny_pure h⟩) fits)
    | exact wpAny_bind (m := Builtin.Tuple.tupleExact _) (wpAny_newObj_type (wpAny_bind (wpAny_pure (wpAny_pure ⟨_, rfl, wpAny_pure h⟩))) fits)
    | exact wpAny_bind (wpAny_bind (m := Builtin.Tuple.tupleExact _) (wpAny_newObj_type (wpAny_pure (wpAny_pure ⟨_, rfl, wpAny_pure h⟩)) fits))
    | exact wpAny_bind (wpAny_bind (m := Builtin.Tuple.tupleExact _) (wpAny_newObj_type (wpAny_pure ⟨_, rfl, wpAny_pure h⟩) fits))
end
section
variable {X : Cx}
def tRevT (K : PySem.W.Frag) (te : TE) : TE := fun σ H Q => te σ H fun x H1 => ∃ a xs, x = .ref a ∧ SqT K H1 a xs ∧ ∀ p, H1 p = none → Q (.ref p) (upd H1 p (.tup xs.reverse))
theorem pe_revT {e : Expr} {te : TE} {k : Nat} {p1 p2 p3 pos : Pos} (he : PE X e te) : PE X (.Subscript e (.Slice none none (some (.UnaryOp .USub (.Constant (.int 1) k p1) p2)) p3) pos) (tRevT X.K te) := by
  refine ⟨fun pins s σ H Q I h => ?_⟩
  refine Subscript_ (thn (he.run pins s σ H _ I h) fun v s1 ⟨x, H1, I1, r1, q1⟩ => ?_)
  obtain ⟨a, xs, ex, hx, q⟩ := q1
  subst ex
  cases r1
  have step : PO X (some (.UnaryOp .USub (.Constant (.int 1) k p1) p2)) (tPart (tUn (rU fun i => .int (-i)) (tC (.int 1)))) := po_some (pe_un un_neg pe_int)
  refine wpAny_Slice (thn (po_none.run pins s1 σ H1 (fun o H2 => o = none ∧ H2 = H1) I1 ⟨rfl, rfl⟩) fun vl s2 ⟨l, H2, I2, pl, ll, e2⟩ => ?_)
  subst ll e2
  refine thn (po_none.run pins s2 σ H2 (fun o H3 => o = none ∧ H3 = H2) I2 ⟨rfl, rfl⟩) fun vu s3 ⟨u, H3, I3, pu, lu, e3⟩ => ?_
  subst lu e3
  refine thn (step.run pins s3 σ H3 (fun o H4 => o = some (-1) ∧ H4 = H3) I3 ⟨1, rfl, -1, rfl, rfl, rfl⟩) fun vs s4 ⟨o, H4, I4, ps, lo, e4⟩ => ?_
  subst lo e4
  have I5 : Inv X pins σ H4 { s4 with heap := s4.heap.push { cls := .type "slice", data := .fields #[vl, vu, vs] } } := I4.kept (t' := s4.toks) fun b ob z => Heap.get?_push_of_some _ z
  obtain ⟨its, r, ht, hz⟩ := I5.tuple hx
  have hlen := r.length
  show wpAny (model X.prog X.w) X.A (subscriptTail e (.Slice none none (some (.UnaryOp .USub (.Constant (.int 1) k p1) p2)) p3) (.ref a) (.ref s4.heap.objs.size)) (EP X pins σ Q) X.xe { s4 with heap := s4.heap.push { cls := .type "slice", data := .fields #[vl, vu, vs] } }
  refine tail_any (ops := [.ref a, .ref s4.heap.objs.size]) ht.typeIs PyProof.Rows.slot_tuple_getitem.lookup ?_ (by with_unfolding_all rfl)
  refine item_tuple_rev ht (Heap.IsSliceOf.new _ vl vu vs) pl pu ps (by rw [List.size_toArray]; omega) ?_
  rw [List.toList_toArray]
  refine ⟨.ref _, _, I5.laid (t' := s4.toks) (o := .tup xs.reverse) (fun b ob z => Heap.get?_push_of_some _ z) (Nat.le_refl _) ?_, rfl, q _ (I5.hok.fresh (Nat.le_refl _))⟩
  exact ⟨by rw [List.length_reverse]; exact hz, _, r.reverse, IsTup.new _ _⟩

/-! ### xs.extend(t), t a tuple -/
theorem ext_tup (l : Addr) (items : Array Value) (n : Nat) (b : Addr) (items2 : Array Value) (n2 : Nat) (dd : Option Addr) (sl : Array (Option Value))
    (z0 : ¬(!items.isEmpty && Builtin.List.listTooLong (items.size + items2.size)) = true) (z1 : items.size ≤ sizeLine) (z2 : items.size + items2.size ≤ sizeLine + 1) :
    Meets (Builtin.«list.extend» ⟨[.ref l, .ref b], []⟩) (fun _ R s => s.heap.get? l = some { cls := .type "list", dict := none, data := .seq items n, slots := #[] } ∧
      s.heap.get? b = some { cls := .type "tuple", dict := dd, data := .seq items2 n2, slots := sl } ∧ R (.ok (.ret Value.none)) { s with heap := s.heap.update l (Obj.mapSeq fun x => x ++ items2), toks := s.toks }) :=
  .of_wp fun prog w A R s h => by
    obtain ⟨hp, g, d, tk, os⟩ := s
    obtain ⟨hl, hb, h⟩ := h
    have f1 := AutoSeq1.idx_int
    have f2 := AutoSeq1.sub_tuple_tuple
    have f3 := AutoSeq1.sub_list_list
    have f4 := AutoSeq1.sub_tuple_list
    have f5 := AutoSeq1.sub_list_tuple
    have z3 : (items ++ items2).size ≤ sizeLine + 1 := by
      rw [Array.size_append]
      exact z2
    wp_walk using (wpAny_updateSeq hl rfl (hz := z1) (_hz' := z3)), AutoSeq1.wpAny_loadPart' hl, AutoSeq1.wpAny_loadPart' hb
    exact ⟨_, rfl, h⟩
def rExtT (K : PySem.W.Frag) : V → List V → Hp → VK → Prop := fun x vs H Q => ∃ l b xs zs, x = .ref l ∧ vs = [.ref b] ∧ H l = some (.lst xs) ∧ SqT K H b zs ∧ xs.length + zs.length ≤ sizeLine ∧ Q .non (upd H l (.lst (xs ++ zs)))
theorem mt_extT : MtM X "list.extend" (rExtT X.K) := by
  intro pins s σ H x vs v us Q I rx rv h
  obtain ⟨l, b, xs, zs, rfl, rfl, hH, hB, hz, q⟩ := h
  cases rx
  obtain ⟨u, rfl, ru⟩ := rv.one
  cases ru
  obtain ⟨z, its, n, r, hl, e⟩ := I.lstM hH
  obtain ⟨its2, r2, ⟨⟨cls2, dd2, dat2, sl2⟩, e2, c2, n2, d2⟩, hz2⟩ := I.tuple hB
  simp only at c2 d2
  subst c2 d2
  have l1 := r.length
  have l2 := r2.length
  have hsz : its.toArray.size + its2.toArray.size ≤ sizeLine := by
    rw [List.size_toArray, List.size_toArray]
    omega
  have hlong : ¬ (!its.toArray.isEmpty && Builtin.List.listTooLong (its.toArray.size + its2.toArray.size)) = true := by
    rw [notLongL hsz, Bool.and_false]
    decide
  refine call_meets F.slot_list_extend ⟨_, e, rfl⟩ F.entry_list_extend (F.args_list_extend_2 _ _)
    (ext_tup l its.toArray n b its2.toArray n2 dd2 sl2 hlong (by rw [List.size_toArray]; omega) (by omega)) ⟨e, e2, ?_⟩
  refine ⟨.non, _, I.lset (its' := its ++ its2) hH e (by simp) (r.append r2) ?_, rfl, q⟩
  rw [List.length_append]
  omega

/-! ### sorted(t), t a tuple of ints -/
section
variable {prog : Program} {w : World} {A : Around} {E : Value → Shared → Prop} {s : Shared}
theorem collect_tup {l : Addr} {vs : List Value} {Q : List Value → Shared → Prop} (hl : IsTup s.heap l vs.toArray)
    (h : Q vs { s with heap := (s.heap.push (seqObj "list" #[] 0)).update s.heap.objs.size (Obj.mapSeq (· ++ vs.toArray)) }) (small : vs.length ≤ sizeLine) :
    wpAny (model prog w) A (collect (.ref l)) Q E s := by
  obtain ⟨oT, hoT, hcT, nT, hdT⟩ := hl
  unfold collect
  refine wpAny_bind (wpAny_runValue (codeAny_builtin entry_proto_collect' ?_))
  show wpAny _ _ (do again (.builtin "list.__iadd__" ⟨[← newList [], .ref l], []⟩)) _ _ s
  refine wpAny_bind (wpAny_newList (wpAny_pure ⟨Code.quiet_builtin _ (by decide +kernel), codeAny_builtin entry_list_iadd' ?_⟩))
  show wpAny _ _ (Builtin.List.listExtendWith (.ref s.heap.objs.size) (.ref l) (.ref s.heap.objs.size)) _ _ { s with heap := s.heap.push (seqObj "list" #[] 0) }
  unfold Builtin.List.listExtendWith
  have up : (s.heap.push (seqObj "list" #[] 0)).get? l = some oT := Heap.get?_push_of_some _ hoT
  refine wpAny_bind (wpAny_typeOf (T := "tuple") ⟨oT, up, hcT⟩ ?_)
  have tt : (Value.type "tuple" == Value.type "tuple") = true := by rfl
  rw [if_pos (by rw [tt]; simp)]
  refine wpAny_bind (listItems_at up hdT ?_)
  refine wpAny_bind (listItems_at (xs := #[]) (n := 0) (Heap.get?_push_size _ rfl) rfl ?_)
  rw [if_neg (by simp)]
  refine wpAny_bind (listUpdate_at (xs := #[]) (n := 0) (Heap.get?_push_size _ rfl) rfl ?_ (Nat.zero_le _) (by show (#[] ++ vs.toArray).size ≤ sizeLine + 1; simp only [Array.size_append, List.size_toArray, List.length_nil]; omega))
  refine wpAny_pure ?_
  show wpAny (model prog w) A (do
      let oL ← load s.heap.objs.size
      match oL.data with
      | .seq ys _ => pure ys.toList
      | _ => unsupported "internal:collect") Q E { s with heap := (s.heap.push (seqObj "list" #[] 0)).update s.heap.objs.size (Obj.mapSeq (· ++ vs.toArray)) }
  refine wpAny_bind (wpAny_load (get?_update_seq (Heap.get?_push_size _ rfl) _) ?_)
  show wpAny _ _ (pure ((#[] : Array Value) ++ vs.toArray).toList) Q E _
  have ee : ((#[] : Array Value) ++ vs.toArray).toList = vs := by simp
  rw [ee]
  exact wpAny_pure h
theorem sorted_tupInts {t : Addr} {vs : List Value} {ns : List Int} {Q : Value → Shared → Prop} (ht : IsTup s.heap t vs.toArray) (hI : IntsAre vs ns) (few : vs.length < 64)
    (h : ∀ (out : Array Value) (ns' : List Int), IntsAre out.toList ns' → ns'.Perm ns → Q (.ref (s.heap.objs.size + 1)) { s with heap := sortedAll s.heap vs out }) :
    wpAny (model prog w) A (call (.builtin "sorted") [.ref t]) Q E s := by
  refine Calls.call_function_entry kind_sorted plain_sorted entry_sorted (args_sorted1 _) ?_
  unfold Builtin.«sorted»
  refine wpAny_bind (m := checkCount "sorted" 1 1 _) (wpAny_pure ?_)
  refine wpAny_bind (collect_tup ht ?_ (by rw [sizeLine_eq]; omega))
  refine wpAny_bind (wpAny_newList ?_)
  have siz : ((s.heap.push (seqObj "list" #[] 0)).update s.heap.objs.size (Obj.mapSeq (· ++ vs.toArray))).objs.size = s.heap.objs.size + 1 := by rw [Heap.size_update, size_push']
  have oL : (((s.heap.push (seqObj "list" #[] 0)).update s.heap.objs.size (Obj.mapSeq (· ++ vs.toArray))).push (seqObj "list" vs.toArray 0)).get? (s.heap.objs.size + 1) = some (seqObj "list" vs.toArray 0) := by
    rw [← siz]
    exact Heap.get?_push_size _ rfl
  show wpAny _ _ _ _ _ { s with heap := ((s.heap.push (seqObj "list" #[] 0)).update s.heap.objs.size (Obj.mapSeq (· ++ vs.toArray))).push (seqObj "list" vs.toArray 0) }
  rw [siz]
  refine wpAny_bind (wpAny_holding (wpAny_call_entry slot_list_sort ⟨_, oL, rfl⟩ entry_list_sort (list_sort_tree oL hI few fun out ns' a1 a2 a3 => ⟨_, rfl, ?_⟩) (args_list_sort _)))
  exact wpAny_pure ⟨_, rfl, h out ns' a1 a2⟩
end
def rSortT (K : PySem.W.Frag) : List V → Hp → VK → Prop := fun vs H Q => ∃ (a : Addr) (ns : List Int), vs = [V.ref a] ∧ SqT K H a (ns.map V.int) ∧ ns.length < 64 ∧
  ∀ (ns' : List Int) (p : Addr), ns'.Perm ns → H p = none → Q (.ref p) (upd H p (.lst (ns'.map V.int)))
theorem cr_sortT1 : CallR X (.builtin "sorted") (rSortT X.K) := by
  intro pins s σ H vs us Q I r h
  obtain ⟨a, ns, rfl, hs, h64, q⟩ := h
  obtain ⟨its, rv, hl, _⟩ := I.tuple hs
  rw [Vals.ref1 r]
  have hi := rv.ints
  refine sorted_tupInts hl hi (by rw [hi.length]; exact h64) fun out ns' h1 h2 => ?_
  obtain ⟨ep, atE⟩ := PyProof.Rows.sortedAll_at s.heap its out
  have fits : (ns'.map V.int).length ≤ sizeLine := by
    rw [List.length_map, h2.length_eq]
    exact small64 h64
  exact ⟨.ref _, upd H (s.heap.objs.size + 1) (.lst (ns'.map V.int)), I.laid (t' := s.toks) (fun _ _ => PyProof.Rows.sortedAll_old) (Nat.le_succ _) ⟨fits, out.toList, ep, vals_of_ints h1, atE⟩, rfl, q ns' _ h2 (I.hok.fresh (Nat.le_succ _))⟩
end
end K39

set_option Elab.async false
set_option linter.all false
set_option maxRecDepth 100000
set_option maxHeartbeats 4000000
/-! rules of our own: None in a tuple of tuples, != by an own ==, max with a default -/
namespace K39
open PySem PySem.Spec PyProof.Rows L2

/-! ### None in t, t a tuple of tuples -/
section
variable {X : Cx}
def rNoT (K : PySem.W.Frag) : R2 := fun x y H Q => ∃ p xs, x = .non ∧ y = .ref p ∧ SqT K H p xs ∧ (∀ z ∈ xs, ∃ t ys, z = .ref t ∧ SqT K H t ys) ∧ Q (.bl false) H
theorem mem_noT {A : Around} {pins : List (Addr × Obj)} {σ : L2.St} {H : Hp} {s : Shared} (I : Inv X pins σ H s) (hu : A.units < cLine) : ∀ {xs : List V} {us : List Value}, Vals xs us → (∀ z ∈ xs, ∃ t ys, z = .ref t ∧ SqT X.K H t ys) →
    ∀ u ∈ us, SeqAt.EqAt A s u .none ((fun _ => false) u)
  | _, _, .nil, _ => fun u h => by cases h
  | y :: xs, u :: us, .cons r t, f => fun u' h => by
    rcases List.mem_cons.mp h with e | h
    · subst e
      obtain ⟨a, ys, rfl, ha⟩ := f y (List.mem_cons_self ..)
      obtain rfl : u' = Value.ref a := r
      obtain ⟨its, _, p, _⟩ := I.tuple ha
      exact SeqAt.EqAt.tuple_none p hu
    · exact mem_noT I hu t (fun z hz => f z (List.mem_cons_of_mem _ hz)) u' h
theorem op_noT (hu : X.A.units + 64 < cLine) : OpR X (compareOp .In) (rNoT X.K) := by
  intro pins s σ H x y v u Q I rx ry h
  obtain ⟨p, xs, rfl, rfl, hq, f, q⟩ := h
  cases rx
  cases ry
  obtain ⟨its, rv, hl, _⟩ := I.tuple hq
  have room1 : X.A.in1.units < cLine := by
    show X.A.units + 1 < cLine
    omega
  refine SeqAt.in_tupleAt (fun _ => false) hl (fun z hz => mem_noT I room1 rv f z (by simpa using hz)) ⟨.bl _, H, I, rfl, ?_⟩
  have e : its.toArray.any (fun _ => false) = false := by simp
  rw [e]
  exact q
end

/-! ### x != y of two instances of a class with its own == alone -/
section
variable {prog : Program} {w : World} {A : Around} {E : Value → Shared → Prop} {s : Shared} {K : PySem.W.Frag} {x y C f : Addr} {ox oy : Obj} {od oe : Option Obj}
theorem boundNe {M : Model} {args : List Value} {Q : Option Value → Shared → Prop} (X : K.In s.heap) (I : PySem.W.InstAt s.heap x ox C od) (hs : PySem.W.findIn K (.ref C) "__ne__" = some (some (.builtin "object.__ne__")))
    (h : wpAny M A (call (.builtin "object.__ne__") (.ref x :: args)) (fun v => Q (some v)) E s) : wpAny M A (callSpecialIfBound? (.ref x) "__ne__" args) Q E s := by
  simp only [callSpecialIfBound?, bindSpecialIfBound?]
  refine wpAny_holding (wpAny_bind (wpAny_bind (wpAny_bind (I.type.here ((PySem.W.looks_findIn X hs).here ?_)))))
  refine wpAny_bind (wpAny_askSetting (wpAny_ite ?_))
  have last : wpAny M A (call (.builtin "object.__ne__") ([.ref x] ++ args) >>= fun v => pure (some v)) Q E s := wpAny_bind (wpAny_mono h (fun v s' z => wpAny_pure z) fun _ _ z => z)
  split
  · exact wpAny_bind (wpAny_of_eq (F.cmp_object.ne.bind _) (wpAny_pure (by exact last)))
  · exact wpAny_tryCatch (wpAny_bind (wpAny_of_eq (F.cmp_object.ne.bind _) (wpAny_pure (by exact last))))
theorem entryNe {Q : Fin → Shared → Prop} (X : K.In s.heap) (I : PySem.W.InstAt s.heap x ox C od) (he : PySem.W.findIn K (.ref C) "__eq__" = some (some (.ref f))) (hf : PySem.W.isFn K (.ref f) = true) (hu : A.units < cLine)
    (h : wpAny (model prog w) A (call (.ref f) [.ref x, .ref y]) (fun v s' => ∃ b, v = .bool b ∧ Q (.done (.ret (.bool (!b)))) s') E s) :
    wpAny (model prog w) A (Builtin.«object.__ne__» ⟨[.ref x, .ref y], []⟩) Q E s := by
  obtain ⟨hp, g, d, t, os⟩ := s
  unfold Builtin.«object.__ne__»
  repeat (first
    | with_reducible refine wpAny_cRoomFor hu ?_
    | (refine wpAny_bind (m := callSpecialIfBound? (.ref x) (Str.ofString "__eq__") [.ref y])
        (PySem.W.ifBound_K X I he hf (wpAny_mono h (fun r s' hr => by
          obtain ⟨b, rfl, z⟩ := hr
          repeat (first | exact z | exact wpAny_pure z | exact wpAny_truthy_bool z | (refine wpAny_bind (m := truthy (.bool _)) (wpAny_truthy_bool ?_)) | wp_step)) fun _ _ z => z)))
    | wp_step)
theorem ne_rich {Q : Value → Shared → Prop} (X : K.In s.heap) (I : PySem.W.InstAt s.heap x ox C od) (J : PySem.W.InstAt s.heap y oy C oe) (hs : PySem.W.findIn K (.ref C) "__ne__" = some (some (.builtin "object.__ne__")))
    (he : PySem.W.findIn K (.ref C) "__eq__" = some (some (.ref f))) (hf : PySem.W.isFn K (.ref f) = true) (hm : PySem.W.mroIn K C (.type "object") = some true) (hu : A.units + 1 < cLine)
    (h : wpAny (model prog w) A.in1 (call (.ref f) [.ref x, .ref y]) (fun v s' => ∃ b, v = .bool b ∧ Q (.bool (!b)) s') E s) :
    wpAny (model prog w) A (richCompare .NotEq (.ref x) (.ref y)) Q E s := by
  have one : wpAny (model prog w) A (tryCompare (.ref x) "__ne__" (.ref y)) (fun r s' => ∃ v, r = some v ∧ Q v s') E s := by
    unfold tryCompare
    refine wpAny_bind (boundNe X I hs (wpAny_call (codeAny_call_builtin F.cmp_object.ne.plain F.cmpEntry_ne
      (PySem.W.check_slot F.cmpKind_ne F.cmpSplit_ne (I.type.andThen (PySem.W.looks_mroIn X hm)) (F.cmpArgs_ne _ _) (entryNe X I he hf hu (wpAny_mono h (fun v s' z => ?_) fun _ _ z => z))))))
    obtain ⟨b, rfl, z⟩ := z
    first
      | exact ⟨b, rfl, wpAny_pure ⟨_, rfl, z⟩⟩
      | exact ⟨b, rfl, ⟨_, rfl, z⟩⟩
  unfold richCompare
  simp only [oneThing_ref]
  refine wpAny_holding (wpAny_bind (wpAny_cRoomFor (Nat.lt_of_succ_lt hu) ?_))
  refine wpAny_bind (I.type.here (wpAny_bind (J.type.here ?_)))
  have same : (Value.ref C != Value.ref C) = false := by simp
  simp only [same, Bool.false_eq_true, if_false]
  refine wpAny_bind (wpAny_pure ?_)
  simp only [Bool.false_eq_true, if_false]
  refine wpAny_bind (wpAny_mono one (fun r s' z => ?_) fun _ _ z => z)
  obtain ⟨v, rfl, z⟩ := z
  exact wpAny_pure z
end
section
variable {X : Cx} {n : Nat}
def rNeOwn (C : Addr) (R : Addr → Addr → Hp → Prop) : R2 := fun x y H Q => DIns C R x y H ∧ ∀ H', Ext H H' → Q (.bl false) H'
theorem op_neOwn {CX : CXT} {C f : Addr} {fd : FuncData} {ps : List Str} {R : Addr → Addr → Hp → Prop} {E : XK} (F : FnOk X.prog X.w X.K X.mg X.base CX n f fd ps (spEq R)) (hr : Room (n + 1) X.A)
    (hs : PySem.W.findIn X.K (.ref C) "__ne__" = some (some (.builtin "object.__ne__"))) (he : PySem.W.findIn X.K (.ref C) "__eq__" = some (some (.ref f))) (hf : PySem.W.isFn X.K (.ref f) = true) (hm : PySem.W.mroIn X.K C (.type "object") = some true)
    (hb : Binds X.K fd ps []) (hx : Passes CX X E) : OpR X (compareOp .NotEq) (rNeOwn C R) := by
  intro pins s σ H x y u v Q I rx ry hq
  obtain ⟨⟨a, b, dx, dy, fs, gs, rfl, rfl, ha, hb', rab⟩, q⟩ := hq
  cases rx
  cases ry
  obtain ⟨mA, J, _⟩ := ins_get I.hok ha
  obtain ⟨mB, J', _⟩ := ins_get I.hok hb'
  obtain ⟨od, J, _⟩ := J.look
  obtain ⟨oe, J', _⟩ := J'.look
  show wpAny (model X.prog X.w) X.A (richCompare .NotEq (.ref a) (.ref b)) (EP X pins σ Q) X.xe s
  have deep : Room n X.A.in1 := hr.in1
  refine ne_rich I.kIn J J' hs he hf hm (by have := hr.units; omega) ?_
  have promise : spEq R [.ref a, .ref b] H (fun v H' => v = .bl true ∧ Ext H H') E := ⟨a, b, rfl, rab, fun H' e => ⟨rfl, e⟩⟩
  have e0 : Env0 X.prog X.w X.K X.mg X.base X.A.in1 X.stack s H := by
    have e := I.env0
    exact ⟨e.frames, e.mod, e.bs, e.bsz, e.funs, e.frf, e.hok, e.bare⟩
  have hl := F.len _ _ _ _ promise
  have r2 : Vals [V.ref a, V.ref b] [Value.ref a, Value.ref b] := .cons rfl (.cons rfl .nil)
  refine wpAny_call (codeAny_mono (F.run X.A.in1 X.stack s H ⟨[.ref a, .ref b], []⟩ [.ref a, .ref b] [.ref a, .ref b] _ E deep e0 (by
    have z := hb s [.ref a, .ref b] I.kIn (by simpa using hl)
    simpa using z) r2 promise) fun r s' hq => ?_)
  cases r with
  | error e => exact hx pins σ H s e s' I hq
  | ok fl =>
    cases fl with
    | ret w =>
      obtain ⟨z, H', I', rz, ez, ex⟩ := I.after hq
      subst ez
      cases rz
      exact ⟨true, rfl, .bl false, H', I', rfl, q H' ex⟩
    | next => exact False.elim hq
    | brk => exact False.elim hq
    | cont => exact False.elim hq
end

/-! ### max(xs, default=0), xs a list of ints with an item at least -/
section
variable {prog : Program} {w : World} {A : Around} {R : Result → Shared → Prop} {I : Addr} {fp wr : List Addr} {n : Nat} {P : Nat → Value → Prop} {St : Nat → Heap → Prop} {kw : List (Str × Value)}
theorem maxD_loop (W : Walks prog w A.in1 I fp wr n P St) (bt : Nat → Nat → Bool) (cmp : CmpOf prog w A.in1 .Gt P bt) (S : Addr) (out : S ∉ fp) :
    ∀ (k j : Nat) (s : Shared) (vb : Value) (c : Nat), n - (j + 1) = k → j + 1 ≤ n → St (j + 1) s.heap → P (argBest bt j) vb →
    s.heap.get? S = some { cls := .type "list", dict := none, data := .seq #[vb, vb] c, slots := #[] } →
    (∀ v h' tk i, P i v → (∀ b o, b ∉ wr → b ≠ S → s.heap.get? b = some o → h'.get? b = some o) → R (.ok (.ret v)) { s with heap := h', toks := tk }) →
    codeAny (model prog w) A (.builtin "max.loop" ⟨[.ref I, .none, .ref S], kw⟩) R s := by
  have outW : S ∉ wr := fun h => out (W.sub _ h)
  have nm : (toString "max" ++ toString ".loop" : String) = "max.loop" := by decide
  intro k
  induction k with
  | zero =>
    intro j s vb c hk hj st pb atS hR
    have fin : j + 1 = n := by omega
    refine codeAny_builtin F.entry_max_loop ?_
    rw [Around.under_plainId F.plain_max_loop _]
    show wpAny _ A.in1 (seqItems? (.ref S) >>= _) _ _ s
    refine wpAny_bind (wpAny_seqItems atS rfl ?_)
    show wpAny _ A.in1 (tryCatch (pyNext (.ref I)) _ >>= _) _ _ s
    refine wpAny_bind (wpAny_tryCatch (W.done s _ _ (fin ▸ st) fun h' tk kept => ?_))
    have atS' := kept S _ outW atS
    show wpAny _ A.in1 (updateSeq S (fun _ => #[]) >>= _) _ _ _
    refine wpAny_bind ?_
    refine wpAny_updateSeq atS' rfl (wpAny_bind (wpAny_letGo (wpAny_pure ?_)))
    exact hR vb _ tk _ pb fun b o nb nS e => (Heap.get?_update_other _ _ (Ne.symm nS)).trans (kept b o nb e)
  | succ k ih =>
    intro j s vb c hk hj st pb atS hR
    have more : j + 1 < n := by omega
    refine codeAny_builtin F.entry_max_loop ?_
    rw [Around.under_plainId F.plain_max_loop _]
    show wpAny _ A.in1 (seqItems? (.ref S) >>= _) _ _ s
    refine wpAny_bind (wpAny_seqItems atS rfl ?_)
    show wpAny _ A.in1 (tryCatch (pyNext (.ref I)) _ >>= _) _ _ s
    refine wpAny_bind (wpAny_tryCatch (W.item (j + 1) s _ _ more st fun v h' tk pv st' kept => ?_))
    have atS' := kept S _ outW atS
    show wpAny _ A.in1 (tryCatch (holding [v, v] (richCompare .Gt v vb >>= _)) _ >>= _) _ _ _
    refine wpAny_bind (wpAny_tryCatch (wpAny_holding (wpAny_bind (cmp (j + 1) (argBest bt j) v vb _ _ _ pv pb ?_))))
    refine wpAny_bind (wpAny_holding (wpAny_truthy_bool ?_))
    refine wpAny_bind (wpAny_letGo (wpAny_pure ?_))
    cases hb : bt (j + 1) (argBest bt j) with
    | true =>
      simp only [if_true]
      refine wpAny_bind ?_
      refine wpAny_updateSeq atS' rfl (wpAny_bind (wpAny_letGo ?_))
      rw [nm]
      refine wpAny_pure ⟨plainId_quiet F.plain_max_loop _, ih (j + 1) _ v _ (by omega) more (W.frame _ _ _ st' fun b bf o e => ?_) (by simp only [argBest, hb, if_true]; exact pv) (Heap.get?_update_self _ atS' rfl)
        fun v' h'' tk'' i pi kept2 => ?_⟩
      · exact (Heap.get?_update_other _ _ (fun h : S = b => out (by rw [h]; exact bf))).trans e
      · exact hR v' h'' tk'' i pi fun b o nb nS e => kept2 b o nb nS ((Heap.get?_update_other _ _ (Ne.symm nS)).trans (kept b o nb e))
    | false =>
      simp only [Bool.false_eq_true, if_false]
      refine wpAny_bind (wpAny_letGo ?_)
      rw [nm]
      refine wpAny_pure ⟨plainId_quiet F.plain_max_loop _, ih (j + 1) _ vb c (by omega) more st' (by simp only [argBest, hb, Bool.false_eq_true, if_false]; exact pb) atS' fun v' h'' tk'' i pi kept2 => ?_⟩
      exact hR v' h'' tk'' i pi fun b o nb nS e => kept2 b o nb nS (kept b o nb e)
theorem maxD_first (W : Walks prog w A.in1 I fp wr n P St) (bt : Nat → Nat → Bool) (cmp : CmpOf prog w A.in1 .Gt P bt) (S : Addr) (out : S ∉ fp) (hn : 0 < n) {s : Shared} {c : Nat} (st : St 0 s.heap)
    (atS : s.heap.get? S = some { cls := .type "list", dict := none, data := .seq #[] c, slots := #[] })
    (hR : ∀ v h' tk i, P i v → (∀ b o, b ∉ wr → b ≠ S → s.heap.get? b = some o → h'.get? b = some o) → R (.ok (.ret v)) { s with heap := h', toks := tk }) :
    codeAny (model prog w) A (.builtin "max.loop" ⟨[.ref I, .none, .ref S], kw⟩) R s := by
  have outW : S ∉ wr := fun h => out (W.sub _ h)
  have nm : (toString "max" ++ toString ".loop" : String) = "max.loop" := by decide
  refine codeAny_builtin F.entry_max_loop ?_
  rw [Around.under_plainId F.plain_max_loop _]
  show wpAny _ A.in1 (seqItems? (.ref S) >>= _) _ _ s
  refine wpAny_bind (wpAny_seqItems atS rfl ?_)
  show wpAny _ A.in1 (tryCatch (pyNext (.ref I)) _ >>= _) _ _ s
  refine wpAny_bind (wpAny_tryCatch (W.item 0 s _ _ hn st fun v h' tk pv st' kept => ?_))
  have atS' := kept S _ outW atS
  show wpAny _ A.in1 (updateSeq S (fun _ => #[v, v]) >>= _) _ _ _
  refine wpAny_bind ?_
  refine wpAny_updateSeq atS' rfl ?_
  rw [nm]
  refine wpAny_pure ⟨plainId_quiet F.plain_max_loop _, maxD_loop W bt cmp S out _ 0 _ v _ rfl hn (W.frame _ _ _ st' fun b bf o e => ?_) pv (Heap.get?_update_self _ atS' rfl) fun v' h'' tk'' i pi kept2 => ?_⟩
  · exact (Heap.get?_update_other _ _ (fun h : S = b => out (by rw [h]; exact bf))).trans e
  · exact hR v' h'' tk'' i pi fun b o nb nS e => kept2 b o nb nS ((Heap.get?_update_other _ _ (Ne.symm nS)).trans (kept b o nb e))
end
section
variable {prog : Program} {w : World} {A : Around} {E : Value → Shared → Prop} {s : Shared}
theorem args_maxD (a b : Value) : argsOk "max" ⟨[a], [(Str.ofString "default", b)]⟩ := by
  unfold argsOk
  kernel_rfl
theorem call_maxD {l : Addr} {xs : Array (Int × Tok)} {d : Value} {Q : Value → Shared → Prop} (hh : A.handled = none) (hl : s.heap.IsList l (intItems xs)) (hne : 0 < xs.size)
    (h : ∀ (v : Value) (h' : Heap) (tk i : Nat), (intItems xs)[i]? = some v → (∀ b o, s.heap.get? b = some o → h'.get? b = some o) → Q v { s with heap := h', toks := tk }) :
    wpAny (model prog w) A (call (.builtin "max") [.ref l] [(Str.ofString "default", d)]) Q E s := by
  have nm : (toString "max" ++ toString ".loop" : String) = "max.loop" := by decide
  refine kmb_tree F.kind_max F.plain_max F.entry_max (args_maxD (.ref l) d) ?_
  show wpAny _ A.in1 (Builtin.Builtins.bindParams "max" ["key", "default"] 0 ⟨[], [(Str.ofString "default", d)]⟩ >>= _) _ _ s
  refine wpAny_bind (wpAny_of_eq (show Builtin.Builtins.bindParams "max" ["key", "default"] 0 ⟨[], [(Str.ofString "default", d)]⟩ = pure [none, some d] from rfl) ?_)
  refine wpAny_bind (wpAny_pure ?_)
  refine wpAny_bind (iter_intList hl fun s₂ e st hfp apart => ?_)
  subst e
  refine wpAny_bind (wpAny_newObj_type ?_)
  have hSf : (s.heap.push { cls := .type "list_iterator", data := .fields #[.ref l, .int 0 0] }).objs.size ∉ [s.heap.objs.size, l] := fun hm => Nat.lt_irrefl _ (hfp _ hm)
  rw [nm]
  refine wpAny_pure ⟨plainId_quiet F.plain_max_loop _, ?_⟩
  have W := Walks.list (prog := prog) (w := w) (A := A.in1) hh s.heap.objs.size l apart (intItems xs)
  refine maxD_first W _ (CmpOf.ints_gt (numAt xs) (fun _ _ => intItems_at)) _ hSf (by simpa [intItems] using hne) (W.frame _ _ _ st fun b _ o e => Heap.get?_push_of_some _ e) (Heap.get?_push_size _ rfl) fun v h' tk i pi kept => ?_
  exact h v h' tk i pi (old_kept fun b o nb e => kept b o nb (Nat.ne_of_lt (Heap.lt_size e)) (Heap.get?_push_of_some _ e))
end
section
variable {X : Cx}
def rMaxD (K : PySem.W.Frag) : List V → List V → Hp → VK → Prop := fun vs zs H Q => ∃ (a : Addr) (ns : List Int) (d : V), vs = [V.ref a] ∧ zs = [d] ∧ SqL K H a (ns.map V.int) ∧ 0 < ns.length ∧ ∀ m, m ∈ ns → Q (.int m) H
theorem cr_maxD (hc : X.calm = true) : CallRK X (.builtin "max") [Str.ofString "default"] (rMaxD X.K) := by
  intro pins s σ H vs zs us ws Q I r rz h
  obtain ⟨a, ns, d, rfl, rfl, hs, pos, q⟩ := h
  obtain ⟨its, rv, hl, hz⟩ := I.list hs
  rw [Vals.ref1 r]
  obtain ⟨w1, rfl, e1⟩ := vals1 rz
  have hi := rv.ints
  obtain ⟨xs, e⟩ := hi.allInts.items
  have hn : numsOf (intItems xs).toList = ns := by
    rw [← e]
    exact hi.numsOf
  have lst : s.heap.IsList a (intItems xs) := by
    rw [← e]
    exact hl.isList
  have len : its.length = ns.length := hi.length
  have siz : 0 < xs.size := by
    have z : its.toArray.size = (intItems xs).size := by rw [e]
    rw [List.size_toArray, len] at z
    simp [intItems] at z
    omega
  refine call_maxD (I.ok.hd hc) lst siz fun v h' tk i pi kept => ?_
  have mem : v ∈ its := by
    rw [← e] at pi
    have z : its[i]? = some v := by simpa using pi
    exact List.mem_of_getElem? z
  obtain ⟨j, hj⟩ := List.mem_iff_getElem?.mp mem
  have jl : j < (ns.map V.int).length := by
    rw [rv.length]
    exact (List.getElem?_eq_some_iff.mp hj).1
  obtain ⟨u, hu, ru⟩ := rv.get (List.getElem?_eq_getElem jl)
  rw [hj] at hu
  cases hu
  have jn : j < ns.length := by simpa using jl
  have ej : (ns.map V.int)[j] = V.int ns[j] := by simp
  rw [ej] at ru
  exact ⟨.int ns[j], H, I.kept kept, ru, q _ (List.getElem_mem jn)⟩
end
end K39

set_option Elab.async false
set_option linter.all false
set_option maxRecDepth 100000
set_option maxHeartbeats 4000000
/-! rules of our own: zip over tuples while its tuple is held, dict(zip(t, u)), dict(list(zip(xs, ys))) -/
namespace K39
open PySem PySem.Spec PyProof.Rows L2
open PySem.W (KdxIt kdx_alive)

section
variable {prog : Program} {w : World} {A : Around} {E : Value → Shared → Prop} {s : Shared}
theorem heldT_item {zp tI tO T i1 i2 l1 l2 : Addr} {f : Bool} {oT : Obj} {k1 k2 : Nat} {xs ys : Array Value} {x y : Value} {Q : Value → Shared → Prop} (D : ZipApart zp tI tO i1 i2 l1 l2)
    (gz : IsZipHeld s.heap zp tI tO T f) (gT : s.heap.get? T = some oT) (gI : IsPair s.heap tI (.ref i1) (.ref i2))
    (g1 : s.heap.IsTupleIter i1 l1 k1) (g2 : s.heap.IsTupleIter i2 l2 k2) (t1 : s.heap.IsTuple l1 xs) (t2 : s.heap.IsTuple l2 ys) (ex : xs[k1]? = some x) (ey : ys[k2]? = some y)
    (goal : ∀ h', IsZipHeld h' zp tI tO T true → h'.IsTupleIter i1 l1 (k1 + 1) → h'.IsTupleIter i2 l2 (k2 + 1) → IsPair h' s.heap.objs.size x y → h'.objs.size = s.heap.objs.size + 1 →
      (∀ c o, c ≠ zp → c ≠ i1 → c ≠ i2 → s.heap.get? c = some o → h'.get? c = some o) → Q (.ref s.heap.objs.size) { s with heap := h' }) :
    wpAny (model prog w) A (Builtin.«zip.__next__» ⟨[.ref zp], []⟩) (fun fin s' => ∃ v, fin = .done (.ret v) ∧ Q v s') E s := by
  show wpAny _ _ (field (.ref zp) 2 >>= _) _ _ _
  refine wpAny_bind (wpAny_field gz rfl (x := .bool false) rfl ?_)
  show wpAny _ _ (field (.ref zp) 3 >>= _) _ _ _
  refine wpAny_bind (wpAny_field gz rfl (x := .ref tI) rfl ?_)
  refine wpAny_bind (wpAny_seqItems gI rfl ?_)
  show wpAny _ _ (Builtin.SmallTypes.ownedTupleIsFree (.ref zp) >>= _) _ _ _
  refine wpAny_bind (wpAny_tupleHeld_zip gz gT fun m1 gz1 b1 => ?_)
  simp only [Bool.false_eq_true, if_false]
  refine wpAny_bind ?_
  rw [← Array.forIn_toList]
  simp only [List.forIn_cons, List.forIn_nil]
  refine wpAny_bind (wpAny_bind (wpAny_holding ?_))
  show wpAny _ _ (Builtin.SmallTypes.nextOf (.ref i1) >>= _) _ _ _
  refine wpAny_bind (RZ.nextOf_tuple_item (s := { s with heap := m1 }) (g1.extBut b1.extBut D.i1z) (t1.extBut b1.extBut D.l1z) ex fun m2 g1b b2 => wpAny_pure ?_)
  refine wpAny_pure ?_
  refine wpAny_bind (wpAny_bind (wpAny_holding ?_))
  show wpAny _ _ (Builtin.SmallTypes.nextOf (.ref i2) >>= _) _ _ _
  refine wpAny_bind (RZ.nextOf_tuple_item (s := { s with heap := m2 }) ((g2.extBut b1.extBut D.i2z).extBut b2.extBut D.i12.symm) ((t2.extBut b1.extBut D.l2z).extBut b2.extBut D.l2i1) ey fun m3 g2c b3 => wpAny_pure ?_)
  refine wpAny_pure (wpAny_pure ?_)
  show wpAny _ _ (newTuple [x, y] >>= _) _ _ _
  refine wpAny_bind (wpAny_newTuple ?_)
  have siz : m3.objs.size = s.heap.objs.size := by rw [b3.1, b2.1, b1.1]
  have gz3 : IsZipHeld m3 zp tI tO T true := b3.extBut _ _ D.i2z.symm (b2.extBut _ _ D.i1z.symm gz1)
  have kept : ∀ c o, c ≠ zp → c ≠ i1 → c ≠ i2 → s.heap.get? c = some o → m3.get? c = some o := fun c o c1 c2 c3 e => b3.extBut _ _ c3 (b2.extBut _ _ c2 (b1.extBut _ _ c1 e))
  have g1c : m3.IsTupleIter i1 l1 (k1 + 1) := g1b.extBut b3.extBut D.i12
  refine wpAny_pure ⟨_, rfl, ?_⟩
  show Q (.ref m3.objs.size) _
  have pr : IsPair (m3.push { cls := .type "tuple", data := .seq #[x, y] }) m3.objs.size x y := Heap.get?_push_size _ rfl
  have g4 : (m3.push { cls := .type "tuple", data := .seq #[x, y] }).objs.size = m3.objs.size + 1 := Heap.size_push ..
  rw [siz] at pr g4 ⊢
  exact goal _ (Heap.get?_push_of_some _ gz3) (g1c.at fun o e => Heap.get?_push_of_some _ e) (g2c.at fun o e => Heap.get?_push_of_some _ e) pr g4 fun c o c1 c2 c3 e => Heap.get?_push_of_some _ (kept c o c1 c2 c3 e)

theorem heldT_end {zp tI tO T i1 i2 l1 l2 : Addr} {f : Bool} {oT : Obj} {k1 k2 : Nat} {xs ys : Array Value} {Q : Fin → Shared → Prop} (calm : A.handled = none) (D : ZipApart zp tI tO i1 i2 l1 l2)
    (gz : IsZipHeld s.heap zp tI tO T f) (gT : s.heap.get? T = some oT) (gI : IsPair s.heap tI (.ref i1) (.ref i2))
    (g1 : s.heap.IsTupleIter i1 l1 k1) (g2 : s.heap.IsTupleIter i2 l2 k2) (t1 : s.heap.IsTuple l1 xs) (t2 : s.heap.IsTuple l2 ys) (over : xs[k1]? = none ∨ ys[k2]? = none)
    (goalE : ∀ h' e, (∀ c o, c ≠ zp → c ≠ i1 → c ≠ i2 → s.heap.get? c = some o → h'.get? c = some o) → (∃ o, h'.get? e = some o ∧ o.cls = .type "StopIteration") → E (.ref e) { s with heap := h' }) :
    wpAny (model prog w) A (Builtin.«zip.__next__» ⟨[.ref zp], []⟩) Q E s := by
  show wpAny _ _ (field (.ref zp) 2 >>= _) _ _ _
  refine wpAny_bind (wpAny_field gz rfl (x := .bool false) rfl ?_)
  show wpAny _ _ (field (.ref zp) 3 >>= _) _ _ _
  refine wpAny_bind (wpAny_field gz rfl (x := .ref tI) rfl ?_)
  refine wpAny_bind (wpAny_seqItems gI rfl ?_)
  show wpAny _ _ (Builtin.SmallTypes.ownedTupleIsFree (.ref zp) >>= _) _ _ _
  refine wpAny_bind (wpAny_tupleHeld_zip gz gT fun m1 gz1 b1 => ?_)
  simp only [Bool.false_eq_true, if_false]
  refine wpAny_bind ?_
  rw [← Array.forIn_toList]
  simp only [List.forIn_cons, List.forIn_nil]
  refine wpAny_bind (wpAny_bind (wpAny_holding ?_))
  show wpAny _ _ (Builtin.SmallTypes.nextOf (.ref i1) >>= _) _ _ _
  cases ex : xs[k1]? with
  | none =>
    refine wpAny_bind (RZ.nextOf_tuple_end (s := { s with heap := m1 }) calm (g1.extBut b1.extBut D.i1z) (t1.extBut b1.extBut D.l1z) ex fun m2 e b2 hexc => ?_)
    exact goalE m2 e (fun c o c1 c2 _ x => b2 _ _ c2 (b1.extBut _ _ c1 x)) hexc
  | some x =>
    have ey : ys[k2]? = none := by rcases over with h | h; rw [ex] at h; cases h; exact h
    refine wpAny_bind (RZ.nextOf_tuple_item (s := { s with heap := m1 }) (g1.extBut b1.extBut D.i1z) (t1.extBut b1.extBut D.l1z) ex fun m2 g1b b2 => wpAny_pure ?_)
    refine wpAny_pure ?_
    refine wpAny_bind (wpAny_bind (wpAny_holding ?_))
    show wpAny _ _ (Builtin.SmallTypes.nextOf (.ref i2) >>= _) _ _ _
    refine wpAny_bind (RZ.nextOf_tuple_end (s := { s with heap := m2 }) calm ((g2.extBut b1.extBut D.i2z).extBut b2.extBut D.i12.symm) ((t2.extBut b1.extBut D.l2z).extBut b2.extBut D.l2i1) ey fun m3 e b3 hexc => ?_)
    exact goalE m3 e (fun c o c1 c2 c3 x => b3 _ _ c3 (b2.extBut _ _ c2 (b1.extBut _ _ c1 x))) hexc

theorem nextT_held {zp tI tO T i1 i2 l1 l2 : Addr} {f : Bool} {oT : Obj} {k1 k2 : Nat} {xs ys : Array Value} {x y : Value} {Q : Option Value → Shared → Prop} (D : ZipApart zp tI tO i1 i2 l1 l2)
    (gz : IsZipHeld s.heap zp tI tO T f) (gT : s.heap.get? T = some oT) (gI : IsPair s.heap tI (.ref i1) (.ref i2))
    (g1 : s.heap.IsTupleIter i1 l1 k1) (g2 : s.heap.IsTupleIter i2 l2 k2) (t1 : s.heap.IsTuple l1 xs) (t2 : s.heap.IsTuple l2 ys) (ex : xs[k1]? = some x) (ey : ys[k2]? = some y)
    (goal : ∀ h', IsZipHeld h' zp tI tO T true → h'.IsTupleIter i1 l1 (k1 + 1) → h'.IsTupleIter i2 l2 (k2 + 1) → IsPair h' s.heap.objs.size x y → h'.objs.size = s.heap.objs.size + 1 →
      (∀ c o, c ≠ zp → c ≠ i1 → c ≠ i2 → s.heap.get? c = some o → h'.get? c = some o) → Q (some (.ref s.heap.objs.size)) { s with heap := h' }) :
    wpAny (model prog w) A (pyNext (.ref zp)) Q E s := by
  have ty : s.TypeIs (.ref zp) "zip" := ⟨_, gz, rfl⟩
  unfold pyNext
  exact wpAny_bind (wpAny_attempt (wpAny_callSpecial?_slot (name := Str.ofString "__next__") ty F.slot_zip_next
    (wpAny_call_entry F.slot_zip_next ty F.entry_zip_next
      (heldT_item D gz gT gI g1 g2 t1 t2 ex ey fun h' a1 a3 a4 a5 a6 a7 => wpAny_pure (goal h' a1 a3 a4 a5 a6 a7)) (F.args_zip_next_1 _))))
theorem nextT_heldEnd {zp tI tO T i1 i2 l1 l2 : Addr} {f : Bool} {oT : Obj} {k1 k2 : Nat} {xs ys : Array Value} {Q : Option Value → Shared → Prop} (calm : A.handled = none) (D : ZipApart zp tI tO i1 i2 l1 l2)
    (gz : IsZipHeld s.heap zp tI tO T f) (gT : s.heap.get? T = some oT) (gI : IsPair s.heap tI (.ref i1) (.ref i2))
    (g1 : s.heap.IsTupleIter i1 l1 k1) (g2 : s.heap.IsTupleIter i2 l2 k2) (t1 : s.heap.IsTuple l1 xs) (t2 : s.heap.IsTuple l2 ys) (over : xs[k1]? = none ∨ ys[k2]? = none)
    (goal : ∀ h', (∀ c o, c ≠ zp → c ≠ i1 → c ≠ i2 → s.heap.get? c = some o → h'.get? c = some o) → Q none { s with heap := h' }) : wpAny (model prog w) A (pyNext (.ref zp)) Q E s := by
  have ty : s.TypeIs (.ref zp) "zip" := ⟨_, gz, rfl⟩
  unfold pyNext
  refine wpAny_bind (wpAny_attempt (wpAny_callSpecial?_slot (name := Str.ofString "__next__") ty F.slot_zip_next
    (wpAny_call_entry F.slot_zip_next ty F.entry_zip_next (heldT_end calm D gz gT gI g1 g2 t1 t2 over fun h' e kept hexc => ?_) (F.args_zip_next_1 _))))
  obtain ⟨o, ho, hc⟩ := hexc
  refine wpAny_bind (wpAny_isInstance (T := "StopIteration") (b := true) ⟨o, ho, hc⟩ isSubtype_stop ?_)
  exact wpAny_pure (goal _ kept)

end
section
variable {prog : Program} {w : World}
theorem pairsT (zp tI tO i1 i2 l1 l2 : Addr) (D : ZipApart zp tI tO i1 i2 l1 l2) (xs ys : Array Value) :
    PairArg prog w "zip" zp [zp, tI, tO, i1, i2, l1, l2] [zp, tO, i1, i2] (min xs.size ys.size) (fun i k v => xs[i]? = some k ∧ ys[i]? = some v)
      (fun h => IsZip h zp tI tO .none ∧ IsPair h tI (.ref i1) (.ref i2) ∧ (∃ a b, IsPair h tO a b) ∧ h.IsTupleIter i1 l1 0 ∧ h.IsTupleIter i2 l2 0 ∧ h.IsTuple l1 xs ∧ h.IsTuple l2 ys) where
  type := fun s ok => ⟨_, ok.1, rfl⟩
  notDict := by decide
  keep := fun h h' ok kept => by
    obtain ⟨gz, gI, ⟨a, b, gO⟩, g1, g2, t1, t2⟩ := ok
    exact ⟨kept _ _ gz, kept _ _ gI, ⟨a, b, kept _ _ gO⟩, g1.at fun o e => kept _ o e, g2.at fun o e => kept _ o e, t1.at fun o e => kept _ o e, t2.at fun o e => kept _ o e⟩
  there := fun h ok b hb => by
    obtain ⟨gz, gI, ⟨a, c, gO⟩, ⟨o1, g1, _⟩, ⟨o2, g2, _⟩, ⟨o3, t1, _⟩, ⟨o4, t2, _⟩⟩ := ok
    simp only [List.mem_cons, List.not_mem_nil, or_false] at hb
    rcases hb with rfl | rfl | rfl | rfl | rfl | rfl | rfl
    all_goals first | exact ⟨_, gz⟩ | exact ⟨_, gI⟩ | exact ⟨_, gO⟩ | exact ⟨_, g1⟩ | exact ⟨_, g2⟩ | exact ⟨_, t1⟩ | exact ⟨_, t2⟩
  sub := fun b hb => by simp at hb ⊢; rcases hb with rfl | rfl | rfl | rfl <;> simp
  noKeys := fun A s Q E hA ok h => getAttrOr_miss_zip ok.1 rfl rfl rfl zip_no_keys (by decide +kernel) hA h
  iter := fun A s d Q E hA ok hd hdf h => by
    obtain ⟨gz, gI, ⟨a, b, gO⟩, g1, g2, t1, t2⟩ := ok
    simp only [List.mem_cons, List.not_mem_nil, or_false, not_or] at hdf
    obtain ⟨dz, dTI, dTO, di1, di2, dl1, dl2⟩ := hdf
    refine wpAny_pyIter_zip gz (h zp [zp, tO, i1, i2] (fun i h => IsPair h tI (.ref i1) (.ref i2) ∧ h.IsTupleIter i1 l1 i ∧ h.IsTupleIter i2 l2 i ∧ h.IsTuple l1 xs ∧ h.IsTuple l2 ys ∧
      ((IsZip h zp tI tO .none ∧ ∃ a b, IsPair h tO a b) ∨ ∃ T f oT, IsZipHeld h zp tI tO T f ∧ h.get? T = some oT ∧ T ≠ zp ∧ T ≠ i1 ∧ T ≠ i2 ∧ T ≠ d)) s.heap s.toks ?_
      ⟨gI, g1, g2, t1, t2, .inl ⟨gz, a, b, gO⟩⟩ (fun _ _ e => e) fun b hb => .inl hb)
    exact {
      off := fun hm => by
        simp only [List.mem_cons, List.not_mem_nil, or_false] at hm
        rcases hm with e | e | e | e
        · exact dz e
        · exact dTO e
        · exact di1 e
        · exact di2 e
      frame := fun i m1 m2 st kept => by
        obtain ⟨gI, g1, g2, t1, t2, gz⟩ := st
        refine ⟨kept _ _ (Ne.symm dTI) gI, g1.at fun o e => kept _ o (Ne.symm di1) e, g2.at fun o e => kept _ o (Ne.symm di2) e, t1.at fun o e => kept _ o (Ne.symm dl1) e, t2.at fun o e => kept _ o (Ne.symm dl2) e, ?_⟩
        rcases gz with ⟨gz, a, b, gO⟩ | ⟨T, f, oT, gz, gT, r1, r2, r3, r4⟩
        · exact .inl ⟨kept _ _ (Ne.symm dz) gz, a, b, kept _ _ (Ne.symm dTO) gO⟩
        · exact .inr ⟨T, f, oT, kept _ _ (Ne.symm dz) gz, kept _ _ r4 gT, r1, r2, r3, r4⟩
      item := fun i s₁ Q₁ E₁ hi st hds goal => by
        obtain ⟨gI, g1, g2, t1, t2, gz⟩ := st
        have hix : i < xs.size := Nat.lt_of_lt_of_le hi (Nat.min_le_left ..)
        have hiy : i < ys.size := Nat.lt_of_lt_of_le hi (Nat.min_le_right ..)
        have ex := Array.getElem?_eq_getElem hix
        have ey := Array.getElem?_eq_getElem hiy
        have lt : ∀ {c o}, s₁.heap.get? c = some o → s₁.heap.objs.size ≠ c := fun e => Nat.ne_of_gt (Heap.lt_size e)
        have n1 : s₁.heap.objs.size ≠ i1 := let ⟨_, e, _⟩ := g1; lt e
        have n2 : s₁.heap.objs.size ≠ i2 := let ⟨_, e, _⟩ := g2; lt e
        rcases gz with ⟨gz, a, b, gO⟩ | ⟨T, f, oT, gz, gT, r1, r2, r3, r4⟩
        · refine RZ.pyNext_zipT_item D gz gI gO g1 g2 t1 t2 ex ey fun h' a1 a2 a3 a4 a5 a6 kept => ?_
          exact goal s₁.heap.objs.size _ _ h' s₁.toks ⟨ex, ey⟩ (.inl ⟨_, a5, rfl, _, rfl⟩)
            ⟨kept _ _ D.TIz D.TITO D.TIi1 D.TIi2 gI, a3, a4, t1.at fun o e => kept _ o D.l1z D.l1TO D.l1i1 D.l1i2 e, t2.at fun o e => kept _ o D.l2z D.l2TO D.l2i1 D.l2i2 e,
              .inr ⟨s₁.heap.objs.size, false, _, a1, a5, lt gz, n1, n2, Nat.ne_of_gt hds⟩⟩
            fun c o hc e => kept c o (fun x => hc (by simp [x])) (fun x => hc (by simp [x])) (fun x => hc (by simp [x])) (fun x => hc (by simp [x])) e
        · refine nextT_held D gz gT gI g1 g2 t1 t2 ex ey fun h' a1 a3 a4 a5 a6 kept => ?_
          exact goal s₁.heap.objs.size _ _ h' s₁.toks ⟨ex, ey⟩ (.inl ⟨_, a5, rfl, _, rfl⟩)
            ⟨kept _ _ D.TIz D.TIi1 D.TIi2 gI, a3, a4, t1.at fun o e => kept _ o D.l1z D.l1i1 D.l1i2 e, t2.at fun o e => kept _ o D.l2z D.l2i1 D.l2i2 e,
              .inr ⟨T, true, oT, a1, kept _ _ r1 r2 r3 gT, r1, r2, r3, r4⟩⟩
            fun c o hc e => kept c o (fun x => hc (by simp [x])) (fun x => hc (by simp [x])) (fun x => hc (by simp [x])) e
      done := fun s₁ Q₁ E₁ st goal => by
        obtain ⟨gI, g1, g2, t1, t2, gz⟩ := st
        have over : xs[min xs.size ys.size]? = none ∨ ys[min xs.size ys.size]? = none := by
          rcases Nat.le_total xs.size ys.size with h | h
          · exact .inl (Array.getElem?_eq_none (by rw [Nat.min_eq_left h]; exact Nat.le_refl _))
          · exact .inr (Array.getElem?_eq_none (by rw [Nat.min_eq_right h]; exact Nat.le_refl _))
        rcases gz with ⟨gz, a, b, gO⟩ | ⟨T, f, oT, gz, gT, r1, r2, r3, r4⟩
        · exact RZ.pyNext_zipT_end hA D gz gI gO g1 g2 t1 t2 over fun h' kept => goal h' s₁.toks fun c o hc e => kept c o (fun x => hc (by simp [x])) (fun x => hc (by simp [x])) (fun x => hc (by simp [x])) (fun x => hc (by simp [x])) e
        · exact nextT_heldEnd hA D gz gT gI g1 g2 t1 t2 over fun h' kept => goal h' s₁.toks fun c o hc e => kept c o (fun x => hc (by simp [x])) (fun x => hc (by simp [x])) (fun x => hc (by simp [x])) e }

end
end K39

set_option Elab.async false
set_option linter.all false
set_option maxRecDepth 100000
set_option maxHeartbeats 4000000
namespace K39
open PySem PySem.Spec PyProof.Rows L2

/-! ### list(zip(xs, ys)) at the heap's level -/
theorem zip_noLen : typeLookup (.type "zip") "__len__" = pure none := am_miss_of_fast (by decide +kernel)
theorem zip_noHint : typeLookup (.type "zip") "__length_hint__" = pure none := am_miss_of_fast (by decide +kernel)

/-- a zip over two lists that has given i pairs, while a list is being filled at S -/
structure ZS (z TI TO i1 i2 l1 l2 S : Addr) (xs ys : Array Value) (i : Nat) (h : Heap) : Prop where
  pI : IsPair h TI (.ref i1) (.ref i2)
  a1 : h.IsListIter i1 l1 i
  a2 : h.IsListIter i2 l2 i
  q1 : h.IsList l1 xs
  q2 : h.IsList l2 ys
  st : (IsZip h z TI TO .none ∧ ∃ a b, IsPair h TO a b) ∨ ∃ T f oT, IsZipHeld h z TI TO T f ∧ h.get? T = some oT ∧ T ≠ z ∧ T ≠ i1 ∧ T ≠ i2 ∧ T ≠ S
/-- S stands apart from what the zip is made of -/
structure Off (z TI TO i1 i2 l1 l2 S : Addr) : Prop where
  z : z ≠ S
  TI : TI ≠ S
  TO : TO ≠ S
  i1 : i1 ≠ S
  i2 : i2 ≠ S
  l1 : l1 ≠ S
  l2 : l2 ≠ S
section
variable {z TI TO i1 i2 l1 l2 S : Addr} {xs ys : Array Value} {i : Nat}
theorem ZS.keep {h h' : Heap} (x : ZS z TI TO i1 i2 l1 l2 S xs ys i h) (o : Off z TI TO i1 i2 l1 l2 S) (k : ∀ b u, b ≠ S → h.get? b = some u → h'.get? b = some u) : ZS z TI TO i1 i2 l1 l2 S xs ys i h' := by
  refine ⟨k _ _ o.TI x.pI, x.a1.at fun u e => k _ u o.i1 e, x.a2.at fun u e => k _ u o.i2 e, x.q1.at fun u e => k _ u o.l1 e, x.q2.at fun u e => k _ u o.l2 e, ?_⟩
  rcases x.st with ⟨hz, a, b, hTO⟩ | ⟨T, f, oT, hz, hT, r1, r2, r3, r4⟩
  · exact .inl ⟨k _ _ o.z hz, a, b, k _ _ o.TO hTO⟩
  · exact .inr ⟨T, f, oT, k _ _ o.z hz, k _ _ r4 hT, r1, r2, r3, r4⟩
variable {prog : Program} {w : World} {A : Around} {E : Value → Shared → Prop} {s : Shared}
theorem ZS.item {x y : Value} {Q : Option Value → Shared → Prop} (Z : ZS z TI TO i1 i2 l1 l2 S xs ys i s.heap) (D : ZipApart z TI TO i1 i2 l1 l2) (hS : S < s.heap.objs.size) (ex : xs[i]? = some x) (ey : ys[i]? = some y)
    (goal : ∀ h', ZS z TI TO i1 i2 l1 l2 S xs ys (i + 1) h' → IsPair h' s.heap.objs.size x y → (∀ c o, c ∉ [z, TO, i1, i2] → s.heap.get? c = some o → h'.get? c = some o) → Q (some (.ref s.heap.objs.size)) { s with heap := h' }) :
    wpAny (model prog w) A (pyNext (.ref z)) Q E s := by
  have lt : ∀ {c o}, s.heap.get? c = some o → s.heap.objs.size ≠ c := fun e => Nat.ne_of_gt (Heap.lt_size e)
  have n1 : s.heap.objs.size ≠ i1 := let ⟨_, e, _⟩ := Z.a1; lt e
  have n2 : s.heap.objs.size ≠ i2 := let ⟨_, e, _⟩ := Z.a2; lt e
  rcases Z.st with ⟨hz, a, b, hTO⟩ | ⟨T, f, oT, hz, hT, r1, r2, r3, r4⟩
  · refine wpAny_pyNext_zip_item D hz Z.pI hTO Z.a1 Z.a2 Z.q1 Z.q2 ex ey fun h' b1 b2 b3 b4 b5 b6 kept => ?_
    refine goal h' ⟨kept _ _ D.TIz D.TITO D.TIi1 D.TIi2 Z.pI, b3, b4, Z.q1.at fun o e => kept _ o D.l1z D.l1TO D.l1i1 D.l1i2 e, Z.q2.at fun o e => kept _ o D.l2z D.l2TO D.l2i1 D.l2i2 e, ?_⟩ b5 fun c o nc e => ?_
    · exact .inr ⟨s.heap.objs.size, false, _, b1, b5, lt hz, n1, n2, Nat.ne_of_gt hS⟩
    · exact kept c o (fun q => nc (by simp [q])) (fun q => nc (by simp [q])) (fun q => nc (by simp [q])) (fun q => nc (by simp [q])) e
  · refine wpAny_pyNext_zip_item_held D hz hT Z.pI Z.a1 Z.a2 Z.q1 Z.q2 ex ey fun h' b1 b3 b4 b5 b6 kept => ?_
    refine goal h' ⟨kept _ _ D.TIz D.TIi1 D.TIi2 Z.pI, b3, b4, Z.q1.at fun o e => kept _ o D.l1z D.l1i1 D.l1i2 e, Z.q2.at fun o e => kept _ o D.l2z D.l2i1 D.l2i2 e, ?_⟩ b5 fun c o nc e => ?_
    · exact .inr ⟨T, true, oT, b1, kept _ _ r1 r2 r3 hT, r1, r2, r3, r4⟩
    · exact kept c o (fun q => nc (by simp [q])) (fun q => nc (by simp [q])) (fun q => nc (by simp [q])) e
theorem ZS.last {Q : Option Value → Shared → Prop} (Z : ZS z TI TO i1 i2 l1 l2 S xs ys i s.heap) (calm : A.handled = none) (D : ZipApart z TI TO i1 i2 l1 l2) (over : xs[i]? = none)
    (goal : ∀ h', (∀ c o, c ∉ [z, TO, i1, i2] → s.heap.get? c = some o → h'.get? c = some o) → Q none { s with heap := h' }) : wpAny (model prog w) A (pyNext (.ref z)) Q E s := by
  rcases Z.st with ⟨hz, a, b, hTO⟩ | ⟨T, f, oT, hz, hT, r1, r2, r3, r4⟩
  · exact wpAny_pyNext_zip_end calm D hz Z.pI hTO Z.a1 Z.a2 Z.q1 Z.q2 (.inl over) fun h' kept => goal h' fun c o nc e => kept c o (fun q => nc (by simp [q])) (fun q => nc (by simp [q])) (fun q => nc (by simp [q])) (fun q => nc (by simp [q])) e
  · exact wpAny_pyNext_zip_end_held calm D hz hT Z.pI Z.a1 Z.a2 Z.q1 Z.q2 (.inl over) fun h' kept => goal h' fun c o nc e => kept c o (fun q => nc (by simp [q])) (fun q => nc (by simp [q])) (fun q => nc (by simp [q])) e
end
/-- the pairs given so far stand at the addresses as, all of them at lo or above -/
def Given (xs ys : Array Value) (lo : Addr) (h : Heap) (as : List Addr) : Prop := ∀ (j : Nat) (a : Addr), as[j]? = some a → lo ≤ a ∧ ∃ x y, xs[j]? = some x ∧ ys[j]? = some y ∧ IsPair h a x y
section
variable {prog : Program} {w : World} {A : Around} {s : Shared} {R : Result → Shared → Prop} {z TI TO i1 i2 l1 l2 S lo : Addr} {xs ys : Array Value}
theorem lz_loop (calm : A.handled = none) (D : ZipApart z TI TO i1 i2 l1 l2) (off : Off z TI TO i1 i2 l1 l2 S) (low : ∀ c ∈ [z, TO, i1, i2, S], c < lo) (same : xs.size = ys.size) (few : xs.size ≤ sizeLine) (res : Value) {h₁ : Heap}
    (hR : ∀ h' tk acc c as, (∀ b o, b ∉ [z, TO, i1, i2, S] → h₁.get? b = some o → h'.get? b = some o) → h'.get? S = some { cls := .type "list", dict := none, data := .seq acc c, slots := #[] } → as.length = xs.size → Given xs ys lo h' as →
      acc.toList = as.map Value.ref → R (.ok (.ret res)) { s with heap := h', toks := tk }) :
    ∀ (k i : Nat) (h : Heap) (tk c : Nat) (acc : Array Value) (as : List Addr), xs.size - i = k → i ≤ xs.size → ZS z TI TO i1 i2 l1 l2 S xs ys i h → (∀ b o, b ∉ [z, TO, i1, i2, S] → h₁.get? b = some o → h.get? b = some o) →
      h.get? S = some { cls := .type "list", dict := none, data := .seq acc c, slots := #[] } → acc.toList = as.map Value.ref → as.length = i → Given xs ys lo h as → lo ≤ h.objs.size →
      codeAny (model prog w) A (.builtin "list.extend.loop" ⟨[.ref S, .ref z, res], []⟩) R { s with heap := h, toks := tk } := by
  have outS : S ∉ [z, TO, i1, i2] := by
    simp only [List.mem_cons, List.not_mem_nil, or_false, not_or]
    exact ⟨off.z.symm, off.TO.symm, off.i1.symm, off.i2.symm⟩
  have sub : ∀ b, b ∉ [z, TO, i1, i2, S] → b ∉ [z, TO, i1, i2] ∧ b ≠ S := fun b hb => by
    simp only [List.mem_cons, List.not_mem_nil, or_false, not_or] at hb ⊢
    exact ⟨⟨hb.1, hb.2.1, hb.2.2.1, hb.2.2.2.1⟩, hb.2.2.2.2⟩
  have above : ∀ a, lo ≤ a → a ∉ [z, TO, i1, i2] := fun a ha hm => by
    have hm' : a ∈ [z, TO, i1, i2, S] := by
      simp only [List.mem_cons, List.not_mem_nil, or_false] at hm ⊢
      rcases hm with q | q | q | q
      · exact .inl q
      · exact .inr (.inl q)
      · exact .inr (.inr (.inl q))
      · exact .inr (.inr (.inr (.inl q)))
    exact absurd (Nat.lt_of_lt_of_le (low a hm') ha) (Nat.lt_irrefl _)
  have loS : S < lo := low S (by simp)
  intro k
  induction k with
  | zero =>
    intro i h tk c acc as hk hi Z kept atS eacc len G big
    have fin : i = xs.size := by omega
    refine codeAny_builtin F.entry_extend_loop ?_
    rw [Around.under_plainId F.plain_extend_loop _]
    show wpAny _ A.in1 (pyNext (.ref z) >>= _) _ _ _
    refine wpAny_bind (ZS.last (s := { s with heap := h, toks := tk }) (A := A.in1) Z calm D (Array.getElem?_eq_none (by omega)) fun h' he => ?_)
    refine wpAny_pure (hR h' tk acc c as (fun b o hb e => he b o (sub b hb).1 (kept b o hb e)) (he S _ outS atS) (by omega) (fun j a hj => ?_) eacc)
    obtain ⟨la, x, y, e1, e2, e3⟩ := G j a hj
    exact ⟨la, x, y, e1, e2, he a _ (above a la) e3⟩
  | succ k ih =>
    intro i h tk c acc as hk hi Z kept atS eacc len G big
    have more : i < xs.size := by omega
    have more2 : i < ys.size := by omega
    have siz : acc.size = i := by rw [← Array.length_toList, eacc, List.length_map, len]
    have Slt : S < h.objs.size := Heap.lt_size atS
    refine codeAny_builtin F.entry_extend_loop ?_
    rw [Around.under_plainId F.plain_extend_loop _]
    show wpAny _ A.in1 (pyNext (.ref z) >>= _) _ _ _
    refine wpAny_bind (ZS.item (s := { s with heap := h, toks := tk }) Z D Slt (Array.getElem?_eq_getElem more) (Array.getElem?_eq_getElem more2) fun h' Z' pr he => ?_)
    dsimp only at pr he ⊢
    have atS' := he S _ outS atS
    have up : ∀ b o, b ≠ S → h'.get? b = some o → (h'.update S (Obj.mapSeq (·.push (Value.ref h.objs.size)))).get? b = some o := fun b o nb e => (Heap.get?_update_other _ _ (Ne.symm nb)).trans e
    have nS : h.objs.size ≠ S := Nat.ne_of_gt Slt
    show wpAny _ A.in1 (updateSeq S (·.push (Value.ref h.objs.size)) >>= _) _ _ _
    refine wpAny_bind ?_
    refine wpAny_updateSeq atS' rfl (wpAny_pure ⟨plainId_quiet F.plain_extend_loop _, ih (i + 1) _ tk _ (acc.push (Value.ref h.objs.size)) (as ++ [h.objs.size]) (by omega) more (Z'.keep off up)
      (fun b o hb e => up b o (sub b hb).2 (he b o (sub b hb).1 (kept b o hb e))) (Heap.get?_update_self _ atS' rfl) (by rw [Array.toList_push, eacc, List.map_append]; rfl) (by rw [List.length_append, len]; rfl) (fun j a hj => ?_) ?_⟩)
      (by rw [siz]; omega) (by show (acc.push (Value.ref h.objs.size)).size ≤ sizeLine + 1; rw [Array.size_push, siz]; omega)
    · rcases Nat.lt_trichotomy j as.length with q | q | q
      · rw [List.getElem?_append_left q] at hj
        obtain ⟨la, x, y, e1, e2, e3⟩ := G j a hj
        exact ⟨la, x, y, e1, e2, up a _ (Nat.ne_of_gt (Nat.lt_of_lt_of_le loS la)) (he a _ (above a la) e3)⟩
      · subst q
        have ea : h.objs.size = a := by simpa using hj
        subst ea
        have ji : as.length = i := len
        exact ⟨big, xs[i], ys[i], by rw [ji]; exact Array.getElem?_eq_getElem more, by rw [ji]; exact Array.getElem?_eq_getElem more2, up _ _ nS pr⟩
      · have none' : (as ++ [h.objs.size])[j]? = none := List.getElem?_eq_none (by rw [List.length_append, List.length_singleton]; omega)
        rw [none'] at hj
        cases hj
    · have e : (h'.update S (Obj.mapSeq (·.push (Value.ref h.objs.size)))).get? h.objs.size = _ := up _ _ nS pr
      exact Nat.le_trans big (Nat.le_of_lt (Heap.lt_size e))
theorem lz_extend (calm : A.handled = none) (D : ZipApart z TI TO i1 i2 l1 l2) (off : Off z TI TO i1 i2 l1 l2 S) (low : ∀ c ∈ [z, TO, i1, i2, S], c < s.heap.objs.size) (same : xs.size = ys.size) (few : xs.size ≤ sizeLine) (res : Value) (c₀ : Nat)
    (hz : IsZip s.heap z TI TO .none) (Z : ZS z TI TO i1 i2 l1 l2 S xs ys 0 s.heap) (atS : s.heap.get? S = some { cls := .type "list", data := .seq #[] c₀ })
    (hR : ∀ h' tk acc c as, (∀ b o, b ∉ [z, TO, i1, i2, S] → s.heap.get? b = some o → h'.get? b = some o) → h'.get? S = some { cls := .type "list", dict := none, data := .seq acc c, slots := #[] } → as.length = xs.size →
      Given xs ys s.heap.objs.size h' as → acc.toList = as.map Value.ref → R (.ok (.ret res)) { s with heap := h', toks := tk }) :
    wpAny (model prog w) A.in1 (Builtin.List.listExtendWith (.ref S) (.ref z) res)
      (fun fin s' => match fin with | .done f => R (.ok f) s' | .again c' => c'.quiet = true ∧ codeAny (model prog w) A c' R s') (fun e s' => R (.error e) s') s := by
  have ty : s.TypeIs (.ref z) "zip" := ⟨_, hz, rfl⟩
  unfold Builtin.List.listExtendWith
  refine wpAny_bind (wpAny_typeOf ty ?_)
  have h1 : Builtin.List.listSameRef (.ref S) (.ref z) = false := by simp [Builtin.List.listSameRef, off.z.symm]
  have h2 : (Value.type "zip" == Value.type "list") = false := by decide
  have h3 : (Value.type "zip" == Value.type "tuple") = false := by decide
  simp only [h1, h2, h3, Bool.or_false, Bool.false_eq_true, if_false]
  refine wpAny_bind (wpAny_pyIter_zip hz ?_)
  refine wpAny_bind (wpAny_holding ?_)
  unfold Builtin.List.listLengthHint
  refine wpAny_bind (wpAny_specialOf ty zip_noLen ?_)
  show wpAny _ A.in1 (specialOf (Value.ref z) (Str.ofString "__length_hint__") >>= _) _ _ _
  refine wpAny_bind (wpAny_specialOf ty zip_noHint ?_)
  refine wpAny_pure ?_
  show wpAny _ A.in1 (rule "list.extend.makes-room" >>= fun _ => Builtin.List.listTouch (.ref S) >>= fun _ =>
    again (.builtin "list.extend.loop" ⟨[.ref S, .ref z, res], []⟩)) _ _ _
  refine wpAny_bind (wpAny_rule ?_)
  refine wpAny_bind ?_
  show wpAny _ A.in1 (updateSeq S (·.push .none) >>= fun _ => updateSeq S (·.pop)) _ _ _
  refine wpAny_bind (wpAny_updateSeq atS rfl ?_)
  have atS2 := Heap.get?_update_self (Obj.mapSeq (·.push Value.none)) atS rfl
  refine wpAny_updateSeq (hz := by seq_fits) atS2 rfl ?_
  have atS3 := Heap.get?_update_self (Obj.mapSeq (·.pop)) atS2 rfl
  have oth : ∀ b o, b ≠ S → s.heap.get? b = some o → ((s.heap.update S (Obj.mapSeq (·.push Value.none))).update S (Obj.mapSeq (·.pop))).get? b = some o :=
    fun b o nb e => (Heap.get?_update_other _ _ (Ne.symm nb)).trans ((Heap.get?_update_other _ _ (Ne.symm nb)).trans e)
  refine wpAny_pure ⟨plainId_quiet F.plain_extend_loop _, lz_loop (s := s) (h₁ := s.heap) calm D off low same few res hR xs.size 0 _ s.toks _ #[] [] (Nat.sub_zero _) (Nat.zero_le _) (Z.keep off oth) (fun b o hb e => oth b o (fun q => hb (by simp [q])) e) atS3 rfl rfl
    (fun j a hj => by simp at hj) (by rw [Heap.size_update, Heap.size_update]; exact Nat.le_refl _)⟩
end
section
variable {prog : Program} {w : World} {A : Around} {E : Value → Shared → Prop} {s : Shared} {z TI TO i1 i2 l1 l2 : Addr} {xs ys : Array Value}
theorem lz_call {Q : Value → Shared → Prop} (calm : A.handled = none) (D : ZipApart z TI TO i1 i2 l1 l2) (same : xs.size = ys.size) (few : xs.size ≤ sizeLine) (hz : IsZip s.heap z TI TO .none) (pI : IsPair s.heap TI (.ref i1) (.ref i2))
    (hTO : ∃ a b, IsPair s.heap TO a b) (a1 : s.heap.IsListIter i1 l1 0) (a2 : s.heap.IsListIter i2 l2 0) (q1 : s.heap.IsList l1 xs) (q2 : s.heap.IsList l2 ys)
    (hQ : ∀ h' tk acc c as, (∀ b o, b ∉ [z, TO, i1, i2] → s.heap.get? b = some o → h'.get? b = some o) → h'.get? s.heap.objs.size = some { cls := .type "list", dict := none, data := .seq acc c, slots := #[] } → as.length = xs.size →
      Given xs ys s.heap.objs.size h' as → acc.toList = as.map Value.ref → Q (.ref s.heap.objs.size) { s with heap := h', toks := tk }) :
    wpAny (model prog w) A (call (.type "list") [.ref z]) Q E s := by
  refine callType_codes (Q₁ := fun obj s₁ => obj = .ref s.heap.objs.size ∧ s₁ = { s with heap := s.heap.push { cls := .type "list", data := .seq #[] } }) PySem.F.called_list (PySem.F.typeCall_list_1 _) PySem.F.entry_list_init
    (code_list_new _ ⟨rfl, rfl⟩) fun obj s₁ h₁ => ?_
  obtain ⟨rfl, rfl⟩ := h₁
  have atS : (s.heap.push { cls := .type "list", data := .seq #[] }).get? s.heap.objs.size = some { cls := .type "list", data := .seq #[] } := Heap.get?_push_size _ rfl
  obtain ⟨a, b, hTO⟩ := hTO
  have lt : ∀ {c o}, s.heap.get? c = some o → c < s.heap.objs.size := fun e => Heap.lt_size e
  have ltz := lt hz
  have ltTI := lt pI
  have ltTO := lt hTO
  have lti1 : i1 < s.heap.objs.size := let ⟨_, e, _⟩ := a1; lt e
  have lti2 : i2 < s.heap.objs.size := let ⟨_, e, _⟩ := a2; lt e
  have ltl1 : l1 < s.heap.objs.size := let ⟨_, e, _⟩ := q1; lt e
  have ltl2 : l2 < s.heap.objs.size := let ⟨_, e, _⟩ := q2; lt e
  have off : Off z TI TO i1 i2 l1 l2 s.heap.objs.size := ⟨Nat.ne_of_lt ltz, Nat.ne_of_lt ltTI, Nat.ne_of_lt ltTO, Nat.ne_of_lt lti1, Nat.ne_of_lt lti2, Nat.ne_of_lt ltl1, Nat.ne_of_lt ltl2⟩
  have upz : IsZip (s.heap.push { cls := .type "list", data := .seq #[] }) z TI TO .none := Heap.get?_push_of_some _ hz
  refine ⟨⟨_, atS, rfl⟩, PySem.F.args_list_init_2 _ _, ?_⟩
  show wpAny _ _ (do let old ← Builtin.List.listItems (.ref s.heap.objs.size); Builtin.List.listUpdate (.ref s.heap.objs.size) (fun _ => #[]); letGo old.toList.reverse; Builtin.List.listExtendWith (.ref s.heap.objs.size) (.ref z) .none) _ _ _
  refine wpAny_bind ?_
  unfold Builtin.List.listItems
  refine wpAny_bind (wpAny_seqItems atS rfl (wpAny_pure ?_))
  show wpAny _ _ (updateSeq s.heap.objs.size (fun _ => #[]) >>= fun _ => letGo (#[] : Array Value).toList.reverse >>= fun _ => Builtin.List.listExtendWith (.ref s.heap.objs.size) (.ref z) .none) _ _ _
  refine wpAny_bind (wpAny_updateSeq atS rfl ?_)
  have atS2 := Heap.get?_update_self (Obj.mapSeq (fun _ => (#[] : Array Value))) atS rfl
  have up : ∀ b o, b ≠ s.heap.objs.size → s.heap.get? b = some o → ((s.heap.push { cls := .type "list", data := .seq #[] }).update s.heap.objs.size (Obj.mapSeq (fun _ => (#[] : Array Value)))).get? b = some o :=
    fun b o nb e => (Heap.get?_update_other _ _ (Ne.symm nb)).trans (Heap.get?_push_of_some _ e)
  refine wpAny_bind (wpAny_letGo ?_)
  have sz2 : ((s.heap.push { cls := .type "list", data := .seq #[] }).update s.heap.objs.size (Obj.mapSeq (fun _ => (#[] : Array Value)))).objs.size = s.heap.objs.size + 1 := by rw [Heap.size_update, Heap.size_push]
  have Z : ZS z TI TO i1 i2 l1 l2 s.heap.objs.size xs ys 0 ((s.heap.push { cls := .type "list", data := .seq #[] }).update s.heap.objs.size (Obj.mapSeq (fun _ => (#[] : Array Value)))) :=
    ZS.keep ⟨pI, a1, a2, q1, q2, .inl ⟨hz, a, b, hTO⟩⟩ off up
  refine lz_extend (A := A.in1) calm D off (fun c hc => ?_) same few .none _ (up _ _ off.z hz) Z atS2 fun h' tk acc c as kept at' len G eacc => ?_
  · refine Nat.lt_of_lt_of_le ?_ (Nat.le_of_eq sz2.symm)
    simp only [List.mem_cons, List.not_mem_nil, or_false] at hc
    rcases hc with q | q | q | q | q
    · rw [q]; exact Nat.lt_succ_of_lt ltz
    · rw [q]; exact Nat.lt_succ_of_lt ltTO
    · rw [q]; exact Nat.lt_succ_of_lt lti1
    · rw [q]; exact Nat.lt_succ_of_lt lti2
    · rw [q]; exact Nat.lt_succ_self _
  · refine ⟨rfl, hQ h' tk acc c as (fun b o nb e => ?_) at' len (fun j a hj => ?_) eacc⟩
    · have ne : b ≠ s.heap.objs.size := Nat.ne_of_lt (Heap.lt_size e)
      refine kept b o (fun hm => ?_) (up b o ne e)
      simp only [List.mem_cons, List.not_mem_nil, or_false, not_or] at hm nb
      rcases hm with q | q | q | q | q
      · exact nb.1 q
      · exact nb.2.1 q
      · exact nb.2.2.1 q
      · exact nb.2.2.2 q
      · exact ne q
    · obtain ⟨la, r⟩ := G j a hj
      exact ⟨Nat.le_of_succ_le (Nat.le_trans (Nat.le_of_eq sz2.symm) la), r⟩
end

/-! ### the two as rules -/
section
variable {X : Cx}
theorem one_raw {M : Model} {A : Around} {E : Value → Shared → Prop} {s : Shared} {e : Expr} {pos : Pos} {Q : List Value → Shared → Prop} (h : wpAny M A (eval e X.env) (fun u s1 => Q [u] s1) E s)
    (hs : starEach [e] X.env = (false, eval e X.env) :: starEach [] X.env := by rfl) : wpAny M A (spliced (backTo pos (starEach [e] X.env))) Q E s := by
  rw [hs]
  show wpAny _ _ (spliced ((false, eval e X.env) :: backTo pos (starEach [] X.env))) _ _ s
  exact Calls.spliced_cons (wpAny_mono h (fun u s1 z => Calls.spliced_nil z) fun _ _ z => z)
theorem boot_dict : bootBuiltins "dict" = some (.type "dict") := by decide +kernel
theorem boot_list : bootBuiltins "list" = some (.type "list") := by decide +kernel
theorem boot_tuple : bootBuiltins "tuple" = some (.type "tuple") := by decide +kernel
theorem kv_zip : ∀ {ks : List Int} {ys : List V} {us : List Value}, Vals ys us → KV ((ks.map Sum.inl : List Key).zip ys) ((ks.map Sum.inl : List Key).zip us)
  | [], _, _, _ => by
    rw [List.map_nil, List.zip_nil_left, List.zip_nil_left]
    exact .nil
  | _ :: _, _, _, .nil => by
    rw [List.zip_nil_right, List.zip_nil_right]
    exact .nil
  | k :: ks, _, _, .cons r t => by
    rw [List.map_cons, List.zip_cons_cons, List.zip_cons_cons]
    exact .cons ⟨rfl, r⟩ (kv_zip t)
/-- dict(list(zip(xs, ys))), xs a list of ints, ys as long -/
def tDLZ (K : PySem.W.Frag) (ta : TA) : TE := fun σ H Q => ta σ H fun vs H1 => ∃ (a b : Addr) (ks : List Int) (ys : List V), vs = [.ref a, .ref b] ∧ SqL K H1 a (ks.map V.int) ∧ SqL K H1 b ys ∧ ks.length = ys.length ∧
  ∀ p, H1 p = none → Q (.ref p) (upd H1 p (.dK (mergeK [] ((ks.map Sum.inl : List Key).zip ys))))
theorem pe_dlz {e e2 : Expr} {ta : TA} {p1 p2 p3 c1 c2 c3 : Pos} (hc : X.calm = true) (g1 : Gl X "dict") (m1 : X.mg "dict" = none) (g2 : Gl X "list") (m2 : X.mg "list" = none) (g3 : Gl X "zip") (m3 : X.mg "zip" = none) (ha : PA X [e, e2] ta)
    (hs : starEach [e, e2] X.env = (false, eval e X.env) :: starEach [e2] X.env := by rfl) (hpl : (backTo c3 (starEach [e2] X.env)).any (·.1) = false := by rfl) :
    PE X (.Call (.Name "dict" p1) [.Call (.Name "list" p2) [.Call (.Name "zip" p3) [e, e2] [] c3] [] c2] [] c1) (tDLZ X.K ta) := by
  refine ⟨fun pins s σ H Q I h => ?_⟩
  refine Call_ (ld_blt I g1 m1 boot_dict (PyProof.Rows.callWith_type1 (one_raw ?_) (by rfl) (by rfl)))
  refine Call_ (ld_blt I g2 m2 boot_list (PyProof.Rows.callWith_type1 (one_raw ?_) (by rfl) (by rfl)))
  refine Call_ (ld_blt I g3 m3 PyProof.Rows.boot_zip (PyProof.Rows.callWith_type1 (thn (ha.run c3 pins s σ H _ I h) fun us s1 ⟨vs, H1, I1, r1, q1⟩ => ?_) hs hpl))
  obtain ⟨a, b, ks, ys, ev, hx, hy, hl, q⟩ := q1
  subst ev
  cases r1 with
  | cons r rr =>
    cases rr with
    | cons r' rr =>
      cases rr
      cases r
      cases r'
      obtain ⟨its, rv, p1, z1⟩ := I1.list hx
      obtain ⟨its2, rv2, p2, z2⟩ := I1.list hy
      have n1 := rv.length
      have n2 := rv2.length
      rw [List.length_map] at n1
      have same : its.toArray.size = its2.toArray.size := by
        rw [List.size_toArray, List.size_toArray]
        omega
      rw [List.length_map] at z1
      refine call_zip_2 p1.isList p2.isList fun h' hz hTI hTO h1 h2 hsz hk => ?_
      refine lz_call (I1.ok.hd hc) (PySem.W.ktu_apart s1.heap.objs.size a b p1.lt p2.lt) same (by rw [List.size_toArray]; omega) hz hTI ⟨_, _, hTO⟩ h1 h2 (p1.isList.at fun o e => hk _ o e) (p2.isList.at fun o e => hk _ o e) fun h'' tk acc c as kept at' len G eacc => ?_
      have old : ∀ x o, s1.heap.get? x = some o → h''.get? x = some o := fun x o e => by
        have lt := Heap.lt_size e
        refine kept x o (fun hm => ?_) (hk x o e)
        simp only [List.mem_cons, List.not_mem_nil, or_false] at hm
        rcases hm with q | q | q | q
        · rw [q] at lt; exact absurd lt (Nat.not_lt.mpr (Nat.le_add_right _ _))
        · rw [q] at lt; exact absurd lt (Nat.not_lt.mpr (Nat.le_add_right _ _))
        · rw [q] at lt; exact absurd lt (Nat.lt_irrefl _)
        · rw [q] at lt; exact absurd lt (Nat.not_lt.mpr (Nat.le_add_right _ _))
      have S1 : h'.objs.size < h''.objs.size := Heap.lt_size at'
      have big : s1.heap.objs.size ≤ h''.objs.size := by
        have hsz' : h'.objs.size = s1.heap.objs.size + 5 := hsz
        have S1' : h'.objs.size < h''.objs.size := S1
        rw [hsz'] at S1'
        exact Nat.le_trans (Nat.le_add_right _ 5) (Nat.le_of_lt S1')
      have lacc : acc.size = its.length := by
        rw [← Array.length_toList, eacc, List.length_map, len, List.size_toArray]
      have lprs : ((ks.map Sum.inl : List Key).zip its2).length = its.length := by
        rw [List.length_zip, List.length_map]
        omega
      refine L2.call_dict_pairs (l := h'.objs.size) (prs := (ks.map Sum.inl : List Key).zip its2) (I1.ok.hd hc) at' rfl rfl rfl (by rw [lacc, lprs]) (by rw [lprs]; omega) (fun j pq ej => ?_) fun h3 tk3 hd' k3 => ?_
      · have jl : j < its.length := by
          rw [← lprs]
          exact (List.getElem?_eq_some_iff.mp ej).1
        obtain ⟨ez1, ez2⟩ := List.getElem?_zip_eq_some.mp ej
        obtain ⟨k, ek, ek2⟩ : ∃ k, ks[j]? = some k ∧ pq.1 = Sum.inl k := by
          rw [List.getElem?_map] at ez1
          cases ek : ks[j]? with
          | none =>
            rw [ek] at ez1
            cases ez1
          | some k =>
            rw [ek] at ez1
            exact ⟨k, rfl, (Option.some.inj ez1).symm⟩
        have jas : j < as.length := by
          rw [len, List.size_toArray]
          exact jl
        obtain ⟨_, x, y, ex, ey, pr⟩ := G j as[j] (List.getElem?_eq_getElem jas)
        have ex' : its[j]? = some x := by simpa using ex
        have ey' : its2[j]? = some y := by simpa using ey
        rw [ez2] at ey'
        have ey2 : pq.2 = y := Option.some.inj ey'
        have kl : (ks.map V.int)[j]? = some (V.int k) := by
          rw [List.getElem?_map, ek]
          rfl
        obtain ⟨u, hu, ru⟩ := rv.get kl
        rw [ex'] at hu
        cases hu
        obtain ⟨t, rfl⟩ := ru
        refine ⟨as[j], .int k t, ?_, ⟨_, pr, rfl, _, by rw [ey2]⟩, ?_⟩
        · have z : acc.toList[j]? = some (.ref as[j]) := by
            rw [eacc, List.getElem?_map, List.getElem?_eq_getElem jas]
            rfl
          simpa using z
        · rw [ek2]
          exact keyIs_int k t
      · have nsys : (h''.objs.size == sysModules) = false := beq_eq_false_iff_ne.mpr (Nat.ne_of_gt (Nat.lt_of_lt_of_le I1.big big))
        have few : (mergeK [] ((ks.map Sum.inl : List Key).zip ys)).length ≤ sizeLine := by
          refine Nat.le_trans (length_mergeK _ []) ?_
          rw [List.length_nil, Nat.zero_add, List.length_zip, List.length_map]
          omega
        refine ⟨.ref h''.objs.size, upd H1 h''.objs.size (.dK (mergeK [] ((ks.map Sum.inl : List Key).zip ys))), I1.laid (t' := tk3) (fun x o e => k3 x o (old x o e)) big ?_, rfl, q _ (I1.hok.fresh big)⟩
        exact (show ObjOk X.prog X.w _ _ _ (.dK (mergeK [] ((ks.map Sum.inl : List Key).zip ys))) from ⟨few, nsys, merged [] ((ks.map Sum.inl : List Key).zip its2), KV.merge (kv_zip rv2) .nil, hd'⟩)

/-- dict(zip(t, u)), t a tuple of ints, u a tuple as long -/
def tDZ (K : PySem.W.Frag) (ta : TA) : TE := fun σ H Q => ta σ H fun vs H1 => ∃ (a b : Addr) (ks : List Int) (ys : List V), vs = [.ref a, .ref b] ∧ SqT K H1 a (ks.map V.int) ∧ SqT K H1 b ys ∧ ks.length = ys.length ∧
  ∀ p, H1 p = none → Q (.ref p) (upd H1 p (.dK (mergeK [] ((ks.map Sum.inl : List Key).zip ys))))
theorem pe_dz {e e2 : Expr} {ta : TA} {p1 p3 c1 c3 : Pos} (hc : X.calm = true) (g1 : Gl X "dict") (m1 : X.mg "dict" = none) (g3 : Gl X "zip") (m3 : X.mg "zip" = none) (ha : PA X [e, e2] ta)
    (hs : starEach [e, e2] X.env = (false, eval e X.env) :: starEach [e2] X.env := by rfl) (hpl : (backTo c3 (starEach [e2] X.env)).any (·.1) = false := by rfl) :
    PE X (.Call (.Name "dict" p1) [.Call (.Name "zip" p3) [e, e2] [] c3] [] c1) (tDZ X.K ta) := by
  refine ⟨fun pins s σ H Q I h => ?_⟩
  refine Call_ (ld_blt I g1 m1 boot_dict (PyProof.Rows.callWith_type1 (one_raw ?_) (by rfl) (by rfl)))
  refine Call_ (ld_blt I g3 m3 PyProof.Rows.boot_zip (PyProof.Rows.callWith_type1 (thn (ha.run c3 pins s σ H _ I h) fun us s1 ⟨vs, H1, I1, r1, q1⟩ => ?_) hs hpl))
  obtain ⟨a, b, ks, ys, ev, hx, hy, hl, q⟩ := q1
  subst ev
  cases r1 with
  | cons r rr =>
    cases rr with
    | cons r' rr =>
      cases rr
      cases r
      cases r'
      obtain ⟨its, rv, p1, z1⟩ := I1.tuple hx
      obtain ⟨its2, rv2, p2, z2⟩ := I1.tuple hy
      have n1 := rv.length
      have n2 := rv2.length
      rw [List.length_map] at n1
      rw [List.length_map] at z1
      have T1 : s1.heap.IsTuple a its.toArray := p1
      have T2 : s1.heap.IsTuple b its2.toArray := p2
      obtain ⟨o1, ho1, _⟩ := id p1
      obtain ⟨o2, ho2, _⟩ := id p2
      refine RZ.call_zipT T1 T2 fun h' hz hTI hTO h1 h2 hsz hk => ?_
      have D := PySem.W.ktu_apart s1.heap.objs.size a b (Heap.lt_size ho1) (Heap.lt_size ho2)
      have P := pairsT (prog := X.prog) (w := X.w) _ _ _ _ _ _ _ D its.toArray its2.toArray
      have lmin : min its.toArray.size its2.toArray.size = ks.length := by
        rw [List.size_toArray, List.size_toArray]
        omega
      have big : s1.heap.objs.size ≤ h'.objs.size := by
        have hsz' : h'.objs.size = s1.heap.objs.size + 5 := hsz
        rw [hsz']
        exact Nat.le_add_right _ 5
      refine PySem.call_dict_pairs (knd := mixKind X.prog X.w) (kvs := (ks.map Sum.inl : List Key).zip its2) P (I1.ok.hd hc) ⟨hz, hTI, ⟨_, _, hTO⟩, h1, h2, T1.at fun o e => hk _ o e, T2.at fun o e => hk _ o e⟩ ⟨?_, fun i key v rel => ?_⟩ (by rw [lmin]; omega) fun h3 tk3 hd' k3 => ?_
      · rw [lmin, List.length_zip, List.length_map]
        omega
      · obtain ⟨e1, e2⟩ := rel
        have e1' : its[i]? = some key := by simpa using e1
        have e2' : its2[i]? = some v := by simpa using e2
        have il : i < ks.length := by
          rw [n1]
          exact (List.getElem?_eq_some_iff.mp e1').1
        have kl : (ks.map V.int)[i]? = some (V.int ks[i]) := by
          rw [List.getElem?_map, List.getElem?_eq_getElem il]
          rfl
        obtain ⟨u, hu, ru⟩ := rv.get kl
        rw [e1'] at hu
        cases hu
        obtain ⟨t, rfl⟩ := ru
        refine ⟨Sum.inl ks[i], List.getElem?_zip_eq_some.mpr ⟨?_, e2'⟩, keyIs_int _ t⟩
        rw [List.getElem?_map, List.getElem?_eq_getElem il]
        rfl
      · have nsys : (h'.objs.size == sysModules) = false := beq_eq_false_iff_ne.mpr (Nat.ne_of_gt (Nat.lt_of_lt_of_le I1.big big))
        have few : (mergeK [] ((ks.map Sum.inl : List Key).zip ys)).length ≤ sizeLine := by
          refine Nat.le_trans (length_mergeK _ []) ?_
          rw [List.length_nil, Nat.zero_add, List.length_zip, List.length_map]
          omega
        have old : ∀ x o, s1.heap.get? x = some o → h3.get? x = some o := fun x o e => by
          have lt := Heap.lt_size e
          refine k3 x o (fun hm => ?_) (hk x o e)
          simp only [List.mem_cons, List.not_mem_nil, or_false] at hm
          rcases hm with q | q | q | q
          · rw [q] at lt; exact absurd lt (Nat.not_lt.mpr (Nat.le_add_right _ _))
          · rw [q] at lt; exact absurd lt (Nat.not_lt.mpr (Nat.le_add_right _ _))
          · rw [q] at lt; exact absurd lt (Nat.lt_irrefl _)
          · rw [q] at lt; exact absurd lt (Nat.not_lt.mpr (Nat.le_add_right _ _))
        refine ⟨.ref h'.objs.size, upd H1 h'.objs.size (.dK (mergeK [] ((ks.map Sum.inl : List Key).zip ys))), I1.laid (t' := tk3) old big ?_, rfl, q _ (I1.hok.fresh big)⟩
        exact (show ObjOk X.prog X.w _ _ _ (.dK (mergeK [] ((ks.map Sum.inl : List Key).zip ys))) from ⟨few, nsys, merged [] ((ks.map Sum.inl : List Key).zip its2), KV.merge (kv_zip rv2) .nil, hd'⟩)
end
end K39

set_option Elab.async false
set_option linter.all false
set_option maxRecDepth 100000
set_option maxHeartbeats 4000000
namespace K39
open PySem PySem.Spec PyProof.Rows L2

/-! ### the text by places -/
def top (i : Nat) : Stmt := PySem.Challenge.pw_keptlamps_k39_whole_threes_of_the_top_cl.main.body.getD i (.Pass ⟨0, 0, 0, 0⟩)
abbrev sIsInt : Stmt := top 10
abbrev sWithin : Stmt := top 11
abbrev sIsList : Stmt := top 12
abbrev sUnlike : Stmt := top 13
abbrev sNeedNum : Stmt := top 14
abbrev sNeedRow : Stmt := top 17
abbrev sWeightIn : Stmt := top 18
abbrev sWeightOf : Stmt := top 19
abbrev sKept : Stmt := top 29
abbrev sInit : Stmt := inClass (top 32) 0
abbrev sEq : Stmt := inClass (top 32) 1
abbrev sUnder : Stmt := top 34
abbrev sGates : Stmt := top 40
abbrev sNeedThree : Stmt := top 41
abbrev sThree : Stmt := top 42
abbrev sChim : Stmt := top 44
abbrev sDraw : Stmt := top 45
abbrev sPick : Stmt := top 46
abbrev sRun : Stmt := top 47
abbrev sLow : Stmt := top 49
abbrev sLaw : Stmt := top 50

/-- the built-in names are the built-ins still -/
structure Bl (mg : Str → Option Value) : Prop where
  isinstance : mg "isinstance" = none
  int : mg "int" = none
  bool : mg "bool" = none
  list : mg "list" = none
  tuple : mg "tuple" = none
  len : mg "len" = none
  all : mg "all" = none
  range : mg "range" = none
  dict : mg "dict" = none
  zip : mg "zip" = none
  sorted : mg "sorted" = none
  min : mg "min" = none
  max : mg "max" = none
  set : mg "set" = none
  abs : mg "abs" = none

/-- a list or a tuple that is tracked -/
def SeqH (H : Hp) (a : Addr) (xs : List V) : Prop := H a = some (.lst xs) ∨ H a = some (.tup xs)
theorem SeqH.or {K : PySem.W.Frag} {H : Hp} {a : Addr} {xs : List V} (h : SeqH H a xs) : SqL K H a xs ∨ SqT K H a xs := h.imp SqL.of SqT.of
theorem SeqH.same {H H' : Hp} {a : Addr} {xs : List V} (h : SeqH H a xs) (s : Same H H') : SeqH H' a xs := h.imp (s _ _) (s _ _)
theorem same_upd {H : Hp} {p : Addr} {o : HO} (h : H p = none) : Same H (upd H p o) := fun b x e => by
  rw [upd_ne (ne_of_none e h)]
  exact e

/-! ### the promises -/
def spIsInt : Sp := fun vs H Q _ => ∃ i : Int, vs = [.int i] ∧ Q (.bl true) H
def spWithin : Sp := fun vs H Q _ => ∃ v lo hi : Int, vs = [.int v, .int lo, .int hi] ∧ lo ≤ v ∧ v ≤ hi ∧ Q (.bl true) H
def spIsList : Sp := fun vs H Q _ => ∃ (a : Addr) (xs : List V), vs = [.ref a] ∧ SeqH H a xs ∧ ∀ H', Same H H' → Q (.bl true) H'
def spUnlike : Sp := fun vs H Q _ => ∃ (a : Addr) (ns : List Int), vs = [.ref a] ∧ SeqH H a (ns.map V.int) ∧ ns.Nodup ∧ ns.length ≤ 1000 ∧ ∀ H', Same H H' → Q (.bl true) H'
def spNeedNum : Sp := fun vs H Q _ => ∃ (v lo hi : Int) (z : Str), vs = [.int v, .str z, .int lo, .int hi] ∧ lo ≤ v ∧ v ≤ hi ∧ Q .non H
def spNeedRow : Sp := fun vs H Q _ => ∃ (n : Nat) (z : Str), vs = [.int (n : Int), .str z, .int 8] ∧ n < 256 ∧ Q .non H
def spWeight : Sp := fun vs H Q _ => ∃ n : Nat, vs = [.int (n : Int)] ∧ n < 256 ∧ Q (.int (wtF 9 n : Nat)) H

section
variable {P : Program} {w : World} {K : PySem.W.Frag} {mg : Str → Option Value} {base : Heap}

theorem scIsInt : FnScope ["value"] ["value"] (defScope sIsInt) := ⟨rfl, rfl, rfl, by decide +kernel, rfl, by decide +kernel, by decide +kernel⟩
theorem ok_isInt {f : Addr} {fd : FuncData} (F : Fun K "is_integer" "is_integer" sIsInt f fd) (B : Bl mg) : FnOk P w K mg base CX0 1 f fd ["value"] spIsInt := by
  refine F.ok scIsInt (fun vs H Q E h => ?_) (fun cdv A outer s H vs Q E hr h => ?_)
  · obtain ⟨i, rfl, _⟩ := h
    rfl
  · obtain ⟨i, rfl, q⟩ := h
    refine ⟨_, pss_one (ps_ret (pe_and (pe_callB call_isi (by rfl) B.isinstance (by decide +kernel) (pa_cons (pv 0) (pa_cons (pe_bltn (v := .ty "int") (by rfl) B.int (by decide +kernel) rfl) pa_nil)))
      (pe_one (pe_not (pe_callB call_isi (by rfl) B.isinstance (by decide +kernel) (pa_cons (pv 0) (pa_cons (pe_bltn (v := .ty "bool") (by rfl) B.bool (by decide +kernel) rfl) pa_nil))))))), ?_⟩
    refine ⟨_, rfl, _, _, _, _, true, rfl, .ty "int", .base (.int i), kit_ty (by decide +kernel), true, rfl, iteT ?_⟩
    exact ⟨_, rfl, _, _, _, _, false, rfl, .ty "bool", .base (.int i), kit_ty (by decide +kernel), false, rfl, q⟩

theorem scWithin : FnScope ["value", "least", "most"] ["value", "least", "most"] (defScope sWithin) := ⟨rfl, rfl, rfl, by decide +kernel, rfl, by decide +kernel, by decide +kernel⟩
theorem ok_within {f g : Addr} {fd gd : FuncData} (F : Fun K "is_within" "is_within" sWithin f fd) (FI : Fun K "is_integer" "is_integer" sIsInt g gd) (bI : Binds K gd ["value"] []) (gI : mg "is_integer" = some (.ref g)) (B : Bl mg) :
    FnOk P w K mg base CX0 2 f fd ["value", "least", "most"] spWithin := by
  have GI : FnOk P w K mg base CX0 1 g gd ["value"] spIsInt := ok_isInt FI B
  refine F.ok scWithin (fun vs H Q E h => ?_) (fun cdv A outer s H vs Q E hr h => ?_)
  · obtain ⟨v, lo, hi, rfl, _⟩ := h
    rfl
  · obtain ⟨v, lo, hi, rfl, h1, h2, q⟩ := h
    refine ⟨_, pss_cons (ps_if (pt_not (pt_val (pe_call GI hr (by rfl) gI FI.kp bI .nil pass0 (pa_cons (pv 0) pa_nil)))) (pss_one (ps_ret pe_bl)) pss_nil)
      (pss_one (ps_ret (pe_and (pe_or (pe_cmp (pc_isN (pv 1)) (by rfl)) (pe_one (pe_cmp (pc_le (pv 1) (pv 0)))))
        (pe_one (pe_or (pe_cmp (pc_isN (pv 2)) (by rfl)) (pe_one (pe_cmp (pc_le (pv 0) (pv 2))))))))), ?_⟩
    refine ⟨_, rfl, v, rfl, true, rfl, iteF ?_⟩
    refine ⟨_, rfl, false, rfl, iteF ⟨_, rfl, _, rfl, _, _, rfl, rfl, true, (by show V.bl (decide (lo ≤ v)) = V.bl true; rw [decide_eq_true h1]), iteT ?_⟩⟩
    refine ⟨_, rfl, false, rfl, iteF ⟨_, rfl, _, rfl, _, _, rfl, rfl, ?_⟩⟩
    show Q (.bl (decide (v ≤ hi))) H
    rw [decide_eq_true h2]
    exact q

theorem scIsList : FnScope ["value"] ["value"] (defScope sIsList) := ⟨rfl, rfl, rfl, by decide +kernel, rfl, by decide +kernel, by decide +kernel⟩
theorem kit_lt (b : String) (h : b = "list" ∨ b = "tuple") : PySem.W.kitAny K (.type b) [.type "list", .type "tuple"] = some true := by
  rcases h with rfl | rfl
  · exact kitAny_cons (b := true) (kit_ty (by decide +kernel)) (fun z => by cases z) (fun _ => rfl)
  · exact kitAny_cons (b := false) (kit_ty (by decide +kernel)) (fun _ => kitAny_cons (b := true) (kit_ty (by decide +kernel)) (fun z => by cases z) (fun _ => rfl)) (fun z => by cases z)
theorem ok_isList {f : Addr} {fd : FuncData} (F : Fun K "is_list" "is_list" sIsList f fd) (B : Bl mg) : FnOk P w K mg base CX0 1 f fd ["value"] spIsList := by
  refine F.ok scIsList (fun vs H Q E h => ?_) (fun cdv A outer s H vs Q E hr h => ?_)
  · obtain ⟨a, xs, rfl, _⟩ := h
    rfl
  · obtain ⟨a, xs, rfl, hS, q⟩ := h
    refine ⟨_, pss_one (ps_ret (pe_callB call_isiT (by rfl) B.isinstance (by decide +kernel) (pa_cons (pv 0) (pa_cons (pe_tup (pa_cons (pe_bltn (v := .ty "list") (by rfl) B.list (by decide +kernel) rfl)
      (pa_cons (pe_bltn (v := .ty "tuple") (by rfl) B.tuple (by decide +kernel) rfl) pa_nil))) pa_nil)))), ?_⟩
    refine ⟨_, rfl, (by show 2 ≤ sizeLine; decide), fun t ht => ?_⟩
    have st : Same H (upd H t (.tup [.ty "list", .ty "tuple"])) := same_upd ht
    rcases hS with hS | hS
    · exact ⟨_, t, _, _, _, true, rfl, upd_same, .cons (.ty _) (.cons (.ty _) .nil), .base (.lst (st _ _ hS)), kit_lt _ (.inl rfl), q _ st⟩
    · exact ⟨_, t, _, _, _, true, rfl, upd_same, .cons (.ty _) (.cons (.ty _) .nil), .base (.tup (st _ _ hS)), kit_lt _ (.inr rfl), q _ st⟩

theorem scNeedNum : FnScope ["value", "part", "least", "most"] ["value", "part", "least", "most"] (defScope sNeedNum) := ⟨rfl, rfl, rfl, by decide +kernel, rfl, by decide +kernel, by decide +kernel⟩
theorem ok_needNum {f g : Addr} {fd gd : FuncData} (F : Fun K "need_number" "need_number" sNeedNum f fd) (GW : FnOk P w K mg base CX0 2 g gd ["value", "least", "most"] spWithin) (kW : PySem.W.keepIn K (.ref g) = true) (bW : Binds K gd ["value", "least", "most"] []) (gW : mg "is_within" = some (.ref g)) :
    FnOk P w K mg base CX0 3 f fd ["value", "part", "least", "most"] spNeedNum := by
  refine F.ok scNeedNum (fun vs H Q E h => ?_) (fun cdv A outer s H vs Q E hr h => ?_)
  · obtain ⟨v, lo, hi, z, rfl, _⟩ := h
    rfl
  · obtain ⟨v, lo, hi, z, rfl, h1, h2, q⟩ := h
    refine ⟨_, pss_one (ps_if (pt_not (pt_val (pe_call GW hr (by rfl) gW kW bW .nil pass0 (pa_cons (pv 0) (pa_cons (pv 2) (pa_cons (pv 3) pa_nil)))))) (pss_one ps_never) pss_nil), ?_⟩
    exact ⟨_, rfl, _, rfl, _, rfl, v, lo, hi, rfl, h1, h2, true, rfl, iteF q⟩

theorem scNeedRow : FnScope ["value", "part", "lamps"] ["value", "part", "lamps"] (defScope sNeedRow) := ⟨rfl, rfl, rfl, by decide +kernel, rfl, by decide +kernel, by decide +kernel⟩
theorem ok_needRow {f g : Addr} {fd gd : FuncData} (F : Fun K "need_row" "need_row" sNeedRow f fd) (GW : FnOk P w K mg base CX0 2 g gd ["value", "least", "most"] spWithin) (kW : PySem.W.keepIn K (.ref g) = true) (bW : Binds K gd ["value", "least", "most"] []) (gW : mg "is_within" = some (.ref g)) :
    FnOk P w K mg base CX0 3 f fd ["value", "part", "lamps"] spNeedRow := by
  refine F.ok scNeedRow (fun vs H Q E h => ?_) (fun cdv A outer s H vs Q E hr h => ?_)
  · obtain ⟨n, z, rfl, _⟩ := h
    rfl
  · obtain ⟨n, z, rfl, h1, q⟩ := h
    refine ⟨_, pss_one (ps_if (pt_not (pt_val (pe_call GW hr (by rfl) gW kW bW .nil pass0 (pa_cons (pv 0) (pa_cons pe_int (pa_cons (pe_op op_sub (pe_op op_shl pe_int (pv 2)) pe_int) pa_nil)))))) (pss_one ps_never) pss_nil), ?_⟩
    exact ⟨_, rfl, _, rfl, 1, 8, rfl, rfl, ⟨by decide, by decide, by decide⟩, 256, 1, rfl, rfl, n, 0, 255, rfl, by omega, by omega, true, rfl, iteF q⟩

theorem scWeightIn : FnScope ["row", "found"] ["row"] (defScope sWeightIn) := ⟨rfl, rfl, rfl, by decide +kernel, rfl, by decide +kernel, by decide +kernel⟩
theorem ok_weightIn {f : Addr} {fd : FuncData} (F : Fun K "weight_in" "weight_in" sWeightIn f fd) : FnOk P w K mg base CX0 1 f fd ["row"] spWeight := by
  refine F.ok scWeightIn (fun vs H Q E h => ?_) (fun cdv A outer s H vs Q E hr h => ?_)
  · obtain ⟨n, rfl, _⟩ := h
    rfl
  · obtain ⟨n, rfl, h1, q⟩ := h
    refine ⟨_, pss_cons (ps_set (i := 1) scWeightIn.nd rfl (.inl rfl) pe_int)
      (pss_cons (ps_while PassesOwn.never (pt_cmpR op_gt (pv 0) pe_int (nomark _))
        (pss_one (ps_par (i := 1) (j := 0) (by rfl) scWeightIn.nd rfl rfl (by decide) rfl rfl (pa_cons (pe_op op_add (pv 1) (pe_op op_mod (pv 0) pe_int)) (pa_cons (pe_op op_fdiv (pv 0) pe_int) pa_nil)) (by rfl))))
      (pss_one (ps_ret (pv 1)))), ?_⟩
    refine ⟨fun m σ H' => ∃ f r : Nat, σ = [some (.int (r : Int)), some (.int (f : Int))] ∧ H' = H ∧ r < 2 ^ m ∧ f + wtF m r = wtF 9 n, ⟨9, 0, n, rfl, rfl, by omega, by omega⟩, ?_⟩
    rintro m σ H' ⟨f, r, rfl, rfl, hr2, e⟩
    refine ⟨_, rfl, (r : Int), 0, rfl, rfl, _, rfl, ite2 (fun c => ?_) (fun c => ?_)⟩
    · have pos : 0 < r := by
        have := of_decide_eq_true c
        omega
      cases m with
      | zero => omega
      | succ m =>
        refine ⟨fun σ' H'' => ∃ f' r' : Nat, σ' = [some (.int (r' : Int)), some (.int (f' : Int))] ∧ H'' = H' ∧ r' < 2 ^ m ∧ f' + wtF m r' = wtF 9 n, fun σ' H'' hN => ⟨m, Nat.lt_succ_self m, hN⟩, ?_⟩
        refine ⟨_, rfl, _, rfl, (r : Int), 2, rfl, rfl, (by show (0 : Int) < 2; decide), (f : Int), ((r : Int) % 2), rfl, rfl, _, rfl, (r : Int), 2, rfl, rfl, ⟨by decide, by decide⟩, _, _, rfl, ?_⟩
        refine ⟨f + r % 2, r / 2, ?_, rfl, ?_, ?_⟩
        · show [some (V.int ((r : Int) / 2)), some (V.int ((f : Int) + (r : Int) % 2))] = [some (V.int ((r / 2 : Nat) : Int)), some (V.int ((f + r % 2 : Nat) : Int))]
          have e1 : (r : Int) / 2 = ((r / 2 : Nat) : Int) := by omega
          have e2 : (f : Int) + (r : Int) % 2 = ((f + r % 2 : Nat) : Int) := by omega
          rw [e1, e2]
        · rw [Nat.pow_succ] at hr2
          omega
        · rw [← e]
          show f + r % 2 + wtF m (r / 2) = f + (r % 2 + wtF m (r / 2))
          omega
    · have z : r = 0 := by
        have := of_decide_eq_false (Bool.eq_false_iff.mpr c)
        omega
      subst z
      refine ⟨_, rfl, ?_⟩
      rw [wtF_zero] at e
      have e' : (f : Int) = ((wtF 9 n : Nat) : Int) := by omega
      rw [e']
      exact q

theorem scWeightOf : FnScope ["row"] ["row"] (defScope sWeightOf) := ⟨rfl, rfl, rfl, by decide +kernel, rfl, by decide +kernel, by decide +kernel⟩
theorem ok_weightOf {f g h' : Addr} {fd gd hd : FuncData} {t : Tok} (F : Fun K "weight_of" "weight_of" sWeightOf f fd) (GN : FnOk P w K mg base CX0 3 g gd ["value", "part", "lamps"] spNeedRow) (kN : PySem.W.keepIn K (.ref g) = true) (bN : Binds K gd ["value", "part", "lamps"] []) (gN : mg "need_row" = some (.ref g))
    (FW : Fun K "weight_in" "weight_in" sWeightIn h' hd) (bW : Binds K hd ["row"] []) (gW : mg "weight_in" = some (.ref h')) (gM : mg "MOST_LAMPS_rows" = some (.int 8 t)) :
    FnOk P w K mg base CX0 4 f fd ["row"] spWeight := by
  have GW : FnOk P w K mg base CX0 1 h' hd ["row"] spWeight := ok_weightIn FW
  refine F.ok scWeightOf (fun vs H Q E h => ?_) (fun cdv A outer s H vs Q E hr h => ?_)
  · obtain ⟨n, rfl, _⟩ := h
    rfl
  · obtain ⟨n, rfl, h1, q⟩ := h
    have hr1 : Room 1 _ := hr.mono (by decide)
    refine ⟨_, pss_cons (ps_expr (pe_call GN hr (by rfl) gN kN bN .nil pass0 (pa_cons (pv 0) (pa_cons pe_str (pa_cons (pe_glob (v := .int 8) (by rfl) gM ⟨_, rfl⟩) pa_nil)))))
      (pss_one (ps_ret (pe_call GW hr1 (by rfl) gW FW.kp bW .nil pass0 (pa_cons (pv 0) pa_nil)))), ?_⟩
    exact ⟨_, rfl, n, _, rfl, h1, _, rfl, n, rfl, h1, q⟩

/-! ### are_unlike: len({value: True for value in values}) == len(values) -/
theorem scUnlike : FnScope ["values", "value"] ["values"] (defScope sUnlike) := ⟨rfl, rfl, rfl, by decide +kernel, rfl, by decide +kernel, by decide +kernel⟩
end
end K39

set_option Elab.async false
set_option linter.all false
set_option maxRecDepth 100000
set_option maxHeartbeats 4000000
namespace K39
open PySem PySem.Spec PyProof.Rows L2

/-! ### what is a list or a tuple, walked -/
def SeqO (o : HO) (xs : List V) : Prop := o = .lst xs ∨ o = .tup xs
theorem SeqH.obj {H : Hp} {a : Addr} {xs : List V} (h : SeqH H a xs) : ∃ o, H a = some o ∧ SeqO o xs := h.elim (fun e => ⟨_, e, .inl rfl⟩) (fun e => ⟨_, e, .inr rfl⟩)
theorem SeqO.seqH {o : HO} {xs : List V} {H : Hp} {a : Addr} (h : SeqO o xs) (e : H a = some o) : SeqH H a xs := h.elim (fun z => .inl (by rw [e, z])) (fun z => .inr (by rw [e, z]))
section
variable {X : Cx} {tg : Expr}
def iAny (te : TE) : TI := fun σ H R => te σ H fun x H1 => ∃ (a : Addr) (o : HO) (xs : List V), x = .ref a ∧ H1 a = some o ∧ SeqO o xs ∧ ∀ J, Walk J xs.length (fun H => H a = some o) (YAt xs) → R J H1
theorem pi_any {l : Expr} {te : TE} (he : PE X l te) : PI X tg l (iAny te) := by
  refine ⟨fun pins s σ H R I h => ?_⟩
  refine thn (he.run pins s σ H _ I h) fun v s1 ⟨x, H1, I1, r1, q1⟩ => ?_
  obtain ⟨a, o, xs, ex, eo, so, q⟩ := q1
  subst ex
  cases r1
  have fresh : ∀ b, b ∈ [s1.heap.objs.size] → FpOk X pins H1 b := fun b hb => by
    have e : b = s1.heap.objs.size := by simpa using hb
    rw [e]
    exact I1.fpOk (Nat.le_refl _) (I1.hok.fresh (Nat.le_refl _))
  rcases so with rfl | rfl
  · obtain ⟨its, rv, p, hz⟩ := I1.list (SqL.of eo)
    refine wpAny_pyIter_list p.isList ?_
    exact ⟨s1.heap.objs.size, [s1.heap.objs.size], _, _, H1, rfl, I1.kept (t' := s1.toks) fun b o e => Heap.get?_push_of_some _ e, turn_list a _, ⟨_, Heap.get?_push_size _ rfl, rfl, rfl⟩, fresh,
      q _ (walk_list.mono (fun H h => SqL.of h) (fun i H x H' _ _ y => y))⟩
  · obtain ⟨its, rv, p, hz⟩ := I1.tuple (SqT.of eo)
    refine wpAny_pyIter_tuple (show s1.heap.IsTuple a its.toArray from p) ?_
    exact ⟨s1.heap.objs.size, [s1.heap.objs.size], _, _, H1, rfl, I1.kept (t' := s1.toks) fun b o e => Heap.get?_push_of_some _ e, turn_tuple a _, ⟨_, Heap.get?_push_size _ rfl, rfl, rfl⟩, fresh,
      q _ (walk_tup.mono (fun H h => SqT.of h) (fun i H x H' _ _ y => y))⟩
/-- a dict comprehension over anything that is walked -/
theorem dc_it {J : It} {n : Nat} {G : Hp → Prop} {Y : Nat → Hp → V → Hp → Prop} (wk : Walk J n G Y) {g : TG} {tt : TT} {tk tv : TE} {vs : List Nat} {σ : L2.St} {H1 : Hp} {D : Addr} {Qd : Hp → Prop} (Pv : Nat → Hp → Prop) (h0 : Pv 0 (upd H1 D (.dK []))) (hG : ∀ i H, i ≤ n → Pv i H → G H)
    (hs : ∀ i x H H', i < n → Pv i H → Y i H x H' → g x (wipe σ vs) H' fun σ2 H2 => wipe σ2 vs = wipe σ vs ∧ tt σ2 H2 fun b H3 =>
      if b = true then tk σ2 H3 fun y H4 => tv σ2 H4 fun z H5 => ∃ kvs k, y = kV k ∧ H5 D = some (.dK kvs) ∧ kvs.length < sizeLine ∧ Pv (i + 1) (upd H5 D (.dK (putK kvs k z))) else Pv (i + 1) H3) (hd : ∀ H, Pv n H → Qd H) :
    ∃ W : Nat → Nat → Hp → Prop, (∃ m, W 0 m (upd H1 D (.dK []))) ∧ ∀ i m H, W i m H →
      (J.stop i H ∧ Qd H) ∨ (J.go i H ∧ ∃ Nx : Hp → Prop, (∀ H', Nx H' → ∃ m', m' < m ∧ W (i + 1) m' H') ∧ ∀ x H', J.yld i H x H' → g x (wipe σ vs) H' fun σ2 H2 => wipe σ2 vs = wipe σ vs ∧ tt σ2 H2 fun b H3 =>
        if b = true then tk σ2 H3 fun y H4 => tv σ2 H4 fun z H5 => ∃ kvs k, y = kV k ∧ H5 D = some (.dK kvs) ∧ kvs.length < sizeLine ∧ Nx (upd H5 D (.dK (putK kvs k z))) else Nx H3) := by
  refine ⟨fun i m H => m = n - i ∧ i ≤ n ∧ Pv i H, ⟨n, by simp, Nat.zero_le _, h0⟩, ?_⟩
  rintro i m H ⟨rfl, hi, p⟩
  by_cases more : i < n
  · exact .inr ⟨wk.goes i H more (hG i H hi p), Pv (i + 1), fun H' p' => ⟨n - (i + 1), by omega, rfl, more, p'⟩, fun x H' y => hs i x H H' more p (wk.yields i H x H' more (hG i H hi p) y)⟩
  · have e : i = n := by omega
    subst e
    exact .inl ⟨wk.stops H (hG i H hi p), hd H p⟩
end

/-- a comprehension without a test -/
theorem yesT {σ : L2.St} {H : Hp} {A B : Bool → Hp → Prop} (h : A true H) : tYes σ H (fun b H3 => if b = true then A b H3 else B b H3) := by
  show if true = true then A true H else B true H
  rw [if_pos rfl]
  exact h

/-! ### numbers without a sign -/
section
variable {X : Cx}
theorem op_shlM : OpR X (binaryOp .LShift) (fun x y H Q => ∃ n k : Nat, x = .int (n : Int) ∧ y = .int (k : Int) ∧ n < 2 ^ 60 ∧ k ≤ 1000 ∧ Q (.int ((n <<< k : Nat) : Int)) H) := by
  intro pins s σ H x y v u Q I rx ry h
  obtain ⟨n, k, rfl, rfl, h1, h2, q⟩ := h
  refine op_shl pins s σ H _ _ v u Q I rx ry ⟨n, k, rfl, rfl, ⟨by omega, by omega, by omega⟩, ?_⟩
  show Q (.int ((n : Int) * 2 ^ ((k : Int)).toNat)) H
  rw [Int.toNat_natCast, show (n : Int) * 2 ^ k = ((n <<< k : Nat) : Int) by rw [Nat.shiftLeft_eq, Int.natCast_mul, PySem.W.kbt_cast]]
  exact q
theorem op_shrM : OpR X (binaryOp .RShift) (fun x y H Q => ∃ n k : Nat, x = .int (n : Int) ∧ y = .int (k : Int) ∧ Q (.int ((n >>> k : Nat) : Int)) H) := by
  intro pins s σ H x y v u Q I rx ry h
  obtain ⟨n, k, rfl, rfl, q⟩ := h
  refine op_shr pins s σ H _ _ v u Q I rx ry ⟨n, k, rfl, rfl, by omega, ?_⟩
  show Q (.int ((n : Int) / 2 ^ ((k : Int)).toNat)) H
  rw [Int.toNat_natCast, show (n : Int) / 2 ^ k = ((n >>> k : Nat) : Int) by rw [Nat.shiftRight_eq_div_pow, Int.natCast_ediv, PySem.W.kbt_cast]]
  exact q
theorem op_andN : OpR X (binaryOp .BitAnd) (fun x y H Q => ∃ n m : Nat, x = .int (n : Int) ∧ y = .int (m : Int) ∧ Q (.int ((n &&& m : Nat) : Int)) H) := by
  intro pins s σ H x y v u Q I rx ry h
  obtain ⟨n, m, rfl, rfl, q⟩ := h
  refine op_and pins s σ H _ _ v u Q I rx ry ⟨n, m, rfl, rfl, ?_⟩
  show Q (.int (Builtin.bitAnd (n : Int) (m : Int))) H
  rw [bitAnd_pp (Int.natCast_nonneg n) (Int.natCast_nonneg m), Int.toNat_natCast, Int.toNat_natCast]
  exact q
theorem op_orN : OpR X (binaryOp .BitOr) (fun x y H Q => ∃ n m : Nat, x = .int (n : Int) ∧ y = .int (m : Int) ∧ Q (.int ((n ||| m : Nat) : Int)) H) := by
  intro pins s σ H x y v u Q I rx ry h
  obtain ⟨n, m, rfl, rfl, q⟩ := h
  refine op_or pins s σ H _ _ v u Q I rx ry ⟨n, m, rfl, rfl, ?_⟩
  show Q (.int (Builtin.bitOr (n : Int) (m : Int))) H
  rw [bitOr_nn (Int.natCast_nonneg n) (Int.natCast_nonneg m), Int.toNat_natCast, Int.toNat_natCast]
  exact q
theorem op_xorN : OpR X (binaryOp .BitXor) (fun x y H Q => ∃ n m : Nat, x = .int (n : Int) ∧ y = .int (m : Int) ∧ Q (.int ((n ^^^ m : Nat) : Int)) H) := by
  intro pins s σ H x y v u Q I rx ry h
  obtain ⟨n, m, rfl, rfl, q⟩ := h
  refine op_xor pins s σ H _ _ v u Q I rx ry ⟨n, m, rfl, rfl, ?_⟩
  show Q (.int (Builtin.bitXor (n : Int) (m : Int))) H
  rw [Bits.bitXor_pp (Int.natCast_nonneg n) (Int.natCast_nonneg m), Int.toNat_natCast, Int.toNat_natCast]
  exact q
end

/-! ### a def with its promise -/
def Has (P : Program) (w : World) (K : PySem.W.Frag) (mg : Str → Option Value) (base : Heap) (x : Str) (k : Nat) (ps : List Str) (sp : Sp) : Prop :=
  ∃ (f : Addr) (fd : FuncData), FnOk P w K mg base CX0 k f fd ps sp ∧ PySem.W.keepIn K (.ref f) = true ∧ L2.Binds K fd ps [] ∧ mg x = some (.ref f)

/-- a gate as it stands in the heap -/
def GateV (H : Hp) (v : V) (g : Gate) : Prop := ∃ t h : Addr, v = .ref t ∧ H t = some (.tup [.ref h, .int (g.2.1 : Nat), .int (g.2.2 : Nat)]) ∧ H h = some (.tup (g.1.map fun n : Nat => V.int (n : Int)))
theorem GateV.same {H H' : Hp} {v : V} {g : Gate} (x : GateV H v g) (s : ∀ b xs, H b = some (.tup xs) → H' b = some (.tup xs)) : GateV H' v g := by
  obtain ⟨t, h, e, h1, h2⟩ := x
  exact ⟨t, h, e, s _ _ h1, s _ _ h2⟩
abbrev Gates (H : Hp) : List V → List Gate → Prop := Paired (GateV H)
theorem Gates.same {H H' : Hp} {vs : List V} {gs : List Gate} (x : Gates H vs gs) (s : ∀ b xs, H b = some (.tup xs) → H' b = some (.tup xs)) : Gates H' vs gs := Paired.mapP x fun _ _ q => q.same s
theorem Same.tups {H H' : Hp} (s : Same H H') : ∀ b xs, H b = some (.tup xs) → H' b = some (.tup xs) := fun b _ e => s b _ e
theorem Gates.get {H : Hp} : ∀ {vs : List V} {gs : List Gate} {i : Nat} {v : V}, Gates H vs gs → vs[i]? = some v → ∃ g, gs[i]? = some g ∧ GateV H v g
  | _, _, i, v, .nil, e => by simp at e
  | _, _, 0, v, .cons r _, e => by
    simp at e
    subst e
    exact ⟨_, rfl, r⟩
  | _, _, i + 1, v, .cons _ t, e => by
    obtain ⟨g, h1, h2⟩ := Gates.get (i := i) t (by simpa using e)
    exact ⟨g, by simpa using h1, h2⟩

def spKept : Sp := fun vs H Q _ => ∃ (n : Nat) (v : V) (g : Gate), vs = [.int (n : Int), v] ∧ GateV H v g ∧ okGate n g = true ∧ ∀ v' H', Same H H' → GateV H' v' (keptM g) → Q v' H'

section
variable {P : Program} {w : World} {K : PySem.W.Frag} {mg : Str → Option Value} {base : Heap}
theorem ok_unlike {f : Addr} {fd : FuncData} (F : Fun K "are_unlike" "are_unlike" sUnlike f fd) (B : Bl mg) : FnOk P w K mg base CX0 1 f fd ["values"] spUnlike := by
  refine F.ok scUnlike (fun vs H Q E h => ?_) (fun cdv A outer s H vs Q E hr h => ?_)
  · obtain ⟨a, ns, rfl, _⟩ := h
    rfl
  · obtain ⟨a, ns, rfl, hS, nd, few, q⟩ := h
    obtain ⟨o, eo, so⟩ := hS.obj
    refine ⟨_, pss_one (ps_ret (pe_cmpR op_eq (pe_callB call_lenD (by rfl) B.len PySem.boot_len (pa_cons (pe_dc (own := [("value", 1)]) (g := gName 1) (tt := tYes) (by rfl) scUnlike.nd (pi_any (pv 0))
        (blkOk_by (N := ["values", "value"]) (sc := defScope sUnlike) (by decide +kernel)) (fun _ _ _ _ _ => pg_name (i := 1) scUnlike.nd rfl (Or.inl rfl)) (fun _ _ _ _ _ => pts_nil) (fun _ _ _ _ _ => pv 1) (fun _ _ _ _ _ => pe_bl)) pa_nil))
      (pe_callB call_len_seq (by rfl) B.len PySem.boot_len (pa_cons (pv 0) pa_nil)) (nomark _))), ?_⟩
    refine ⟨_, rfl, a, o, ns.map V.int, rfl, eo, so, fun J wk D hD => ?_⟩
    have naD : a ≠ D := ne_of_none eo hD
    refine dc_it wk (fun i H' => Same H H' ∧ H' D = some (.dK ((ns.take i).map fun n => ((Sum.inl n : Key), V.bl true)))) ⟨same_upd hD, upd_same⟩ (fun i H' _ p => p.1 _ _ eo) (fun i x H' H'' hi p y => ?_) (fun H' p => ?_)
    · obtain ⟨rfl, ex⟩ := y
      obtain ⟨s1, eD⟩ := p
      have il : i < ns.length := by simpa using hi
      have ex2 : x = V.int ns[i] := by
        rw [List.getElem?_map, List.getElem?_eq_getElem il] at ex
        exact (Option.some.inj ex).symm
      subst ex2
      refine ⟨rfl, yesT ?_⟩
      refine ⟨_, rfl, _, Sum.inl ns[i], rfl, eD, ?_, ?_, ?_⟩
      · rw [List.length_map, List.length_take]
        exact Nat.lt_of_le_of_lt (Nat.min_le_right _ _) (small1000 few)
      · intro b u e
        rw [upd_ne (ne_of_none e hD)]
        exact s1 _ _ e
      · rw [upd_same]
        refine congrArg (fun l => some (HO.dK l)) ?_
        have fresh : valV ((ns.take i).map fun n => ((Sum.inl n : Key), V.bl true)) (Sum.inl ns[i] : Key) = none := by
          unfold valV
          have z : ((ns.take i).map fun n => ((Sum.inl n : Key), V.bl true)).find? (fun kv => decide (kv.1 = (Sum.inl ns[i] : Key))) = none := by
            rw [List.find?_eq_none]
            intro kv hkv
            obtain ⟨m, hm, rfl⟩ := List.mem_map.mp hkv
            intro hh
            have em : m = ns[i] := Sum.inl.inj (of_decide_eq_true hh)
            obtain ⟨j, hj, ej⟩ := List.mem_iff_getElem.mp hm
            rw [List.length_take] at hj
            rw [List.getElem_take] at ej
            have := (List.getElem_inj nd (h₀ := by omega) (h₁ := il)).mp (ej.trans em)
            omega
          rw [z]
          rfl
        rw [putK_new _ fresh, List.take_add_one, List.getElem?_eq_getElem il, List.map_append]
        rfl
    · obtain ⟨s1, eD⟩ := p
      rw [List.length_map] at eD
      refine ⟨D, _, rfl, eD, _, rfl, a, _, rfl, (so.seqH (s1 _ _ eo)).or, rfl, ?_⟩
      have e : V.int ((((ns.take ns.length).map fun n => ((Sum.inl n : Key), V.bl true)).length : Nat) : Int) = V.int (((ns.map V.int).length : Nat) : Int) := by
        rw [List.length_map, List.length_map, List.take_length]
      have d : Q (.bl (decide (V.int ((((ns.take ns.length).map fun n => ((Sum.inl n : Key), V.bl true)).length : Nat) : Int) = V.int (((ns.map V.int).length : Nat) : Int)))) H' := by
        rw [decide_eq_true e]
        exact q _ s1
      exact d
end
end K39

set_option Elab.async false
set_option linter.all false
set_option maxRecDepth 100000
set_option maxHeartbeats 4000000
namespace K39
open PySem PySem.Spec PyProof.Rows L2

theorem okGate_len {n : Nat} {g : Gate} (h : okGate n g = true) : g.1.length ≤ 1 := by
  unfold okGate at h
  simp only [Bool.and_eq_true, decide_eq_true_eq] at h
  exact h.1.1.1.1
theorem okGate_all {n : Nat} {g : Gate} (h : okGate n g = true) : ∀ m ∈ g.1 ++ [g.2.1, g.2.2], m < n := by
  unfold okGate at h
  simp only [Bool.and_eq_true, decide_eq_true_eq, List.all_eq_true] at h
  intro m hm
  rcases List.mem_append.mp hm with hm | hm
  · exact (h.2 m hm).1.1
  · simp only [List.mem_cons, List.not_mem_nil, or_false] at hm
    rcases hm with rfl | rfl
    · exact h.1.1.2
    · exact h.1.2
theorem okGate_nd {n : Nat} {g : Gate} (h : okGate n g = true) : (g.1 ++ [g.2.1, g.2.2]).Nodup := by
  have len := okGate_len h
  unfold okGate at h
  simp only [Bool.and_eq_true, decide_eq_true_eq, List.all_eq_true] at h
  have ab := h.1.1.1.2
  obtain ⟨hs, a, b⟩ := g
  cases hs with
  | nil => simpa using ab
  | cons x r =>
    cases r with
    | nil =>
      have z := h.2 x (by simp)
      simp at z ab ⊢
      exact ⟨⟨z.1.2, z.2⟩, ab⟩
    | cons y r => simp at len
theorem nodup_cast : ∀ {l : List Nat}, l.Nodup → (l.map fun n : Nat => (n : Int)).Nodup
  | [], _ => List.nodup_nil
  | a :: r, h => by
    rw [List.map_cons, List.nodup_cons]
    rw [List.nodup_cons] at h
    refine ⟨fun hm => ?_, nodup_cast h.2⟩
    obtain ⟨m, mem, e⟩ := List.mem_map.mp hm
    have : m = a := by omega
    subst this
    exact h.1 mem
/-- ints that are numbers without a sign -/
def nV (l : List Nat) : List V := l.map fun n : Nat => V.int (n : Int)
theorem nV_eq (l : List Nat) : nV l = (l.map fun n : Nat => (n : Int)).map V.int := by
  unfold nV
  rw [List.map_map]
  rfl
theorem perm_short {α : Type} {l m : List α} (h : l.Perm m) (few : m.length ≤ 1) : l = m := by
  cases m with
  | nil => exact List.Perm.eq_nil h
  | cons x r =>
    cases r with
    | nil => exact List.perm_singleton.mp h
    | cons y r => simp at few

section
variable {P : Program} {w : World} {K : PySem.W.Frag} {mg : Str → Option Value} {base : Heap}
theorem scKept : FnScope ["lamps", "value", "hands", "one", "other", "touched", "each"] ["lamps", "value"] (defScope sKept) := ⟨rfl, rfl, rfl, by decide +kernel, rfl, by decide +kernel, by decide +kernel⟩
theorem ok_kept {f : Addr} {fd : FuncData} (F : Fun K "kept_gate" "kept_gate" sKept f fd) (B : Bl mg) (HL : Has P w K mg base "is_list" 1 ["value"] spIsList) (HW : Has P w K mg base "is_within" 2 ["value", "least", "most"] spWithin)
    (HU : Has P w K mg base "are_unlike" 1 ["values"] spUnlike) : FnOk P w K mg base CX0 3 f fd ["lamps", "value"] spKept := by
  obtain ⟨fL, dL, GL, kL, bL, gL⟩ := HL
  obtain ⟨fW, dW, GW, kW, bW, gW⟩ := HW
  obtain ⟨fU, dU, GU, kU, bU, gU⟩ := HU
  refine F.ok scKept (fun vs H Q E h => ?_) (fun cdv A outer s H vs Q E hr h => ?_)
  · obtain ⟨n, v, g, rfl, _⟩ := h
    rfl
  · obtain ⟨n, v, g, rfl, ⟨t, h, rfl, et, eh⟩, ok, q⟩ := h
    have hr1 : Room 1 _ := hr.mono (by decide)
    refine ⟨_, pss_cons (ps_if (PW.pt (pw_or (pt_not (pt_val (pe_call GL hr1 (by rfl) gL kL bL .nil pass0 (pa_cons (pv 1) pa_nil))))
          (pw_or (pt_cmpR op_ne (pe_callB call_len_seq (by rfl) B.len PySem.boot_len (pa_cons (pv 1) pa_nil)) pe_int (nomark _))
          (pw_or1 (pt_not (pt_val (pe_call GL hr1 (by rfl) gL kL bL .nil pass0 (pa_cons (pe_ix ix_tup (pv 1) pe_int (fun _ _ => rfl)) pa_nil))))))))
        (pss_one (ps_ret pe_non)) pss_nil)
      (pss_cons (ps_asg (pv 1) (pg_tup (by rfl) (pgs_cons (pg_name (i := 2) scKept.nd rfl (.inl rfl)) (pgs_cons (pg_name (i := 3) scKept.nd rfl (.inl rfl)) (pgs_cons (pg_name (i := 4) scKept.nd rfl (.inl rfl)) pgs_nil)))))
      (pss_cons (ps_set (i := 5) scKept.nd rfl (.inl rfl) (pe_lst (StX.pa_star (pv 2) (pa_cons (pv 3) (pa_cons (pv 4) pa_nil)))))
      (pss_cons (ps_if (PW.pt (pw_or (pt_not (pt_val (pe_callB (cr_all rfl) (by rfl) B.all (by decide +kernel) (pa_cons
            (pe_lc (own := [("each", 6)]) (g := gName 6) (tt := tYes) (by rfl) scKept.nd (pi_list (pv 5)) (blkOk_by (N := ["lamps", "value", "hands", "one", "other", "touched", "each"]) (sc := defScope sKept) (by decide +kernel))
              (fun _ _ _ _ _ => pg_name (i := 6) scKept.nd rfl (Or.inl rfl)) (fun _ _ _ _ _ => pts_nil)
              (fun _ _ _ _ _ => pe_call GW hr (by rfl) gW kW bW .nil pass0 (pa_cons (pv 6) (pa_cons pe_int (pa_cons (pe_op op_sub (pv 0) pe_int) pa_nil))))) pa_nil))))
          (pw_or1 (pt_not (pt_val (pe_call GU hr1 (by rfl) gU kU bU .nil pass0 (pa_cons (pv 5) pa_nil)))))))
        (pss_one (ps_ret pe_non)) pss_nil)
      (pss_one (ps_ret (pe_tup (pa_cons (pe_callTy call_tuple_of (by rfl) B.tuple (by decide +kernel) (pa_cons (pe_callB cr_sortT1 (by rfl) B.sorted (by decide +kernel) (pa_cons (pv 2) pa_nil)) pa_nil))
        (pa_cons (pe_callB (call_min2 rfl) (by rfl) B.min (by decide +kernel) (pa_cons (pv 3) (pa_cons (pv 4) pa_nil))) (pa_cons (pe_callB (call_max2 rfl) (by rfl) B.max (by decide +kernel) (pa_cons (pv 3) (pa_cons (pv 4) pa_nil))) pa_nil))))))))), ?_⟩
    -- not is_list(value) or len(value) != 3 or not is_list(value[0])
    refine ⟨_, rfl, t, _, rfl, .inr et, fun H1 s1 => ⟨true, rfl, iteF ?_⟩⟩
    have et1 := s1 _ _ et
    have eh1 := s1 _ _ eh
    refine ⟨_, rfl, t, _, rfl, .inr (SqT.of et1), rfl, _, rfl, iteF ?_⟩
    refine ⟨_, rfl, t, _, 0, _, rfl, rfl, SqT.of et1, atI_nat (j := 0) rfl, h, _, rfl, .inr eh1, fun H2 s2 => ⟨true, rfl, iteF ?_⟩⟩
    have et2 := s2 _ _ et1
    have eh2 := s2 _ _ eh1
    -- hands, one, other = value
    refine ⟨_, rfl, t, _, rfl, SqT.of et2, rfl, _, _, rfl, _, _, rfl, _, _, rfl, rfl, ?_⟩
    -- touched = [*hands, one, other]
    refine ⟨_, rfl, h, _, rfl, .inl (SqT.of eh2), _, rfl, _, rfl, ?_, fun d hd => ?_⟩
    · rw [List.length_append, List.length_map]
      show g.1.length + 2 ≤ sizeLine
      have := okGate_len ok
      rw [sizeLine_eq]
      omega
    have s3 : Same H2 (upd H2 d (.lst ((g.1.map fun n : Nat => V.int (n : Int)) ++ [V.int (g.2.1 : Nat), V.int (g.2.2 : Nat)]))) := same_upd hd
    have etl : (g.1.map fun n : Nat => V.int (n : Int)) ++ [V.int (g.2.1 : Nat), V.int (g.2.2 : Nat)] = nV (g.1 ++ [g.2.1, g.2.2]) := by
      unfold nV
      rw [List.map_append]
      rfl
    rw [etl] at s3 ⊢
    -- all([is_within(each, 0, lamps - 1) for each in touched])
    refine ⟨_, rfl, d, rfl, ⟨_, SqL.of upd_same⟩, fun D hD => ?_⟩
    have few : (g.1 ++ [g.2.1, g.2.2]).length ≤ 1000 := by
      rw [List.length_append]
      have := okGate_len ok
      show g.1.length + 2 ≤ 1000
      omega
    have dD : d ≠ D := ne_of_none upd_same hD
    refine lc_list (K := K) (a := d) (xs := nV (g.1 ++ [g.2.1, g.2.2])) (fun i H' => Same H2 H' ∧ H' d = some (.lst (nV (g.1 ++ [g.2.1, g.2.2]))) ∧ H' D = some (.lst ((List.replicate i true).map V.bl))) ⟨s3.trans (same_upd hD), ?_, upd_same⟩ (fun i H' _ p => SqL.of p.2.1) (fun i x H' hi p => ?_) (fun H' p => ?_)
    · rw [upd_ne dD]
      exact upd_same
    · obtain ⟨p1, p2, p3⟩ := p
      have il : i < (g.1 ++ [g.2.1, g.2.2]).length := by
        have := (List.getElem?_eq_some_iff.mp hi).1
        unfold nV at this
        rwa [List.length_map] at this
      have ex : x = V.int (((g.1 ++ [g.2.1, g.2.2])[i] : Nat) : Int) := by
        unfold nV at hi
        rw [List.getElem?_map, List.getElem?_eq_getElem il] at hi
        exact (Option.some.inj hi).symm
      subst ex
      have lt := okGate_all ok _ (List.getElem_mem il)
      refine ⟨rfl, yesT ?_⟩
      refine ⟨_, rfl, _, rfl, n, 1, rfl, rfl, _, 0, _, rfl, by omega, by omega, _, p3, ?_, ?_, ?_, ?_⟩
      · rw [List.length_map, List.length_replicate]
        exact small1000 (by omega)
      · intro b u e
        rw [upd_ne (ne_of_none (s3 _ _ e) hD)]
        exact p1 _ _ e
      · rw [upd_ne dD]
        exact p2
      · rw [upd_same, List.replicate_succ', List.map_append]
        rfl
    · obtain ⟨p1, p2, p3⟩ := p
      refine ⟨D, _, rfl, SqL.of p3, true, ?_, iteF ?_⟩
      · have z : (List.replicate (nV (g.1 ++ [g.2.1, g.2.2])).length true).all id = true := by
          rw [List.all_eq_true]
          intro b hb
          rw [List.eq_of_mem_replicate hb]
          rfl
        rw [z]
      refine ⟨_, rfl, d, (g.1 ++ [g.2.1, g.2.2]).map fun n : Nat => (n : Int), rfl, .inl (by rw [← nV_eq]; exact p2), nodup_cast (okGate_nd ok), by rw [List.length_map]; exact few, fun H4 s4 => ⟨true, rfl, iteF ?_⟩⟩
      -- return (tuple(sorted(hands)), min(one, other), max(one, other))
      have eh4 := s4 _ _ (p1 _ _ eh2)
      have s04 : Same H H4 := s1.trans (s2.trans (p1.trans s4))
      refine ⟨_, rfl, h, g.1.map fun n : Nat => (n : Int), rfl, SqT.of (by rw [eh4, List.map_map]; rfl), by rw [List.length_map]; have := okGate_len ok; omega, fun ns' p pm hp => ?_⟩
      have ens := perm_short pm (by rw [List.length_map]; exact okGate_len ok)
      subst ens
      refine ⟨p, _, rfl, .inl ⟨SqL.of upd_same, fun l hl => ?_⟩⟩
      refine ⟨_, rfl, _, rfl, _, _, rfl, _, rfl, _, rfl, _, _, rfl, (by show 3 ≤ sizeLine; decide), fun r hrn => ?_⟩
      have lr : l ≠ r := ne_of_none upd_same hrn
      refine q _ _ (s04.trans ((same_upd hp).trans ((same_upd hl).trans (same_upd hrn)))) ⟨r, l, rfl, ?_, ?_⟩
      · rw [upd_same]
        have e1 : (if ((g.2.2 : Nat) : Int) < ((g.2.1 : Nat) : Int) then ((g.2.2 : Nat) : Int) else ((g.2.1 : Nat) : Int)) = ((min g.2.1 g.2.2 : Nat) : Int) := by
          split <;> omega
        have e2 : (if ((g.2.2 : Nat) : Int) > ((g.2.1 : Nat) : Int) then ((g.2.2 : Nat) : Int) else ((g.2.1 : Nat) : Int)) = ((max g.2.1 g.2.2 : Nat) : Int) := by
          split <;> omega
        rw [e1, e2]
        rfl
      · rw [upd_ne lr, upd_same, List.map_map]
        rfl
end
end K39

set_option Elab.async false
set_option linter.all false
set_option maxRecDepth 100000
set_option maxHeartbeats 4000000
namespace K39
open PySem PySem.Spec PyProof.Rows L2

/-! ### a Wiring as it stands: lamps, gates, hands -/
theorem lg : ¬ (("lamps" : Str) = "gates") := by decide +kernel
theorem lh : ¬ (("lamps" : Str) = "hands") := by decide +kernel
theorem gh : ¬ (("gates" : Str) = "hands") := by decide +kernel
def flds (n : Nat) (k : Addr) (h : Int) : List (Str × V) := putF "hands" (.int h) (putF "gates" (.ref k) (putF "lamps" (.int (n : Int)) []))
theorem flds_lamps (n : Nat) (k : Addr) (h : Int) : (flds n k h).lookup ("lamps" : Str) = some (.int (n : Int)) := by
  unfold flds
  rw [lookup_putF, if_neg lh, lookup_putF, if_neg lg, lookup_putF, if_pos rfl]
theorem flds_gates (n : Nat) (k : Addr) (h : Int) : (flds n k h).lookup ("gates" : Str) = some (.ref k) := by
  unfold flds
  rw [lookup_putF, if_neg gh, lookup_putF, if_pos rfl]
theorem flds_hands (n : Nat) (k : Addr) (h : Int) : (flds n k h).lookup ("hands" : Str) = some (.int h) := by
  unfold flds
  rw [lookup_putF, if_pos rfl]
def WireAt (C : Addr) (H : Hp) (p : Addr) (n : Nat) (h : Int) (gs : List Gate) : Prop :=
  ∃ (dx k : Addr) (kvs : List V), H p = some (.ins C dx (flds n k h)) ∧ H k = some (.tup kvs) ∧ Gates H kvs gs
theorem WireAt.ext {C p : Addr} {H H' : Hp} {n : Nat} {h : Int} {gs : List Gate} (x : WireAt C H p n h gs) (s : Same H H') : WireAt C H' p n h gs := by
  obtain ⟨dx, k, kvs, e1, e2, g⟩ := x
  exact ⟨dx, k, kvs, s _ _ e1, s _ _ e2, g.same (Same.tups s)⟩

def spInit (C : Addr) : Sp := fun vs H Q _ => ∃ (p dx a : Addr) (n : Nat) (gvs : List V) (gs : List Gate), vs = [.ref p, .int (n : Int), .ref a] ∧ H p = some (.ins C dx []) ∧ 1 ≤ n ∧ n ≤ 8 ∧ SeqH H a gvs ∧ Gates H gvs gs ∧ (∀ g ∈ gs, okGate n g = true) ∧
  gs.length ≤ 1000 ∧ 0 < gs.length ∧ ∀ (h : Int) (H' : Hp), h ≤ 1 → WireAt C H' p n h (gs.map keptM) → (∀ b o, H b = some o → b ≠ p → H' b = some o) → Q .non H'

structure Wt (K : PySem.W.Frag) (mg : Str → Option Value) (C : Addr) : Prop where
  cl : Cls K C
  nL : NoAttr K C "lamps"
  nG : NoAttr K C "gates"
  nH : NoAttr K C "hands"
  mgC : mg "Wiring" = some (.ref C)
  lamps : ∃ t, mg "MOST_LAMPS_wirings" = some (.int 8 t)
  gates : ∃ t, mg "MOST_GATES" = some (.int 20000 t)

theorem paired_len {α β : Type} {R : α → β → Prop} : ∀ {xs : List α} {ys : List β}, Paired R xs ys → xs.length = ys.length
  | _, _, .nil => rfl
  | _, _, .cons _ t => by
    rw [List.length_cons, List.length_cons, paired_len t]
theorem paired_snoc {α β : Type} {R : α → β → Prop} {x : α} {y : β} (r : R x y) : ∀ {xs : List α} {ys : List β}, Paired R xs ys → Paired R (xs ++ [x]) (ys ++ [y])
  | _, _, .nil => .cons r .nil
  | _, _, .cons h t => .cons h (paired_snoc r t)

def rLen (K : PySem.W.Frag) : List V → Hp → VK → Prop := fun xs H Q => ∃ p ys, xs = [.ref p] ∧ (SqL K H p ys ∨ SqT K H p ys) ∧ Q (.int ys.length) H
section
variable {P : Program} {w : World} {K : PySem.W.Frag} {mg : Str → Option Value} {base : Heap}
theorem scInit : FnScope ["self", "lamps", "gates", "kept", "gate", "hands", "_"] ["self", "lamps", "gates"] (defScope sInit) := ⟨rfl, rfl, rfl, by decide +kernel, rfl, by decide +kernel, by decide +kernel⟩
theorem ok_init {f C : Addr} {fd : FuncData} (F : Fun K "__init__" "Wiring.__init__" sInit f fd) (B : Bl mg) (T : Wt K mg C) (HN : Has P w K mg base "need_number" 3 ["value", "part", "least", "most"] spNeedNum)
    (HL : Has P w K mg base "is_list" 1 ["value"] spIsList) (HK : Has P w K mg base "kept_gate" 3 ["lamps", "value"] spKept) : FnOk P w K mg base CX0 4 f fd ["self", "lamps", "gates"] (spInit C) := by
  obtain ⟨fN, dN, GN, kN, bN, gN⟩ := HN
  obtain ⟨fL, dL, GL, kL, bL, gL⟩ := HL
  obtain ⟨fK, dK, GK, kK, bK, gK⟩ := HK
  obtain ⟨t1, m1⟩ := T.lamps
  obtain ⟨t2, m2⟩ := T.gates
  refine F.ok scInit (fun vs H Q E h => ?_) (fun cdv A outer s H vs Q E hr h => ?_)
  · obtain ⟨p, dx, a, n, gvs, gs, rfl, _⟩ := h
    rfl
  · obtain ⟨p, dx, a, n, gvs, gs, rfl, hp, n1, n8, hS, hG, ok, few, pos, q⟩ := h
    have hr1 : Room 1 _ := hr.mono (by decide)
    have hu := hu_of hr
    have hu2 := hr.units
    refine ⟨_, pss_cons (ps_expr (pe_call GN hr (by rfl) gN kN bN .nil pass0 (pa_cons (pv 1) (pa_cons pe_str (pa_cons pe_int (pa_cons (pe_glob (v := .int 8) (by rfl) m1 ⟨_, rfl⟩) pa_nil))))))
      (pss_cons (ps_if (pt_not (pt_val (pe_call GL hr1 (by rfl) gL kL bL .nil pass0 (pa_cons (pv 2) pa_nil)))) (pss_one ps_never) pss_nil)
      (pss_cons (ps_set (i := 3) scInit.nd rfl (.inl rfl) (pe_callTy call_tuple_of (by rfl) B.tuple (by decide +kernel) (pa_cons
          (pe_lc (own := [("gate", 4)]) (g := gName 4) (tt := tYes) (by rfl) scInit.nd (pi_any (pv 2)) (blkOk_by (N := ["self", "lamps", "gates", "kept", "gate", "hands", "_"]) (sc := defScope sInit) (by decide +kernel))
            (fun _ _ _ _ _ => pg_name (i := 4) scInit.nd rfl (Or.inl rfl)) (fun _ _ _ _ _ => pts_nil)
            (fun _ _ _ _ _ => pe_call GK hr (by rfl) gK kK bK .nil pass0 (pa_cons (pv 1) (pa_cons (pv 4) pa_nil)))) pa_nil)))
      (pss_cons (ps_if (pt_cmpR (op_noT hr.units) pe_non (pv 3) (by rfl)) (pss_one ps_never) pss_nil)
      (pss_cons (ps_if (pt_cmpR op_gt (pe_callB call_len_seq (by rfl) B.len PySem.boot_len (pa_cons (pv 3) pa_nil)) (pe_glob (v := .int 20000) (by rfl) m2 ⟨_, rfl⟩) (nomark _)) (pss_one ps_never) pss_nil)
      (pss_cons (ps_fld (pv 0) (pv 1) rfl)
      (pss_cons (ps_fld (pv 0) (pv 3) rfl)
      (pss_one (ps_fld (pv 0) (pe_callBK (cr_maxD rfl) (by rfl) B.max (by decide +kernel) (pa_cons
          (pe_lc (own := [("hands", 5), ("_", 6)]) (g := gTup K 3 (gCons (gName 5) (gCons (gName 6) (gCons (gName 6) gNil)))) (te := tCB (rLen K) (tCons (tVar 5) tNil)) (tt := tYes) (by rfl) scInit.nd (pi_tup (pv 3)) (blkOk_by (N := ["self", "lamps", "gates", "kept", "gate", "hands", "_"]) (sc := defScope sInit) (by decide +kernel))
            (fun _ _ _ _ _ => pg_tup (by rfl) (pgs_cons (pg_name (i := 5) scInit.nd rfl (Or.inl rfl)) (pgs_cons (pg_name (i := 6) scInit.nd rfl (Or.inl rfl)) (pgs_cons (pg_name (i := 6) scInit.nd rfl (Or.inl rfl)) pgs_nil)))) (fun _ _ _ _ _ => pts_nil)
            (fun _ _ _ _ _ => pe_callB call_len_seq (by rfl) B.len PySem.boot_len (pa_cons (pv 5) pa_nil))) pa_nil)
          (pk_cons pe_int pk_nil)) rfl)))))))), ?_⟩
    refine ⟨_, rfl, (n : Int), 1, 8, _, rfl, by omega, by omega, ?_⟩
    refine ⟨_, rfl, a, gvs, rfl, hS, fun H1 s1 => ⟨true, rfl, iteF ?_⟩⟩
    obtain ⟨o, eo, so⟩ := hS.obj
    have eo1 := s1 _ _ eo
    refine ⟨_, rfl, a, o, gvs, rfl, eo1, so, fun J wk D hD => ?_⟩
    refine lc_it wk (fun i H' => Same H1 H' ∧ ∃ acc, H' D = some (.lst acc) ∧ acc.length = i ∧ Gates H' acc ((gs.take i).map keptM)) ⟨same_upd hD, [], upd_same, rfl, .nil⟩ (fun i H' _ p => p.1 _ _ eo1) (fun i x H' H'' hi p' y => ?_) (fun H' p' => ?_)
    · obtain ⟨s2, acc, eD, la, GA⟩ := p'
      obtain ⟨rfl, ex⟩ := y
      obtain ⟨g, eg, gv⟩ := hG.get ex
      have il : i < gs.length := (List.getElem?_eq_some_iff.mp eg).1
      have gin : g ∈ gs := List.mem_of_getElem? eg
      refine ⟨rfl, yesT ?_⟩
      refine ⟨_, rfl, _, rfl, n, x, g, rfl, gv.same (Same.tups (s1.trans s2)), ok g gin, fun v' H3 s3 gv3 => ?_⟩
      have dD : ∀ b u, H1 b = some u → b ≠ D := fun b u e => ne_of_none e hD
      refine ⟨acc, s3 _ _ eD, small1000 (by omega), ?_, acc ++ [v'], upd_same, by rw [List.length_append, la]; rfl, ?_⟩
      · intro b u e
        rw [upd_ne (dD b u e)]
        exact s3 _ _ (s2 _ _ e)
      · have et : (gs.take (i + 1)).map keptM = (gs.take i).map keptM ++ [keptM g] := by
          rw [List.take_add_one, eg, List.map_append]
          rfl
        rw [et]
        have up : ∀ b xs, H3 b = some (.tup xs) → (upd H3 D (.lst (acc ++ [v']))) b = some (.tup xs) := fun b xs e => by
          by_cases z : b = D
          · subst z
            rw [s3 _ _ eD] at e
            cases e
          · rw [upd_ne z]
            exact e
        exact paired_snoc (gv3.same up) ((GA.same (Same.tups s3)).same up)
    · obtain ⟨s2, acc, eD, la, GA⟩ := p'
      have lgs : gvs.length = gs.length := paired_len hG
      rw [lgs, List.take_length] at GA
      rw [lgs] at la
      refine ⟨D, acc, rfl, .inl ⟨SqL.of eD, fun k hk => ?_⟩⟩
      -- None in kept; len(kept) > MOST_GATES
      have s4 : Same H' (upd H' k (.tup acc)) := same_upd hk
      have GA4 := GA.same (Same.tups s4)
      refine ⟨_, rfl, k, acc, rfl, rfl, SqT.of upd_same, fun z hz => ?_, false, rfl, iteF ?_⟩
      · obtain ⟨i, hi⟩ := List.mem_iff_getElem?.mp hz
        obtain ⟨g, _, t, h, rfl, e1, _⟩ := GA4.get hi
        exact ⟨t, _, rfl, SqT.of e1⟩
      refine ⟨_, rfl, k, acc, rfl, .inr (SqT.of upd_same), _, 20000, rfl, rfl, false, (by show V.bl (decide ((acc.length : Int) > 20000)) = V.bl false; rw [decide_eq_false (by omega)]), iteF ?_⟩
      -- the three stores
      have s04 : Same H (upd H' k (.tup acc)) := s1.trans (s2.trans s4)
      have hp4 := s04 _ _ hp
      have kp : k ≠ p := ne_of upd_same hp4 (by intro z; cases z)
      refine ⟨_, rfl, _, rfl, p, C, dx, [], rfl, hp4, T.cl, T.nL, (by show 0 < 1000; decide), ?_⟩
      refine ⟨_, rfl, _, rfl, p, C, dx, _, rfl, upd_same, T.cl, T.nG, (by show 1 < 1000; decide), ?_⟩
      generalize e6 : (upd (upd (upd H' k (.tup acc)) p (.ins C dx (putF "lamps" (.int (n : Int)) []))) p (.ins C dx (putF "gates" (.ref k) (putF "lamps" (.int (n : Int)) [])))) = H6
      have hp6 : H6 p = some (.ins C dx (putF "gates" (.ref k) (putF "lamps" (.int (n : Int)) []))) := by
        rw [← e6, upd_same]
      have oth : ∀ b o, (upd H' k (.tup acc)) b = some o → b ≠ p → H6 b = some o := fun b o e ne => by
        rw [← e6, upd_ne ne, upd_ne ne]
        exact e
      have hk6 : H6 k = some (.tup acc) := oth _ _ upd_same kp
      have G6 : Gates H6 acc (gs.map keptM) := GA4.same fun b xs e => oth b _ e (by
        intro z
        subst z
        rw [hp4] at e
        cases e)
      refine ⟨_, rfl, k, rfl, ⟨_, SqT.of hk6⟩, fun D2 hD2 => ?_⟩
      refine lc_tup (K := K) (a := k) (xs := acc) (fun i H' => Same H6 H' ∧ ∃ ns : List Int, H' D2 = some (.lst (ns.map V.int)) ∧ ns.length = i ∧ ∀ m ∈ ns, m ≤ 1) ⟨same_upd hD2, [], upd_same, rfl, fun m hm => by cases hm⟩ (fun i H' _ p' => SqT.of (p'.1 _ _ hk6)) (fun i x H7 hi p' => ?_) (fun H7 p' => ?_)
      · obtain ⟨s7, ns, eD2, ln, le1⟩ := p'
        obtain ⟨g, eg, gv⟩ := G6.get hi
        have gok : g.1.length ≤ 1 := by
          rw [List.getElem?_map] at eg
          cases eg0 : gs[i]? with
          | none =>
            rw [eg0] at eg
            cases eg
          | some g0 =>
            rw [eg0] at eg
            obtain rfl := Option.some.inj eg
            exact okGate_len (g := g0) (ok g0 (List.mem_of_getElem? eg0))
        have il : i < acc.length := (List.getElem?_eq_some_iff.mp hi).1
        obtain ⟨t, h, rfl, et, eh⟩ := gv
        have et7 := s7 _ _ et
        have eh7 := s7 _ _ eh
        refine ⟨t, _, rfl, SqT.of et7, rfl, _, _, rfl, _, _, rfl, _, _, rfl, rfl, rfl, yesT ?_⟩
        refine ⟨_, rfl, h, _, rfl, .inr (SqT.of eh7), ns.map V.int, eD2, small1000 (by rw [List.length_map]; omega), ?_, ns ++ [((g.1.map fun n : Nat => V.int (n : Int)).length : Int)], ?_, by rw [List.length_append, ln]; rfl, ?_⟩
        · intro b u e
          rw [upd_ne (ne_of_none e hD2)]
          exact s7 _ _ e
        · rw [upd_same, List.map_append]
          rfl
        · intro m hm
          rcases List.mem_append.mp hm with hm | hm
          · exact le1 m hm
          · rw [List.mem_singleton] at hm
            subst hm
            rw [List.length_map]
            omega
      · obtain ⟨s7, ns, eD2, ln, le1⟩ := p'
        refine ⟨D2, ns, _, rfl, rfl, SqL.of eD2, by omega, fun m hm => ?_⟩
        have hp7 := s7 _ _ hp6
        have lam : (putF "gates" (V.ref k) (putF "lamps" (V.int (n : Int)) [])).length < 1000 := by
          show (if ("lamps" : Str) = "gates" then [(("lamps" : Str), V.ref k)] else (("lamps" : Str), V.int (n : Int)) :: putF "gates" (V.ref k) []).length < 1000
          rw [if_neg lg]
          show 2 < 1000
          decide
        refine ⟨_, rfl, p, C, dx, _, rfl, hp7, T.cl, T.nH, lam, ?_⟩
        have keep : ∀ b o, H6 b = some o → b ≠ p → (upd H7 p (.ins C dx (flds n k m))) b = some o := fun b o e ne => by
          rw [upd_ne ne]
          exact s7 _ _ e
        have tups : ∀ b xs, H6 b = some (.tup xs) → (upd H7 p (.ins C dx (flds n k m))) b = some (.tup xs) := fun b xs e => keep b _ e (by
          intro z
          subst z
          rw [hp6] at e
          cases e)
        exact q m _ (le1 m hm) ⟨dx, k, acc, upd_same, tups _ _ hk6, G6.same tups⟩ fun b o e ne => keep b o (oth b o (s04 _ _ e) ne) ne
end
end K39

set_option Elab.async false
set_option linter.all false
set_option maxRecDepth 100000
set_option maxHeartbeats 4000000
namespace K39
open PySem PySem.Spec PyProof.Rows L2

/-! ### two Wirings of the same content are equal -/
def RW (C : Addr) (a b : Addr) (H : Hp) : Prop := ∃ (n : Nat) (h h' : Int) (gs : List Gate), WireAt C H a n h gs ∧ WireAt C H b n h' gs
def gd (g : Gate) : PyData := .tuple [.tuple ((g.1.map fun n : Nat => (n : Int)).map PyData.int), .int (g.2.1 : Nat), .int (g.2.2 : Nat)]
theorem gd_ok (g : Gate) : (gd g).canLay0 = true := by
  show (PyData.canLayAll0 ((g.1.map fun n : Nat => (n : Int)).map PyData.int) && (true && (true && true))) = true
  rw [canLayAll_ints]
  rfl
theorem ints_depth : ∀ ns : List Int, PyData.depthAll (ns.map PyData.int) ≤ 1
  | [] => by simp [PyData.depthAll]
  | n :: r => by
    have := ints_depth r
    simp only [List.map_cons, PyData.depthAll, PyData.depth]
    omega
theorem gd_depth (g : Gate) : (gd g).depth ≤ 3 := by
  have := ints_depth (g.1.map fun n : Nat => (n : Int))
  simp only [gd, PyData.depth, PyData.depthAll]
  omega
theorem gds_ok : ∀ gs : List Gate, PyData.canLayAll0 (gs.map gd) = true
  | [] => rfl
  | g :: r => by
    show ((gd g).canLay0 && PyData.canLayAll0 (r.map gd)) = true
    rw [gd_ok, gds_ok r]
    rfl
theorem gds_depth : ∀ gs : List Gate, PyData.depthAll (gs.map gd) ≤ 3
  | [] => by simp [PyData.depthAll]
  | g :: r => by
    have h1 := gds_depth r
    have h2 := gd_depth g
    simp only [List.map_cons, PyData.depthAll]
    omega
theorem gds_shaped (gs : List Gate) : SeqAt.shaped (.tuple (gs.map gd)) = true := by
  unfold SeqAt.shaped
  rw [Bool.and_eq_true]
  refine ⟨gds_ok gs, decide_eq_true ?_⟩
  have := gds_depth gs
  simp only [PyData.depth]
  omega
theorem gds_eqv (gs : List Gate) : PyData.eqv (.tuple (gs.map gd)) (.tuple (gs.map gd)) = true := SeqAt.eqv_refl _ (gds_ok gs)
theorem ints_dp {K : PySem.W.Frag} {H : Hp} : ∀ ns : List Int, DpAll K H (ns.map V.int) (ns.map PyData.int)
  | [] => .nil
  | n :: r => .cons (.int n) (ints_dp r)
theorem gate_dp {K : PySem.W.Frag} {H : Hp} {v : V} {g : Gate} (x : GateV H v g) : Dp K H v (gd g) := by
  obtain ⟨t, h, rfl, e1, e2⟩ := x
  have e2' : H h = some (.tup ((g.1.map fun n : Nat => (n : Int)).map V.int)) := by
    rw [e2, List.map_map]
    rfl
  exact .tup (SqT.of e1) (.cons (.tup (SqT.of e2') (ints_dp _)) (.cons (.int _) (.cons (.int _) .nil)))
theorem gates_dp {K : PySem.W.Frag} {H : Hp} : ∀ {vs : List V} {gs : List Gate}, Gates H vs gs → DpAll K H vs (gs.map gd)
  | _, _, .nil => .nil
  | _, _, .cons r t => .cons (gate_dp r) (gates_dp t)

section
variable {P : Program} {w : World} {K : PySem.W.Frag} {mg : Str → Option Value} {base : Heap}
theorem scEq : FnScope ["self", "other"] ["self", "other"] (defScope sEq) := ⟨rfl, rfl, rfl, by decide +kernel, rfl, by decide +kernel, by decide +kernel⟩
theorem ok_eq {f C : Addr} {fd : FuncData} (F : Fun K "__eq__" "Wiring.__eq__" sEq f fd) (B : Bl mg) (T : Wt K mg C) (I : C8.InsC K C) : FnOk P w K mg base CX0 1 f fd ["self", "other"] (spEq (RW C)) := by
  refine F.ok scEq (fun vs H Q E h => ?_) (fun cdv A outer s H vs Q E hr h => ?_)
  · obtain ⟨a, b, rfl, _⟩ := h
    rfl
  · obtain ⟨a, b, rfl, ⟨n, h, h', gs, wa, wb⟩, q⟩ := h
    obtain ⟨dx, k, kvs, ea, ek, ga⟩ := wa
    obtain ⟨dy, l, lvs, eb, el, gb⟩ := wb
    refine ⟨_, pss_one (ps_ret (pe_and (pe_callB (C8.call_isC I) (by rfl) B.isinstance (by decide +kernel) (pa_cons (pv 1) (pa_cons (pe_glob (v := .ref C) (by rfl) T.mgC rfl) pa_nil)))
      (pe_and (pe_cmpR op_eq (pe_fld (pv 1) rfl) (pe_fld (pv 0) rfl) (nomark _)) (pe_one (pe_cmpR (op_eqD hr.units) (pe_fld (pv 1) rfl) (pe_fld (pv 0) rfl) (nomark _)))))), ?_⟩
    refine ⟨_, rfl, b, dy, _, rfl, eb, true, rfl, iteT ?_⟩
    refine ⟨_, rfl, b, C, dy, _, _, rfl, eb, T.cl, T.nL, flds_lamps _ _ _, _, rfl, a, C, dx, _, _, rfl, ea, T.cl, T.nL, flds_lamps _ _ _, rfl, true, (by show V.bl (decide (V.int (n : Int) = V.int (n : Int))) = V.bl true; rw [decide_eq_true rfl]), iteT ?_⟩
    refine ⟨_, rfl, b, C, dy, _, _, rfl, eb, T.cl, T.nG, flds_gates _ _ _, _, rfl, a, C, dx, _, _, rfl, ea, T.cl, T.nG, flds_gates _ _ _, .tuple (gs.map gd), .tuple (gs.map gd), .tup (SqT.of el) (gates_dp gb), .tup (SqT.of ek) (gates_dp ga), gds_shaped gs, gds_shaped gs, ?_⟩
    rw [gds_eqv]
    exact q H Ext.rfl'
end
end K39

set_option Elab.async false
set_option linter.all false
set_option maxRecDepth 100000
set_option maxHeartbeats 4000000
namespace K39
open PySem PySem.Spec PyProof.Rows L2

/-! ### under: from its own promise for a shorter tuple -/
theorem cut_last (xs : List V) (y : V) : cutV (xs ++ [y]) none (some (-1)) = xs := by
  unfold cutV
  have e0 : HT.sIx (xs ++ [y]).length 0 none = 0 := rfl
  have e1 : HT.sIx (xs ++ [y]).length (xs ++ [y]).length (some (-1)) = xs.length := by
    unfold HT.sIx
    simp
    try omega
  rw [e0, e1]
  simp
theorem cut_part (xs : List V) (y : V) : ¬ (HT.sIx (xs ++ [y]).length 0 none = 0 ∧ HT.sIx (xs ++ [y]).length (xs ++ [y]).length (some (-1)) = (xs ++ [y]).length) := by
  rintro ⟨_, h⟩
  unfold HT.sIx at h
  simp at h
  try omega
theorem nV_append (a b : List Nat) : nV (a ++ b) = nV a ++ nV b := by
  unfold nV
  exact List.map_append
theorem paired_app {α β : Type} {R : α → β → Prop} : ∀ {xs zs : List α} {ys ws : List β}, Paired R xs ys → Paired R zs ws → Paired R (xs ++ zs) (ys ++ ws)
  | _, _, _, _, .nil, h => h
  | _, _, _, _, .cons r t, h => .cons r (paired_app t h)
theorem paired_rev {α β : Type} {R : α → β → Prop} : ∀ {xs : List α} {ys : List β}, Paired R xs ys → Paired R xs.reverse ys.reverse
  | _, _, .nil => .nil
  | _, _, .cons r t => by
    rw [List.reverse_cons, List.reverse_cons]
    exact paired_snoc r (paired_rev t)
theorem underM_short {bs : List Nat} (h : bs.length < 2) (k a b c : Nat) : underM k bs a b c = [(bs, a, b), (bs, a, c)] := by
  cases k with
  | zero => rfl
  | succ k =>
    show (if bs.length < 2 then _ else _) = _
    rw [if_pos h]
theorem underM_long {bs : List Nat} (h : ¬ bs.length < 2) (k a b c : Nat) : underM (k + 1) bs a b c = underM k bs.dropLast a c b ++ (([bs.getLastD 0], a, b) :: ((underM k bs.dropLast a c b).reverse ++ [([bs.getLastD 0], a, b)])) := by
  show (if bs.length < 2 then _ else _) = _
  rw [if_neg h]
theorem underM_len : ∀ (k : Nat) (bs : List Nat) (a b c : Nat), (underM k bs a b c).length + 2 ≤ 2 ^ (k + 2)
  | 0, bs, a, b, c => by
    show 4 ≤ 4
    decide
  | k + 1, bs, a, b, c => by
    by_cases h : bs.length < 2
    · rw [underM_short h]
      show 4 ≤ _
      have : 1 ≤ 2 ^ k := Nat.one_le_two_pow
      rw [show k + 1 + 2 = k + 3 from rfl, Nat.pow_add]
      omega
    · have := underM_len k bs.dropLast a c b
      rw [underM_long h, List.length_append, List.length_cons, List.length_append, List.length_reverse, List.length_singleton, show k + 1 + 2 = (k + 2) + 1 from rfl, Nat.pow_succ]
      omega
theorem pow_few {k : Nat} (h : k ≤ 8) : 2 ^ (k + 2) ≤ 1024 := by
  have := Nat.pow_le_pow_right (n := 2) (by decide) (show k + 2 ≤ 10 by omega)
  omega

def spUnder (k : Nat) : Sp := fun vs H Q _ => ∃ (t : Addr) (bs : List Nat) (a b c : Nat), vs = [.ref t, .int (a : Int), .int (b : Int), .int (c : Int)] ∧ H t = some (.tup (nV bs)) ∧ bs.length ≤ k + 1 ∧
  ∀ (p : Addr) (gvs : List V) (H' : Hp), Same H H' → H' p = some (.tup gvs) → Gates H' gvs (underM k bs a b c) → Q (.ref p) H'

section
variable {P : Program} {w : World} {K : PySem.W.Frag} {mg : Str → Option Value} {base : Heap}
theorem scUnder : FnScope ["burning", "a", "b", "c", "inner", "gate"] ["burning", "a", "b", "c"] (defScope sUnder) := ⟨rfl, rfl, rfl, by decide +kernel, rfl, by decide +kernel, by decide +kernel⟩
theorem ok_under {f : Addr} {fd : FuncData} (F : Fun K "under" "under" sUnder f fd) (B : Bl mg) (b : Binds K fd ["burning", "a", "b", "c"] []) (gU : mg "under" = some (.ref f)) : ∀ k, k ≤ 8 → FnOk P w K mg base CX0 (k + 1) f fd ["burning", "a", "b", "c"] (spUnder k) := by
  intro k
  induction k with
  | zero =>
    intro _
    refine F.ok scUnder (fun vs H Q E h => ?_) (fun cdv A outer s H vs Q E hr h => ?_)
    · obtain ⟨t, bs, a, b, c, rfl, _⟩ := h
      rfl
    · obtain ⟨t, bs, a, b, c, rfl, ht, hl, q⟩ := h
      refine ⟨_, pss_cons (ps_if (pt_cmpR op_lt (pe_callB call_len_seq (by rfl) B.len PySem.boot_len (pa_cons (pv 0) pa_nil)) pe_int (nomark _))
          (pss_one (ps_ret (pe_tup (pa_cons (pe_tup (pa_cons (pe_callTy call_tuple_of (by rfl) B.tuple (by decide +kernel) (pa_cons (pv 0) pa_nil)) (pa_cons (pv 1) (pa_cons (pv 2) pa_nil))))
            (pa_cons (pe_tup (pa_cons (pe_callTy call_tuple_of (by rfl) B.tuple (by decide +kernel) (pa_cons (pv 0) pa_nil)) (pa_cons (pv 1) (pa_cons (pv 3) pa_nil)))) pa_nil))))) pss_nil)
        (pss_cons ps_never (pss_one ps_never)), ?_⟩
      refine ⟨_, rfl, t, _, rfl, .inr (SqT.of ht), _, 2, rfl, rfl, true, (by show V.bl (decide (((nV bs).length : Int) < 2)) = V.bl true; rw [decide_eq_true (by unfold nV; rw [List.length_map]; omega)]), iteT ?_⟩
      refine ⟨_, rfl, t, _, rfl, .inr ⟨SqT.of ht, _, rfl, _, rfl, (by show 3 ≤ sizeLine; decide), fun p1 n1 => ?_⟩⟩
      have s1 : Same H _ := same_upd (o := .tup [.ref t, .int (a : Int), .int (b : Int)]) n1
      refine ⟨_, rfl, t, _, rfl, .inr ⟨SqT.of (s1 _ _ ht), _, rfl, _, rfl, (by show 3 ≤ sizeLine; decide), fun p2 n2 => ?_⟩⟩
      have s2 : Same _ _ := same_upd (o := .tup [.ref t, .int (a : Int), .int (c : Int)]) n2
      refine ⟨(by show 2 ≤ sizeLine; decide), fun p3 n3 => ?_⟩
      have s3 : Same _ _ := same_upd (o := .tup [.ref p1, .ref p2]) n3
      refine q p3 _ _ (s1.trans (s2.trans s3)) upd_same (.cons ⟨p1, t, rfl, s3 _ _ (s2 _ _ upd_same), s3 _ _ (s2 _ _ (s1 _ _ ht))⟩ (.cons ⟨p2, t, rfl, s3 _ _ upd_same, s3 _ _ (s2 _ _ (s1 _ _ ht))⟩ .nil))
  | succ k ih =>
    intro h8
    have GU := ih (by omega)
    have few := pow_few h8
    refine F.ok scUnder (fun vs H Q E h => ?_) (fun cdv A outer s H vs Q E hr h => ?_)
    · obtain ⟨t, bs, a, b, c, rfl, _⟩ := h
      rfl
    · obtain ⟨t, bs, a, b', c, rfl, ht, hl, q⟩ := h
      refine ⟨_, pss_cons (ps_if (pt_cmpR op_lt (pe_callB call_len_seq (by rfl) B.len PySem.boot_len (pa_cons (pv 0) pa_nil)) pe_int (nomark _))
          (pss_one (ps_ret (pe_tup (pa_cons (pe_tup (pa_cons (pe_callTy call_tuple_of (by rfl) B.tuple (by decide +kernel) (pa_cons (pv 0) pa_nil)) (pa_cons (pv 1) (pa_cons (pv 2) pa_nil))))
            (pa_cons (pe_tup (pa_cons (pe_callTy call_tuple_of (by rfl) B.tuple (by decide +kernel) (pa_cons (pv 0) pa_nil)) (pa_cons (pv 1) (pa_cons (pv 3) pa_nil)))) pa_nil))))) pss_nil)
        (pss_cons (ps_par (i := 4) (j := 5) (by rfl) scUnder.nd rfl rfl (by decide) rfl rfl (pa_cons
            (pe_call GU hr (by rfl) gU F.kp b .nil pass0 (pa_cons (pe_slice sl_tup (pv 0) po_none (po_some (pe_un un_neg pe_int))) (pa_cons (pv 1) (pa_cons (pv 3) (pa_cons (pv 2) pa_nil)))))
            (pa_cons (pe_tup (pa_cons (pe_tup (pa_cons (pe_ix ix_tup (pv 0) (pe_un un_neg pe_int) (fun _ _ => rfl)) pa_nil)) (pa_cons (pv 1) (pa_cons (pv 2) pa_nil)))) pa_nil)) (by rfl))
        (pss_one (ps_ret (pe_tup (StX.pa_star (pv 4) (pa_cons (pv 5) (StX.pa_star (pe_revT (pv 4)) (pa_cons (pv 5) pa_nil)))))))), ?_⟩
      have lV : (nV bs).length = bs.length := by
        unfold nV
        rw [List.length_map]
      by_cases sh : bs.length < 2
      · refine ⟨_, rfl, t, _, rfl, .inr (SqT.of ht), _, 2, rfl, rfl, true, (by show V.bl (decide (((nV bs).length : Int) < 2)) = V.bl true; rw [decide_eq_true (by omega)]), iteT ?_⟩
        refine ⟨_, rfl, t, _, rfl, .inr ⟨SqT.of ht, _, rfl, _, rfl, (by show 3 ≤ sizeLine; decide), fun p1 n1 => ?_⟩⟩
        have s1 : Same H _ := same_upd (o := .tup [.ref t, .int (a : Int), .int (b' : Int)]) n1
        refine ⟨_, rfl, t, _, rfl, .inr ⟨SqT.of (s1 _ _ ht), _, rfl, _, rfl, (by show 3 ≤ sizeLine; decide), fun p2 n2 => ?_⟩⟩
        have s2 : Same _ _ := same_upd (o := .tup [.ref t, .int (a : Int), .int (c : Int)]) n2
        refine ⟨(by show 2 ≤ sizeLine; decide), fun p3 n3 => ?_⟩
        have s3 : Same _ _ := same_upd (o := .tup [.ref p1, .ref p2]) n3
        refine q p3 _ _ (s1.trans (s2.trans s3)) upd_same ?_
        rw [underM_short sh]
        exact .cons ⟨p1, t, rfl, s3 _ _ (s2 _ _ upd_same), s3 _ _ (s2 _ _ (s1 _ _ ht))⟩ (.cons ⟨p2, t, rfl, s3 _ _ upd_same, s3 _ _ (s2 _ _ (s1 _ _ ht))⟩ .nil)
      · refine ⟨_, rfl, t, _, rfl, .inr (SqT.of ht), _, 2, rfl, rfl, false, (by show V.bl (decide (((nV bs).length : Int) < 2)) = V.bl false; rw [decide_eq_false (by omega)]), iteF ?_⟩
        -- the tuple is xs and its last
        obtain ⟨xs, y, rfl⟩ : ∃ xs y, bs = xs ++ [y] := ⟨bs.dropLast, bs.getLast (by intro z; subst z; simp at sh), (List.dropLast_concat_getLast _).symm⟩
        have eV : nV (xs ++ [y]) = nV xs ++ [V.int (y : Int)] := nV_append xs [y]
        have eD : (xs ++ [y]).dropLast = xs := List.dropLast_concat
        have eL : (xs ++ [y]).getLastD 0 = y := by simp
        rw [underM_long sh, eD, eL] at q
        rw [eV] at ht
        rw [List.length_append] at hl
        have hlx : xs.length ≤ k + 1 := by
          have : [y].length = 1 := rfl
          omega
        -- inner = under(burning[:-1], a, c, b)
        refine ⟨_, rfl, 1, rfl, _, rfl, t, _, rfl, SqT.of ht, cut_part _ _, fun p1 n1 => ?_⟩
        rw [cut_last]
        have s1 : Same H (upd H p1 (.tup (nV xs))) := same_upd n1
        refine ⟨_, rfl, _, rfl, _, rfl, p1, xs, a, c, b', rfl, upd_same, hlx, fun p gvs H2 s2 hp G2 => ?_⟩
        have ht2 := s2 _ _ (s1 _ _ ht)
        -- gate = ((burning[-1],), a, b)
        refine ⟨_, rfl, 1, rfl, t, _, -1, _, rfl, rfl, SqT.of ht2, atI_last _ _, (by show 1 ≤ sizeLine; decide), fun p2 n2 => ?_⟩
        have s3 : Same H2 (upd H2 p2 (.tup [V.int (y : Int)])) := same_upd n2
        refine ⟨_, rfl, _, rfl, (by show 3 ≤ sizeLine; decide), fun p3 n3 => ?_⟩
        have s4 : Same _ (upd (upd H2 p2 (.tup [V.int (y : Int)])) p3 (.tup [.ref p2, .int (a : Int), .int (b' : Int)])) := same_upd n3
        generalize e5 : (upd (upd H2 p2 (.tup [V.int (y : Int)])) p3 (.tup [.ref p2, .int (a : Int), .int (b' : Int)])) = H5 at s4
        have g3 : H5 p3 = some (.tup [.ref p2, .int (a : Int), .int (b' : Int)]) := by rw [← e5, upd_same]
        have g2 : H5 p2 = some (.tup [V.int (y : Int)]) := s4 _ _ upd_same
        have hp5 := s4 _ _ (s3 _ _ hp)
        have G5 := G2.same (Same.tups (s3.trans s4))
        refine ⟨_, _, rfl, ?_⟩
        -- return (*inner, gate, *inner[::-1], gate)
        have lg : gvs.length = (underM k xs a c b').length := paired_len G2
        have ul := underM_len k xs a c b'
        have fk := pow_few (k := k) (by omega)
        refine ⟨_, rfl, p, gvs, rfl, .inl (SqT.of hp5), _, rfl, _, rfl, p, gvs, rfl, SqT.of hp5, fun p6 n6 => ⟨p6, gvs.reverse, rfl, .inl (SqT.of upd_same), _, rfl, ?_, fun p7 n7 => ?_⟩⟩
        · show (gvs ++ (V.ref p3 :: (gvs.reverse ++ [V.ref p3]))).length ≤ sizeLine
          rw [List.length_append, List.length_cons, List.length_append, List.length_reverse, List.length_singleton, sizeLine_eq]
          omega
        have s6 : Same H5 (upd H5 p6 (.tup gvs.reverse)) := same_upd n6
        have s7 : Same _ (upd (upd H5 p6 (.tup gvs.reverse)) p7 (.tup (gvs ++ (V.ref p3 :: (gvs.reverse ++ [V.ref p3]))))) := same_upd n7
        have G7 := G5.same (Same.tups (s6.trans s7))
        have gv : GateV (upd (upd H5 p6 (.tup gvs.reverse)) p7 (.tup (gvs ++ (V.ref p3 :: (gvs.reverse ++ [V.ref p3]))))) (.ref p3) ([y], a, b') := ⟨p3, p2, rfl, s7 _ _ (s6 _ _ g3), s7 _ _ (s6 _ _ g2)⟩
        exact q p7 _ _ (s1.trans (s2.trans (s3.trans (s4.trans (s6.trans s7))))) upd_same (paired_app G7 (.cons gv (paired_app (paired_rev G7) (.cons gv .nil))))
end
end K39

set_option Elab.async false
set_option linter.all false
set_option maxRecDepth 100000
set_option maxHeartbeats 4000000
namespace K39
open PySem PySem.Spec PyProof.Rows L2

/-! ### the lamps that are none of three -/
def outM (u v w l : Nat) : Bool := !(l == u || l == v || l == w)
theorem restM_eq (n u v w : Nat) : restM n u v w = (List.range n).filter (outM u v w) := rfl
theorem in_three (u v w l : Nat) : (!inV (.int (0 + (l : Int))) [V.int (u : Int), V.int (v : Int), V.int (w : Int)]) = outM u v w l := by
  have e : ∀ a b : Nat, ((a : Int) == 0 + (b : Int)) = (b == a) := fun a b => by
    rw [Int.zero_add]
    by_cases h : b = a
    · subst h
      simp
    · rw [beq_false_of_ne h, beq_false_of_ne (fun z => h (by omega))]
  show (!(((u : Int) == 0 + (l : Int)) || (((v : Int) == 0 + (l : Int)) || (((w : Int) == 0 + (l : Int)) || false)))) = outM u v w l
  rw [e, e, e, Bool.or_false]
  unfold outM
  rw [Bool.or_assoc]
theorem filter_range_succ (f : Nat → Bool) (i : Nat) : (List.range (i + 1)).filter f = (List.range i).filter f ++ (if f i = true then [i] else []) := by
  rw [List.range_succ, List.filter_append]
  by_cases h : f i = true
  · rw [if_pos h, List.filter_cons_of_pos h, List.filter_nil]
  · rw [if_neg h, List.filter_cons_of_neg h, List.filter_nil]
theorem rest_tm {K : PySem.W.Frag} {σ : L2.St} {H : Hp} {i j l : Nat} {D : Addr} {Qd : Hp → Prop} (n u v w : Nat) (hn : n ≤ 8) (hD : H D = none) (hw : ∀ x, wipe ((wipe σ [17]).set 17 (some x)) [17] = wipe σ [17])
    (hx : ∀ x, ((wipe σ [17]).set 17 (some x))[17]? = some (some x)) (hi : ∀ x, ((wipe σ [17]).set 17 (some x))[i]? = some (some (.int (u : Int)))) (hj : ∀ x, ((wipe σ [17]).set 17 (some x))[j]? = some (some (.int (v : Int))))
    (hl : ∀ x, ((wipe σ [17]).set 17 (some x))[l]? = some (some (.int (w : Int)))) (q : ∀ H', Same H H' → H' D = some (.lst (nV (restM n u v w))) → Qd H') :
    ∃ W : Nat → Nat → Hp → Prop, (∃ m, W 0 m (upd H D (.lst []))) ∧ ∀ k m H, W k m H →
      ((Itr 0 ((n : Int)).toNat).stop k H ∧ Qd H) ∨ ((Itr 0 ((n : Int)).toNat).go k H ∧ ∃ Nx : Hp → Prop, (∀ H', Nx H' → ∃ m', m' < m ∧ W (k + 1) m' H') ∧ ∀ x H', (Itr 0 ((n : Int)).toNat).yld k H x H' → gName 17 x (wipe σ [17]) H' fun σ2 H2 => wipe σ2 [17] = wipe σ [17] ∧
        tTest (tOp (rIn K true) (tVar 17) (tTup (tCons (tVar i) (tCons (tVar j) (tCons (tVar l) tNil))))) σ2 H2 fun b H3 =>
        if b = true then tVar 17 σ2 H3 fun y H4 => ∃ acc, H4 D = some (.lst acc) ∧ acc.length < sizeLine ∧ Nx (upd H4 D (.lst (acc ++ [y]))) else Nx H3) := by
  have en : ((n : Int)).toNat = n := by omega
  rw [en]
  refine lc_range (lo := 0) (n := n) (fun k H' => Same H H' ∧ H' D = some (.lst (nV ((List.range k).filter (outM u v w))))) ⟨same_upd hD, upd_same⟩ (fun k H' hk p => ?_) (fun H' p => q H' p.1 p.2)
  obtain ⟨s1, eD⟩ := p
  refine ⟨hw _, _, hx _, _, hi _, _, hj _, _, hl _, (by show 3 ≤ sizeLine; decide), fun t ht => ?_⟩
  have s2 : Same H' (upd H' t (.tup [V.int (u : Int), V.int (v : Int), V.int (w : Int)])) := same_upd ht
  refine ⟨t, _, rfl, .inr (SqT.of upd_same), rfl, rfl, !inV (.int (0 + (k : Int))) [V.int (u : Int), V.int (v : Int), V.int (w : Int)], rfl, ?_⟩
  rw [in_three]
  have eD2 := s2 _ _ eD
  refine ite2 (fun o => ?_) (fun o => ?_)
  · refine ⟨_, hx _, _, eD2, ?_, ?_, ?_⟩
    · unfold nV
      rw [List.length_map]
      refine small1000 ?_
      have := List.length_filter_le (outM u v w) (List.range k)
      rw [List.length_range] at this
      omega
    · intro b z e
      rw [upd_ne (ne_of_none e hD)]
      exact s2 _ _ (s1 _ _ e)
    · rw [upd_same, filter_range_succ, if_pos o, nV_append]
      have z : V.int (0 + (k : Int)) = V.int (k : Int) := by rw [Int.zero_add]
      rw [z]
      rfl
  · refine ⟨s1.trans s2, ?_⟩
    rw [filter_range_succ, if_neg o, List.append_nil]
    exact eD2

/-! ### top_gates -/
def TupK (K : PySem.W.Frag) (a : Addr) (xs : List V) : Prop := ∃ (o : Obj) (its : Array Value) (n : Nat), K.lookup a = some o ∧ o.cls = .type "tuple" ∧ o.data = .seq its n ∧ its.size ≤ sizeLine ∧ Vals xs its.toList
theorem TupK.at {K : PySem.W.Frag} {a : Addr} {xs : List V} (h : TupK K a xs) (H : Hp) : SqT K H a xs := .inr h
structure SixK (K : PySem.W.Frag) (mg : Str → Option Value) : Prop where
  six : ∃ (a : Addr) (xs : List V), mg "SIX" = some (.ref a) ∧ TupK K a xs ∧ Paired (fun v (t : Nat × Nat × Nat × Nat) => ∃ b, v = .ref b ∧ TupK K b [.int (t.1 : Nat), .int (t.2.1 : Nat), .int (t.2.2.1 : Nat), .int (t.2.2.2 : Nat)]) xs sixM
  lamps : ∃ a : Addr, mg "SIX_LAMPS" = some (.ref a) ∧ TupK K a [.int 3, .int 0, .int 1, .int 2]
theorem paired_get {α β : Type} {R : α → β → Prop} : ∀ {xs : List α} {ys : List β} {i : Nat} {x : α}, Paired R xs ys → xs[i]? = some x → ∃ y, ys[i]? = some y ∧ R x y
  | _, _, i, x, .nil, e => by simp at e
  | _, _, 0, x, .cons r _, e => by
    simp at e
    subst e
    exact ⟨_, rfl, r⟩
  | _, _, i + 1, x, .cons _ t, e => by
    obtain ⟨y, h1, h2⟩ := paired_get (i := i) t (by simpa using e)
    exact ⟨y, by simpa using h1, h2⟩
theorem called_at (u v w r k : Nat) (h : k < 4) : valV (mergeK [] ((([3, 0, 1, 2] : List Int).map Sum.inl : List Key).zip [V.int (u : Int), V.int (v : Int), V.int (w : Int), V.int (r : Int)])) (Sum.inl (k : Int) : Key) = some (V.int ((calM u v w r k : Nat) : Int)) := by
  match k, h with
  | 0, _ => rfl
  | 1, _ => rfl
  | 2, _ => rfl
  | 3, _ => rfl
theorem six_small : ∀ t ∈ sixM, t.1 < 4 ∧ t.2.1 < 4 ∧ t.2.2.1 < 4 ∧ t.2.2.2 < 4 := by decide
theorem bits_rows : ∀ n < 7, ∀ u < n, Builtin.Int.intBits (((((1 <<< n) - 1) ^^^ rowOf n u : Nat)) : Int) = u + 1 := by decide +kernel
theorem rest_few : ∀ n < 7, ∀ u < n, ∀ p < n, ∀ w < n, (restM n u p w).length ≤ 5 := by decide +kernel
theorem rest_many : ∀ n < 7, ∀ u < n, ∀ v < n, ∀ w < n, n - 3 ≤ (restM n u v w).length := by decide +kernel
theorem rest_in (n u v w : Nat) : ∀ x ∈ restM n u v w, x < n := fun x hx => by
  rw [restM_eq] at hx
  exact List.mem_range.mp (List.mem_filter.mp hx).1
theorem top_cast (n : Nat) : ((1 <<< n : Nat) : Int) - 1 = ((1 <<< n - 1 : Nat) : Int) := by
  have : 1 ≤ 1 <<< n := by
    rw [Nat.shiftLeft_eq, Nat.one_mul]
    exact Nat.one_le_two_pow
  omega
theorem cut2 (a b : V) (r : List V) : cutV (a :: b :: r) none (some 2) = [a, b] := by
  unfold cutV
  have e1 : HT.sIx (a :: b :: r).length (a :: b :: r).length (some 2) = 2 := by
    show min 2 (r.length + 1 + 1) = 2
    omega
  rw [e1, HT.sIx_none]
  rfl
def spGates : Sp := fun vs H Q _ => ∃ (n u v w : Nat) (r : Addr), vs = [.int (n : Int), .ref r] ∧ H r = some (.tup (nV ([u, v, w].map (rowOf n)))) ∧ 3 ≤ n ∧ n ≤ 6 ∧ u < n ∧ v < n ∧ w < n ∧
  ∀ (p : Addr) (gvs : List V) (H' : Hp), Same H H' → H' p = some (.tup gvs) → Gates H' gvs (topM n u v w) → Q (.ref p) H'

section
variable {P : Program} {w : World} {K : PySem.W.Frag} {mg : Str → Option Value} {base : Heap}
theorem scGates : FnScope ["lamps", "rows", "u", "v", "w", "rest", "called", "found", "hand", "a", "b", "c", "p", "q", "one", "other", "row", "lamp"] ["lamps", "rows"] (defScope sGates) := ⟨rfl, rfl, rfl, by decide +kernel, rfl, by decide +kernel, by decide +kernel⟩
theorem ok_gates {f : Addr} {fd : FuncData} (F : Fun K "top_gates" "top_gates" sGates f fd) (B : Bl mg) (S : SixK K mg) (HU : Has P w K mg base "under" 5 ["burning", "a", "b", "c"] (spUnder 4)) : FnOk P w K mg base CX0 6 f fd ["lamps", "rows"] spGates := by
  obtain ⟨fU, dU, GU, kU, bU, gU⟩ := HU
  obtain ⟨aS, xS, gS, tS, pS⟩ := S.six
  obtain ⟨aL, gL, tL⟩ := S.lamps
  refine F.ok scGates (fun vs H Q E h => ?_) (fun cdv A outer s H vs Q E hr h => ?_)
  · obtain ⟨n, u, v, w, r, rfl, _⟩ := h
    rfl
  · obtain ⟨n, u, v, w, r, rfl, er, n3, n6, hu', hv', hw', q⟩ := h
    have hu := hu_of hr
    refine ⟨_, pss_cons (ps_asg (pe_lc (own := [("row", 16)]) (g := gName 16) (tt := tYes) (by rfl) scGates.nd (pi_tup (pv 1)) (blkOk_by (N := ["lamps", "rows", "u", "v", "w", "rest", "called", "found", "hand", "a", "b", "c", "p", "q", "one", "other", "row", "lamp"]) (sc := defScope sGates) (by decide +kernel))
          (fun _ _ _ _ _ => pg_name (i := 16) scGates.nd rfl (Or.inl rfl)) (fun _ _ _ _ _ => pts_nil)
          (fun _ _ _ _ _ => pe_op op_sub (pe_bits (pe_op op_xorN (pe_op op_sub (pe_op op_shlM pe_int (pv 0)) pe_int) (pv 16))) pe_int))
        (pg_unl (by rfl) (pgs_cons (pg_name (i := 2) scGates.nd rfl (.inr rfl)) (pgs_cons (pg_name (i := 3) scGates.nd rfl (.inr rfl)) (pgs_cons (pg_name (i := 4) scGates.nd rfl (.inr rfl)) pgs_nil)))))
      (pss_cons (ps_setLc (i := 5) (own := [("lamp", 17)]) (g := gName 17) (tt := tTest (tOp (rIn K true) (tVar 17) (tTup (tCons (tVar 2) (tCons (tVar 3) (tCons (tVar 4) tNil)))))) (by rfl) scGates.nd rfl rfl (sw_true rfl rfl rfl (by decide +kernel)) (pi_range1 (by rfl) B.range (pa_cons (pv 0) pa_nil))
          (blkOk_by (N := ["lamps", "rows", "u", "v", "w", "rest", "called", "found", "hand", "a", "b", "c", "p", "q", "one", "other", "row", "lamp"]) (sc := defScope sGates) (by decide +kernel))
          (fun _ _ _ _ _ => pg_name (i := 17) scGates.nd rfl (Or.inl rfl)) (fun _ _ _ _ _ => pts_one (pt_cmpR op_notIn_seq (pv 17) (pe_tup (pa_cons (pv 2) (pa_cons (pv 3) (pa_cons (pv 4) pa_nil)))) (by rfl)))
          (fun _ _ _ _ _ => pv 17))
      (pss_cons (ps_if (pt_cmpR op_eq (pv 0) pe_int (nomark _))
          (pss_one (ps_ret (pe_tup (pa_cons (pe_tup (pa_cons (pe_tup (pa_cons (pv 3) pa_nil)) (pa_cons (pv 2) (pa_cons (pv 4) pa_nil)))) (pa_cons (pe_tup (pa_cons (pe_tup (pa_cons (pv 2) pa_nil)) (pa_cons (pv 3) (pa_cons (pv 4) pa_nil)))) pa_nil))))) pss_nil)
      (pss_cons (ps_if (pt_cmpR op_eq (pv 0) pe_int (nomark _))
          (pss_cons (ps_par (i := 6) (j := 7) (by rfl) scGates.nd rfl rfl (by decide) rfl rfl (pa_cons (pe_dz (by rfl) (by rfl) B.dict (by rfl) B.zip (pa_cons (pe_glob (v := .ref aL) (by rfl) gL rfl)
              (pa_cons (pe_tup (pa_cons (pv 2) (pa_cons (pv 3) (pa_cons (pv 4) (pa_cons (pe_ix ix_list (pv 5) pe_int (fun _ _ => rfl)) pa_nil))))) pa_nil))) (pa_cons (pe_lst pa_nil) pa_nil)) (by rfl))
          (pss_cons (ps_for PassesOwn.never rfl (pi_tup (pe_glob (v := .ref aS) (by rfl) gS rfl)) (pg_tup (by rfl) (pgs_cons (pg_name (i := 8) scGates.nd rfl (.inl rfl)) (pgs_cons (pg_name (i := 9) scGates.nd rfl (.inl rfl)) (pgs_cons (pg_name (i := 10) scGates.nd rfl (.inl rfl)) (pgs_cons (pg_name (i := 11) scGates.nd rfl (.inl rfl)) pgs_nil)))))
            (pss_one (ps_expr (pe_bm PySem.F.plainAttrs_list PySem.F.slot_list_extend PySem.F.type_list_extend mt_extT (pv 7) (pa_cons
              (pe_call GU hr (by rfl) gU kU bU .nil pass0 (pa_cons (pe_tup (pa_cons (pe_dget hu (pv 6) (pv 8) (fun _ _ => rfl)) pa_nil)) (pa_cons (pe_dget hu (pv 6) (pv 9) (fun _ _ => rfl)) (pa_cons (pe_dget hu (pv 6) (pv 10) (fun _ _ => rfl)) (pa_cons (pe_dget hu (pv 6) (pv 11) (fun _ _ => rfl)) pa_nil))))) pa_nil)))))
          (pss_one (ps_ret (pe_callTy call_tuple_of (by rfl) B.tuple (by decide +kernel) (pa_cons (pv 7) pa_nil)))))) pss_nil)
      (pss_cons (ps_asg (pe_slice sl_list (pv 5) po_none (po_some pe_int)) (pg_unl (by rfl) (pgs_cons (pg_name (i := 12) scGates.nd rfl (.inr rfl)) (pgs_cons (pg_name (i := 13) scGates.nd rfl (.inr rfl)) pgs_nil))))
      (pss_cons (ps_set (i := 14) scGates.nd rfl (.inl rfl) (pe_call GU hr (by rfl) gU kU bU .nil pass0 (pa_cons (pe_callTy call_tuple_of (by rfl) B.tuple (by decide +kernel) (pa_cons
          (pe_lc (own := [("lamp", 17)]) (g := gName 17) (tt := tTest (tOp (rIn K true) (tVar 17) (tTup (tCons (tVar 2) (tCons (tVar 12) (tCons (tVar 4) tNil)))))) (by rfl) scGates.nd (pi_range1 (by rfl) B.range (pa_cons (pv 0) pa_nil))
            (blkOk_by (N := ["lamps", "rows", "u", "v", "w", "rest", "called", "found", "hand", "a", "b", "c", "p", "q", "one", "other", "row", "lamp"]) (sc := defScope sGates) (by decide +kernel))
            (fun _ _ _ _ _ => pg_name (i := 17) scGates.nd rfl (Or.inl rfl)) (fun _ _ _ _ _ => pts_one (pt_cmpR op_notIn_seq (pv 17) (pe_tup (pa_cons (pv 2) (pa_cons (pv 12) (pa_cons (pv 4) pa_nil)))) (by rfl)))
            (fun _ _ _ _ _ => pv 17)) pa_nil)) (pa_cons (pv 2) (pa_cons (pv 12) (pa_cons (pv 4) pa_nil))))))
      (pss_cons (ps_set (i := 15) scGates.nd rfl (.inl rfl) (pe_call GU hr (by rfl) gU kU bU .nil pass0 (pa_cons (pe_callTy call_tuple_of (by rfl) B.tuple (by decide +kernel) (pa_cons
          (pe_lc (own := [("lamp", 17)]) (g := gName 17) (tt := tTest (tOp (rIn K true) (tVar 17) (tTup (tCons (tVar 2) (tCons (tVar 13) (tCons (tVar 3) tNil)))))) (by rfl) scGates.nd (pi_range1 (by rfl) B.range (pa_cons (pv 0) pa_nil))
            (blkOk_by (N := ["lamps", "rows", "u", "v", "w", "rest", "called", "found", "hand", "a", "b", "c", "p", "q", "one", "other", "row", "lamp"]) (sc := defScope sGates) (by decide +kernel))
            (fun _ _ _ _ _ => pg_name (i := 17) scGates.nd rfl (Or.inl rfl)) (fun _ _ _ _ _ => pts_one (pt_cmpR op_notIn_seq (pv 17) (pe_tup (pa_cons (pv 2) (pa_cons (pv 13) (pa_cons (pv 3) pa_nil)))) (by rfl)))
            (fun _ _ _ _ _ => pv 17)) pa_nil)) (pa_cons (pv 2) (pa_cons (pv 13) (pa_cons (pv 3) pa_nil))))))
      (pss_one (ps_ret (pe_tup (StX.pa_star (pv 14) (StX.pa_star (pv 15) (StX.pa_star (pe_revT (pv 14)) (StX.pa_star (pe_revT (pv 15)) pa_nil))))))))))))), ?_⟩
    -- u, v, w = [..]
    refine ⟨_, rfl, r, rfl, ⟨_, SqT.of er⟩, fun D hD => ?_⟩
    refine lc_tup (K := K) (a := r) (xs := nV ([u, v, w].map (rowOf n))) (fun i H' => Same H H' ∧ H' D = some (.lst (nV ([u, v, w].take i)))) ⟨same_upd hD, upd_same⟩ (fun i H' _ p => SqT.of (p.1 _ _ er)) (fun i x H' hi p => ?_) (fun H1 p => ?_)
    · obtain ⟨s1, eD⟩ := p
      obtain ⟨t, et, lt, rfl⟩ : ∃ t, [u, v, w][i]? = some t ∧ t < n ∧ x = V.int ((rowOf n t : Nat) : Int) := by
        unfold nV at hi
        rw [List.getElem?_map, List.getElem?_map] at hi
        cases e : [u, v, w][i]? with
        | none =>
          rw [e] at hi
          cases hi
        | some t =>
          rw [e] at hi
          have mem := List.mem_of_getElem? e
          refine ⟨t, rfl, ?_, (Option.some.inj hi).symm⟩
          simp only [List.mem_cons, List.not_mem_nil, or_false] at mem
          rcases mem with rfl | rfl | rfl <;> assumption
      refine ⟨rfl, yesT ?_⟩
      refine ⟨_, rfl, 1, n, rfl, rfl, by decide, by omega, _, _, rfl, rfl, _, rfl, 1 <<< n - 1, rowOf n t, congrArg V.int (top_cast n), rfl, _, rfl, _, _, rfl, rfl, _, eD, ?_, ?_, ?_⟩
      · unfold nV
        rw [List.length_map, List.length_take]
        refine small1000 ?_
        have : [u, v, w].length = 3 := rfl
        omega
      · intro b z e
        rw [upd_ne (ne_of_none e hD)]
        exact s1 _ _ e
      · rw [upd_same, bits_rows n (by omega) t lt, List.take_add_one, et, nV_append]
        have z : (((t + 1 : Nat) : Int) - 1) = (t : Int) := by omega
        show some (HO.lst (nV (List.take i [u, v, w]) ++ [V.int (((t + 1 : Nat) : Int) - 1)])) = _
        rw [z]
        rfl
    obtain ⟨s1, eD⟩ := p
    refine ⟨D, _, rfl, SqL.of eD, rfl, _, _, rfl, _, _, rfl, _, _, rfl, rfl, ?_⟩
    -- rest
    refine ⟨_, rfl, (n : Int), rfl, by omega, by omega, fun D2 hD2 => rest_tm n u v w (by omega) hD2 (fun _ => rfl) (fun _ => rfl) (fun _ => rfl) (fun _ => rfl) (fun _ => rfl) fun H2 s2 e2 => ?_⟩
    have er2 := s2 _ _ (s1 _ _ er)
    have many := rest_many n (by omega) u hu' v hv' w hw'
    -- if lamps == 3
    refine ⟨_, rfl, rfl, _, rfl, ite2 (fun c => ?_) (fun c => ?_)⟩
    · have e3 : n = 3 := by
        have := of_decide_eq_true c
        have := V.int.inj this
        omega
      subst e3
      refine ⟨_, rfl, (by show 1 ≤ sizeLine; decide), fun p1 n1 => ?_⟩
      have t1 : Same H2 (upd H2 p1 (.tup [V.int (v : Int)])) := same_upd n1
      refine ⟨_, rfl, _, rfl, (by show 3 ≤ sizeLine; decide), fun p2 n2 => ?_⟩
      have t2 : Same _ (upd (upd H2 p1 (.tup [V.int (v : Int)])) p2 (.tup [V.ref p1, V.int (u : Int), V.int (w : Int)])) := same_upd n2
      refine ⟨_, rfl, (by show 1 ≤ sizeLine; decide), fun p3 n3 => ?_⟩
      have t3 : Same _ (upd (upd (upd H2 p1 (.tup [V.int (v : Int)])) p2 (.tup [V.ref p1, V.int (u : Int), V.int (w : Int)])) p3 (.tup [V.int (u : Int)])) := same_upd n3
      refine ⟨_, rfl, _, rfl, (by show 3 ≤ sizeLine; decide), fun p4 n4 => ?_⟩
      have t4 : Same _ (upd (upd (upd (upd H2 p1 (.tup [V.int (v : Int)])) p2 (.tup [V.ref p1, V.int (u : Int), V.int (w : Int)])) p3 (.tup [V.int (u : Int)])) p4 (.tup [V.ref p3, V.int (v : Int), V.int (w : Int)])) := same_upd n4
      refine ⟨(by show 2 ≤ sizeLine; decide), fun p5 n5 => ?_⟩
      have t5 : Same _ (upd (upd (upd (upd (upd H2 p1 (.tup [V.int (v : Int)])) p2 (.tup [V.ref p1, V.int (u : Int), V.int (w : Int)])) p3 (.tup [V.int (u : Int)])) p4 (.tup [V.ref p3, V.int (v : Int), V.int (w : Int)])) p5 (.tup [.ref p2, .ref p4])) := same_upd n5
      exact q p5 _ _ (s1.trans (s2.trans (t1.trans (t2.trans (t3.trans (t4.trans t5)))))) upd_same (.cons ⟨p2, p1, rfl, t5 _ _ (t4 _ _ (t3 _ _ upd_same)), t5 _ _ (t4 _ _ (t3 _ _ (t2 _ _ upd_same)))⟩
        (.cons ⟨p4, p3, rfl, t5 _ _ upd_same, t5 _ _ (t4 _ _ upd_same)⟩ .nil))
    have ne3 : n ≠ 3 := fun z => c (decide_eq_true (congrArg (fun m : Nat => V.int (m : Int)) z))
    -- if lamps == 4
    refine ⟨_, rfl, rfl, _, rfl, ite2 (fun c4 => ?_) (fun c4 => ?_)⟩
    · have e4 : n = 4 := by
        have := of_decide_eq_true c4
        have := V.int.inj this
        omega
      subst e4
      obtain ⟨r0, rl, er0⟩ : ∃ r0 rl, restM 4 u v w = r0 :: rl := by
        cases e : restM 4 u v w with
        | nil =>
          rw [e] at many
          exact absurd many (by decide)
        | cons a b => exact ⟨a, b, rfl⟩
      have eq4 : topM 4 u v w = (sixM.map fun t => underM 4 [calM u v w r0 t.1] (calM u v w r0 t.2.1) (calM u v w r0 t.2.2.1) (calM u v w r0 t.2.2.2)).flatten := by
        unfold topM
        rw [if_neg (by decide), if_pos rfl, er0]
        rfl
      rw [eq4] at q
      rw [er0] at e2
      -- called, found = dict(zip(..)), []
      refine ⟨_, rfl, _, rfl, _, rfl, _, rfl, D2, _, 0, V.int (r0 : Int), rfl, rfl, SqL.of e2, atI_nat (j := 0) rfl, (by show 4 ≤ sizeLine; decide), fun t nt => ?_⟩
      have t1 : Same H2 (upd H2 t (.tup [V.int (u : Int), V.int (v : Int), V.int (w : Int), V.int (r0 : Int)])) := same_upd nt
      refine ⟨aL, t, [3, 0, 1, 2], _, rfl, tL.at _, SqT.of upd_same, rfl, fun d nd => ?_⟩
      generalize eH3 : upd H2 t (.tup [V.int (u : Int), V.int (v : Int), V.int (w : Int), V.int (r0 : Int)]) = H3 at t1 nd
      generalize ekv : mergeK [] ((([3, 0, 1, 2] : List Int).map Sum.inl : List Key).zip [V.int (u : Int), V.int (v : Int), V.int (w : Int), V.int (r0 : Int)]) = kvs
      have t2 : Same H3 (upd H3 d (.dK kvs)) := same_upd nd
      have cal : ∀ k : Nat, k < 4 → valV kvs (Sum.inl (k : Int) : Key) = some (V.int ((calM u v w r0 k : Nat) : Int)) := fun k hk => by
        rw [← ekv]
        exact called_at u v w r0 k hk
      refine ⟨by show 0 ≤ sizeLine; decide, fun fo nf => ⟨_, _, rfl, ?_⟩⟩
      have t3 : Same (upd H3 d (.dK kvs)) (upd (upd H3 d (.dK kvs)) fo (.lst [])) := same_upd nf
      generalize eH5 : upd (upd H3 d (.dK kvs)) fo (.lst []) = H5 at t3
      have ed5 : H5 d = some (.dK kvs) := t3 _ _ upd_same
      have ef5 : H5 fo = some (.lst []) := by rw [← eH5, upd_same]
      have t05 : Same H H5 := s1.trans (s2.trans (t1.trans (t2.trans t3)))
      have nfH : H fo = none := (s1.trans (s2.trans (t1.trans t2))).free nf
      -- for hand, a, b, c in SIX
      refine ⟨aS, rfl, ⟨_, tS.at _⟩, for_tup (K := K) (a := aS) (xs := xS) (fun i σ H' => ∃ (x1 x2 x3 x4 : Option V) (acc : List V), σ = [some (.int (4 : Int)), some (.ref r), some (.int (u : Int)), some (.int (v : Int)), some (.int (w : Int)), some (.ref D2), some (.ref d), some (.ref fo), x1, x2, x3, x4, none, none, none, none, none, none] ∧
        (∀ b o, H5 b = some o → b ≠ fo → H' b = some o) ∧ H' fo = some (.lst acc) ∧ acc.length ≤ 64 * i ∧
        Gates H' acc ((sixM.take i).map fun t => underM 4 [calM u v w r0 t.1] (calM u v w r0 t.2.1) (calM u v w r0 t.2.2.1) (calM u v w r0 t.2.2.2)).flatten) ⟨none, none, none, none, [], rfl, fun b o e _ => e, ef5, Nat.le_refl _, .nil⟩ (fun i σ H' _ _ => tS.at _) ?_ ?_⟩
      · rintro i x σ H' hi ⟨x1, x2, x3, x4, acc, rfl, kp, ef, la, GA⟩
        obtain ⟨t, et, b, rfl, tb⟩ := paired_get pS hi
        have il : i < 6 := (List.getElem?_eq_some_iff.mp et).1
        obtain ⟨k1, k2, k3, k4⟩ := six_small t (List.mem_of_getElem? et)
        have df : d ≠ fo := ne_of ed5 ef5 (by intro z; cases z)
        have ed : H' d = some (.dK kvs) := kp _ _ ed5 df
        refine ⟨b, _, rfl, tb.at _, rfl, _, _, rfl, _, _, rfl, _, _, rfl, _, _, rfl, rfl, ?_⟩
        refine ⟨_, rfl, .inl ⟨rfl, _, SqL.of ef⟩, ?_⟩
        refine ⟨_, rfl, _, rfl, d, V.int ((calM u v w r0 t.1 : Nat) : Int), rfl, .inl ⟨kvs, Sum.inl (t.1 : Int), .inl ed, rfl, (cal _ k1).symm⟩, (by show 1 ≤ sizeLine; decide), fun p1 n1 => ?_⟩
        have u1 : Same H' (upd H' p1 (.tup [V.int ((calM u v w r0 t.1 : Nat) : Int)])) := same_upd n1
        have ed1 := u1 _ _ ed
        refine ⟨_, rfl, _, rfl, d, V.int ((calM u v w r0 t.2.1 : Nat) : Int), rfl, .inl ⟨kvs, Sum.inl (t.2.1 : Int), .inl ed1, rfl, (cal _ k2).symm⟩, ?_⟩
        refine ⟨_, rfl, _, rfl, d, V.int ((calM u v w r0 t.2.2.1 : Nat) : Int), rfl, .inl ⟨kvs, Sum.inl (t.2.2.1 : Int), .inl ed1, rfl, (cal _ k3).symm⟩, ?_⟩
        refine ⟨_, rfl, _, rfl, d, V.int ((calM u v w r0 t.2.2.2 : Nat) : Int), rfl, .inl ⟨kvs, Sum.inl (t.2.2.2 : Int), .inl ed1, rfl, (cal _ k4).symm⟩, ?_⟩
        refine ⟨p1, [calM u v w r0 t.1], _, _, _, rfl, upd_same, (by show 1 ≤ 5; decide), fun p gvs H6 u2 hp6 G6 => ?_⟩
        have ef6 := u2 _ _ (u1 _ _ ef)
        have lg : gvs.length + 2 ≤ 64 := by
          rw [paired_len G6]
          exact underM_len 4 _ _ _ _
        have pf : p ≠ fo := ne_of hp6 ef6 (by intro z; cases z)
        refine ⟨fo, p, acc, gvs, rfl, rfl, ef6, SqT.of hp6, ?_, ?_⟩
        · rw [sizeLine_eq]
          omega
        refine ⟨_, _, _, _, acc ++ gvs, rfl, fun b o e ne => ?_, upd_same, by rw [List.length_append]; omega, ?_⟩
        · rw [upd_ne ne]
          exact u2 _ _ (u1 _ _ (kp b o e ne))
        · have et2 : ((sixM.take (i + 1)).map fun t => underM 4 [calM u v w r0 t.1] (calM u v w r0 t.2.1) (calM u v w r0 t.2.2.1) (calM u v w r0 t.2.2.2)).flatten = ((sixM.take i).map fun t => underM 4 [calM u v w r0 t.1] (calM u v w r0 t.2.1) (calM u v w r0 t.2.2.1) (calM u v w r0 t.2.2.2)).flatten ++ underM 4 [calM u v w r0 t.1] (calM u v w r0 t.2.1) (calM u v w r0 t.2.2.1) (calM u v w r0 t.2.2.2) := by
            rw [List.take_add_one, et, List.map_append, List.flatten_append]
            show _ ++ (underM 4 [calM u v w r0 t.1] (calM u v w r0 t.2.1) (calM u v w r0 t.2.2.1) (calM u v w r0 t.2.2.2) ++ []) = _
            rw [List.append_nil]
          rw [et2]
          have up : ∀ b xs, H6 b = some (.tup xs) → (upd H6 fo (.lst (acc ++ gvs))) b = some (.tup xs) := fun b xs e => by
            rw [upd_ne (ne_of e ef6 (by intro z; cases z))]
            exact e
          exact paired_app ((GA.same (Same.tups (u1.trans u2))).same up) (G6.same up)
      · rintro σ H' ⟨x1, x2, x3, x4, acc, rfl, kp, ef, la, GA⟩
        have l6 : xS.length = 6 := paired_len pS
        rw [l6] at GA
        have e6 : sixM.take 6 = sixM := rfl
        rw [e6] at GA
        refine ⟨_, rfl, fo, acc, rfl, .inl ⟨SqL.of ef, fun p np => ?_⟩⟩
        have t6 : Same H' (upd H' p (.tup acc)) := same_upd np
        exact q p acc _ (fun b o e => t6 _ _ (kp _ _ (t05 _ _ e) (ne_of_none e nfH))) upd_same (GA.same (Same.tups t6))
    have ne4 : n ≠ 4 := fun z => c4 (decide_eq_true (congrArg (fun m : Nat => V.int (m : Int)) z))
    obtain ⟨p0, q0, rl, er0⟩ : ∃ p0 q0 rl, restM n u v w = p0 :: q0 :: rl := by
      cases e : restM n u v w with
      | nil =>
        rw [e] at many
        have : ([] : List Nat).length = 0 := rfl
        omega
      | cons a b =>
        cases b with
        | nil =>
          rw [e] at many
          have : [a].length = 1 := rfl
          omega
        | cons b c => exact ⟨a, b, c, rfl⟩
    have pin : p0 < n := rest_in n u v w _ (by rw [er0]; exact List.mem_cons_self ..)
    have qin : q0 < n := rest_in n u v w _ (by rw [er0]; exact List.mem_cons_of_mem _ (List.mem_cons_self ..))
    have eqN : topM n u v w = underM 4 (restM n u p0 w) u p0 w ++ (underM 4 (restM n u q0 v) u q0 v ++ ((underM 4 (restM n u p0 w) u p0 w).reverse ++ ((underM 4 (restM n u q0 v) u q0 v).reverse ++ []))) := by
      unfold topM
      rw [if_neg ne3, if_neg ne4, er0]
      rfl
    rw [eqN] at q
    rw [er0] at e2
    -- p, q = rest[:2]
    refine ⟨_, rfl, 2, rfl, D2, _, rfl, SqL.of e2, fun D3 n3' => ?_⟩
    have ecut : cutV (nV (p0 :: q0 :: rl)) none (some 2) = [V.int (p0 : Int), V.int (q0 : Int)] := cut2 _ _ _
    rw [ecut]
    have t1 : Same H2 (upd H2 D3 (.lst [V.int (p0 : Int), V.int (q0 : Int)])) := same_upd n3'
    refine ⟨D3, _, rfl, SqL.of upd_same, rfl, _, _, rfl, _, _, rfl, rfl, ?_⟩
    -- one
    refine ⟨_, rfl, (n : Int), rfl, by omega, by omega, fun D4 hD4 => rest_tm n u p0 w (by omega) hD4 (fun _ => rfl) (fun _ => rfl) (fun _ => rfl) (fun _ => rfl) (fun _ => rfl) fun H4 t2 e4 => ?_⟩
    refine ⟨D4, _, rfl, .inl ⟨SqL.of e4, fun b1 nb1 => ?_⟩⟩
    have t3 : Same H4 (upd H4 b1 (.tup (nV (restM n u p0 w)))) := same_upd nb1
    refine ⟨_, rfl, _, rfl, _, rfl, b1, restM n u p0 w, u, p0, w, rfl, upd_same, rest_few n (by omega) u hu' p0 pin w hw', fun o1 g1 H5 t4 eo1 G1 => ?_⟩
    -- other
    refine ⟨_, rfl, (n : Int), rfl, by omega, by omega, fun D5 hD5 => rest_tm n u q0 v (by omega) hD5 (fun _ => rfl) (fun _ => rfl) (fun _ => rfl) (fun _ => rfl) (fun _ => rfl) fun H6 t5 e6 => ?_⟩
    refine ⟨D5, _, rfl, .inl ⟨SqL.of e6, fun b2 nb2 => ?_⟩⟩
    have t6 : Same H6 (upd H6 b2 (.tup (nV (restM n u q0 v)))) := same_upd nb2
    refine ⟨_, rfl, _, rfl, _, rfl, b2, restM n u q0 v, u, q0, v, rfl, upd_same, rest_few n (by omega) u hu' q0 qin v hv', fun o2 g2 H7 t7 eo2 G2 => ?_⟩
    -- return (*one, *other, *one[::-1], *other[::-1])
    have eo17 := t7 _ _ (t6 _ _ (t5 _ _ eo1))
    have G17 := G1.same (Same.tups (t5.trans (t6.trans t7)))
    have l1 : g1.length + 2 ≤ 64 := by
      rw [paired_len G1]
      exact underM_len 4 _ _ _ _
    have l2 : g2.length + 2 ≤ 64 := by
      rw [paired_len G2]
      exact underM_len 4 _ _ _ _
    refine ⟨_, rfl, o1, g1, rfl, .inl (SqT.of eo17), _, rfl, o2, g2, rfl, .inl (SqT.of eo2), _, rfl, o1, g1, rfl, SqT.of eo17, fun r1 nr1 => ⟨r1, g1.reverse, rfl, .inl (SqT.of upd_same), ?_⟩⟩
    have t8 : Same H7 (upd H7 r1 (.tup g1.reverse)) := same_upd nr1
    refine ⟨_, rfl, o2, g2, rfl, SqT.of (t8 _ _ eo2), fun r2 nr2 => ⟨r2, g2.reverse, rfl, .inl (SqT.of upd_same), ?_, fun o nO => ?_⟩⟩
    · show (g1 ++ (g2 ++ (g1.reverse ++ (g2.reverse ++ [])))).length ≤ sizeLine
      rw [List.length_append, List.length_append, List.length_append, List.length_append, List.length_reverse, List.length_reverse, sizeLine_eq]
      have : ([] : List V).length = 0 := rfl
      omega
    have t9 : Same _ (upd (upd H7 r1 (.tup g1.reverse)) r2 (.tup g2.reverse)) := same_upd nr2
    have t10 : Same _ (upd (upd (upd H7 r1 (.tup g1.reverse)) r2 (.tup g2.reverse)) o (.tup (g1 ++ (g2 ++ (g1.reverse ++ (g2.reverse ++ [])))))) := same_upd nO
    have GA := G17.same (Same.tups (t8.trans (t9.trans t10)))
    have GB := G2.same (Same.tups (t8.trans (t9.trans t10)))
    exact q o _ _ (s1.trans (s2.trans (t1.trans (t2.trans (t3.trans (t4.trans (t5.trans (t6.trans (t7.trans (t8.trans (t9.trans t10))))))))))) upd_same (paired_app GA (paired_app GB (paired_app (paired_rev GA) (paired_app (paired_rev GB) .nil))))
end
end K39

set_option Elab.async false
set_option linter.all false
set_option maxRecDepth 100000
set_option maxHeartbeats 4000000
namespace K39
open PySem PySem.Spec PyProof.Rows L2

/-! ### need_three -/
theorem row_facts : ∀ n < 7, ∀ u < n, rowOf n u < 1 <<< n ∧ rowOf n u < 256 ∧ wtF 9 (rowOf n u) = n - 1 := by decide +kernel
theorem row_inj : ∀ n < 7, ∀ u < n, ∀ v < n, rowOf n u = rowOf n v → u = v := by decide +kernel
def three (n u v w : Nat) : List V := nV ([u, v, w].map (rowOf n))
theorem three_at {n u v w i : Nat} {x : V} (h : (three n u v w)[i]? = some x) (hu : u < n) (hv : v < n) (hw : w < n) : ∃ t, t < n ∧ x = V.int ((rowOf n t : Nat) : Int) := by
  unfold three nV at h
  rw [List.getElem?_map, List.getElem?_map] at h
  cases e : [u, v, w][i]? with
  | none =>
    rw [e] at h
    cases h
  | some t =>
    rw [e] at h
    have mem := List.mem_of_getElem? e
    refine ⟨t, ?_, (Option.some.inj h).symm⟩
    simp only [List.mem_cons, List.not_mem_nil, or_false] at mem
    rcases mem with rfl | rfl | rfl <;> assumption
def spNeedThree : Sp := fun vs H Q _ => ∃ (n u v w : Nat) (r : Addr), vs = [.int (n : Int), .ref r] ∧ SeqH H r (three n u v w) ∧ 3 ≤ n ∧ n ≤ 6 ∧ u < n ∧ v < n ∧ w < n ∧ u ≠ v ∧ u ≠ w ∧ v ≠ w ∧
  ∀ (p : Addr) (H' : Hp), Same H H' → H' p = some (.tup (three n u v w)) → Q (.ref p) H'

section
variable {P : Program} {w : World} {K : PySem.W.Frag} {mg : Str → Option Value} {base : Heap}
theorem scNeedThree : FnScope ["lamps", "rows", "row"] ["lamps", "rows"] (defScope sNeedThree) := ⟨rfl, rfl, rfl, by decide +kernel, rfl, by decide +kernel, by decide +kernel⟩
theorem ok_needThree {f : Addr} {fd : FuncData} {tk : Tok} (F : Fun K "need_three" "need_three" sNeedThree f fd) (B : Bl mg) (gM : mg "MOST_LAMPS_threes" = some (.int 8 tk)) (HL : Has P w K mg base "is_list" 1 ["value"] spIsList) (HW : Has P w K mg base "is_within" 2 ["value", "least", "most"] spWithin)
    (HU : Has P w K mg base "are_unlike" 1 ["values"] spUnlike) (HG : Has P w K mg base "weight_of" 4 ["row"] spWeight) : FnOk P w K mg base CX0 5 f fd ["lamps", "rows"] spNeedThree := by
  obtain ⟨fL, dL, GL, kL, bL, gL⟩ := HL
  obtain ⟨fW, dW, GW, kW, bW, gW⟩ := HW
  obtain ⟨fU, dU, GU, kU, bU, gU⟩ := HU
  obtain ⟨fG, dG, GG, kG, bG, gG⟩ := HG
  refine F.ok scNeedThree (fun vs H Q E h => ?_) (fun cdv A outer s H vs Q E hr h => ?_)
  · obtain ⟨n, u, v, w, r, rfl, _⟩ := h
    rfl
  · obtain ⟨n, u, v, w, r, rfl, hS, n3, n6, hu, hv, hw, uv, uw, vw, q⟩ := h
    have hr1 : Room 1 _ := hr.mono (by decide)
    have hr2 : Room 2 _ := hr.mono (by decide)
    refine ⟨_, pss_cons (ps_if (pt_not (pt_val (pe_call GW hr2 (by rfl) gW kW bW .nil pass0 (pa_cons (pv 0) (pa_cons pe_int (pa_cons (pe_glob (v := .int 8) (by rfl) gM ⟨_, rfl⟩) pa_nil)))))) (pss_one ps_never) pss_nil)
      (pss_cons (ps_if (PW.pt (pw_or (pt_not (pt_val (pe_call GL hr1 (by rfl) gL kL bL .nil pass0 (pa_cons (pv 1) pa_nil))))
          (pw_or (pt_cmpR op_ne (pe_callB call_len_seq (by rfl) B.len PySem.boot_len (pa_cons (pv 1) pa_nil)) pe_int (nomark _))
          (pw_or1 (pt_not (pt_val (pe_callB (cr_all rfl) (by rfl) B.all (by decide +kernel) (pa_cons
            (pe_lc (own := [("row", 2)]) (g := gName 2) (tt := tYes) (by rfl) scNeedThree.nd (pi_any (pv 1)) (blkOk_by (N := ["lamps", "rows", "row"]) (sc := defScope sNeedThree) (by decide +kernel))
              (fun _ _ _ _ _ => pg_name (i := 2) scNeedThree.nd rfl (Or.inl rfl)) (fun _ _ _ _ _ => pts_nil)
              (fun _ _ _ _ _ => pe_call GW hr2 (by rfl) gW kW bW .nil pass0 (pa_cons (pv 2) (pa_cons pe_int (pa_cons (pe_op op_sub (pe_op op_shlM pe_int (pv 0)) pe_int) pa_nil))))) pa_nil))))))))
        (pss_one ps_never) pss_nil)
      (pss_cons (ps_if (PW.pt (pw_or (pt_not (pt_val (pe_call GU hr1 (by rfl) gU kU bU .nil pass0 (pa_cons (pv 1) pa_nil))))
          (pw_or1 (pt_cmpR (op_neD hr.units)
            (pe_lc (own := [("row", 2)]) (g := gName 2) (tt := tYes) (by rfl) scNeedThree.nd (pi_any (pv 1)) (blkOk_by (N := ["lamps", "rows", "row"]) (sc := defScope sNeedThree) (by decide +kernel))
              (fun _ _ _ _ _ => pg_name (i := 2) scNeedThree.nd rfl (Or.inl rfl)) (fun _ _ _ _ _ => pts_nil)
              (fun _ _ _ _ _ => pe_call GG hr (by rfl) gG kG bG .nil pass0 (pa_cons (pv 2) pa_nil)))
            (pe_op op_rep (pe_lst (pa_cons (pe_call GG hr (by rfl) gG kG bG .nil pass0 (pa_cons (pe_ix ix_seq (pv 1) pe_int (fun _ _ => rfl)) pa_nil)) pa_nil)) pe_int) (nomark _)))))
        (pss_one ps_never) pss_nil)
      (pss_one (ps_ret (pe_callTy call_tuple_of (by rfl) B.tuple (by decide +kernel) (pa_cons (pv 1) pa_nil)))))), ?_⟩
    obtain ⟨o, eo, so⟩ := hS.obj
    have l3 : (three n u v w).length = 3 := rfl
    refine ⟨_, rfl, (n : Int), 1, 8, rfl, by omega, by omega, true, rfl, iteF ?_⟩
    refine ⟨_, rfl, r, _, rfl, hS, fun H1 s1 => ⟨true, rfl, iteF ?_⟩⟩
    have eo1 := s1 _ _ eo
    refine ⟨_, rfl, r, _, rfl, (so.seqH eo1).or, rfl, false, rfl, iteF ?_⟩
    refine ⟨_, rfl, r, o, _, rfl, eo1, so, fun J wk D hD => ?_⟩
    refine lc_it wk (fun i H' => Same H1 H' ∧ H' D = some (.lst ((List.replicate i true).map V.bl))) ⟨same_upd hD, upd_same⟩ (fun i H' _ p => p.1 _ _ eo1) (fun i x H' H'' hi p y => ?_) (fun H2 p => ?_)
    · obtain ⟨s2, eD⟩ := p
      obtain ⟨rfl, ex⟩ := y
      obtain ⟨t, lt, rfl⟩ := three_at ex hu hv hw
      obtain ⟨f1, _, _⟩ := row_facts n (by omega) t lt
      refine ⟨rfl, yesT ?_⟩
      refine ⟨_, rfl, _, rfl, 1, n, rfl, rfl, by decide, by omega, _, _, rfl, rfl, _, _, _, rfl, by omega, ?_, _, eD, ?_, ?_, ?_⟩
      · have := top_cast n
        show ((rowOf n t : Nat) : Int) ≤ ((1 <<< n : Nat) : Int) - 1
        omega
      · rw [List.length_map, List.length_replicate]
        exact small1000 (by omega)
      · intro b z e
        rw [upd_ne (ne_of_none e hD)]
        exact s2 _ _ e
      · rw [upd_same, List.replicate_succ', List.map_append]
        rfl
    obtain ⟨s2, eD⟩ := p
    refine ⟨D, _, rfl, SqL.of eD, true, rfl, iteF ?_⟩
    have eo2 := s2 _ _ eo1
    -- are_unlike
    have er : three n u v w = ([rowOf n u, rowOf n v, rowOf n w].map fun n : Nat => (n : Int)).map V.int := rfl
    refine ⟨_, rfl, r, [rowOf n u, rowOf n v, rowOf n w].map fun n : Nat => (n : Int), rfl, by rw [← er]; exact so.seqH eo2, nodup_cast ?_, (by show 3 ≤ 1000; decide), fun H3 s3 => ⟨true, rfl, iteF ?_⟩⟩
    · have a1 := row_inj n (by omega) u hu v hv
      have a2 := row_inj n (by omega) u hu w hw
      have a3 := row_inj n (by omega) v hv w hw
      simp only [List.nodup_cons, List.mem_cons, List.not_mem_nil, or_false, not_false_eq_true, and_true, List.nodup_nil, not_or]
      exact ⟨⟨fun z => uv (a1 z), fun z => uw (a2 z)⟩, fun z => vw (a3 z)⟩
    have eo3 := s3 _ _ eo2
    -- [weight_of(row) for row in rows] != [weight_of(rows[0])] * 3
    refine ⟨_, rfl, r, o, _, rfl, eo3, so, fun J2 wk2 D2 hD2 => ?_⟩
    refine lc_it wk2 (fun i H' => Same H3 H' ∧ H' D2 = some (.lst ((List.replicate i ((n - 1 : Nat) : Int)).map V.int))) ⟨same_upd hD2, upd_same⟩ (fun i H' _ p => p.1 _ _ eo3) (fun i x H' H'' hi p y => ?_) (fun H4 p => ?_)
    · obtain ⟨s4, eD2⟩ := p
      obtain ⟨rfl, ex⟩ := y
      obtain ⟨t, lt, rfl⟩ := three_at ex hu hv hw
      obtain ⟨_, f2, f3⟩ := row_facts n (by omega) t lt
      refine ⟨rfl, yesT ?_⟩
      refine ⟨_, rfl, rowOf n t, rfl, f2, _, eD2, ?_, ?_, ?_⟩
      · rw [List.length_map, List.length_replicate]
        exact small1000 (by omega)
      · intro b z e
        rw [upd_ne (ne_of_none e hD2)]
        exact s4 _ _ e
      · rw [upd_same, List.replicate_succ', List.map_append, f3]
        rfl
    obtain ⟨s4, eD2⟩ := p
    rw [l3] at eD2
    have eo4 := s4 _ _ eo3
    have ixq : ∀ (Q' : VK) (H' : Hp), H' r = some o → Q' (.int ((rowOf n u : Nat) : Int)) H' → rIx K (.ref r) (.int 0) H' Q' := fun Q' H' e k => by
      rcases so with rfl | rfl
      · exact .inl ⟨r, _, 0, _, rfl, rfl, SqL.of e, atI_nat (j := 0) rfl, k⟩
      · exact .inr (.inl ⟨r, _, 0, _, rfl, rfl, SqT.of e, atI_nat (j := 0) rfl, k⟩)
    obtain ⟨_, g2, g3⟩ := row_facts n (by omega) u hu
    refine ⟨_, rfl, ixq _ _ eo4 ⟨rowOf n u, rfl, g2, (by show 1 ≤ sizeLine; decide), fun L nL => ?_⟩⟩
    rw [g3]
    have s5 : Same H4 (upd H4 L (.lst [V.int ((n - 1 : Nat) : Int)])) := same_upd nL
    refine ⟨L, 3, _, rfl, rfl, upd_same, by decide, by decide, (by show 1 * 3 ≤ sizeLine; decide), fun L2 nL2 => ?_⟩
    have s6 : Same _ (upd (upd H4 L (.lst [V.int ((n - 1 : Nat) : Int)])) L2 (.lst (List.replicate (3 : Int).toNat [V.int ((n - 1 : Nat) : Int)]).flatten)) := same_upd nL2
    have c1 : ((List.replicate 3 ((n - 1 : Nat) : Int)).map PyData.int) = [PyData.int ((n - 1 : Nat) : Int), PyData.int ((n - 1 : Nat) : Int), PyData.int ((n - 1 : Nat) : Int)] := rfl
    refine ⟨.list ((List.replicate 3 ((n - 1 : Nat) : Int)).map PyData.int), .list ((List.replicate 3 ((n - 1 : Nat) : Int)).map PyData.int), .lst (SqL.of (s6 _ _ (s5 _ _ eD2))) (ints_dp _), .lst (SqL.of upd_same) (ints_dp (List.replicate 3 ((n - 1 : Nat) : Int))), rfl, rfl, false, ?_, iteF ?_⟩
    · rw [SeqAt.eqv_refl _ rfl]
      rfl
    have sA := s1.trans (s2.trans (s3.trans (s4.trans (s5.trans s6))))
    have eo6 := s6 _ _ (s5 _ _ eo4)
    rcases so with rfl | rfl
    · refine ⟨_, rfl, r, _, rfl, .inl ⟨SqL.of eo6, fun p np => ?_⟩⟩
      exact q p _ (sA.trans (same_upd np)) upd_same
    · exact ⟨_, rfl, r, _, rfl, .inr ⟨SqT.of eo6, q r _ sA eo6⟩⟩
end
end K39

set_option Elab.async false
set_option linter.all false
set_option maxRecDepth 100000
set_option maxHeartbeats 4000000
namespace K39
open PySem PySem.Spec PyProof.Rows L2

/-! ### top_three -/
def spThree (C : Addr) : Sp := fun vs H Q _ => ∃ (n u v w : Nat) (r : Addr), vs = [.int (n : Int), .ref r] ∧ SeqH H r (three n u v w) ∧ 3 ≤ n ∧ n ≤ 6 ∧ u < n ∧ v < n ∧ w < n ∧ u ≠ v ∧ u ≠ w ∧ v ≠ w ∧
  (∀ g ∈ topM n u v w, okGate n g = true) ∧ (topM n u v w).length ≤ 1000 ∧ 0 < (topM n u v w).length ∧
  ∀ (p : Addr) (h : Int) (H' : Hp), Same H H' → h ≤ 1 → WireAt C H' p n h ((topM n u v w).map keptM) → Q (.ref p) H'

section
variable {P : Program} {w : World} {K : PySem.W.Frag} {mg : Str → Option Value} {base : Heap}
theorem scThree : FnScope ["lamps", "rows", "told"] ["lamps", "rows"] (defScope sThree) := ⟨rfl, rfl, rfl, by decide +kernel, rfl, by decide +kernel, by decide +kernel⟩
theorem ok_three {f C fI : Addr} {fd fdI : FuncData} {tk : Tok} (F : Fun K "top_three" "top_three" sThree f fd) (M : Mk K C fI) (GI : FnOk P w K mg base CX0 4 fI fdI ["self", "lamps", "gates"] (spInit C)) (bI : Binds K fdI ["self", "lamps", "gates"] []) (mC : mg "Wiring" = some (.ref C))
    (gM : mg "MOST_TURNED" = some (.int 6 tk)) (HN : Has P w K mg base "need_three" 5 ["lamps", "rows"] spNeedThree) (HG : Has P w K mg base "weight_of" 4 ["row"] spWeight) (HT : Has P w K mg base "top_gates" 6 ["lamps", "rows"] spGates) :
    FnOk P w K mg base CX0 7 f fd ["lamps", "rows"] (spThree C) := by
  obtain ⟨fN, dN, GN, kN, bN, gN⟩ := HN
  obtain ⟨fG, dG, GG, kG, bG, gG⟩ := HG
  obtain ⟨fT, dT, GT, kT, bT, gT⟩ := HT
  refine F.ok scThree (fun vs H Q E h => ?_) (fun cdv A outer s H vs Q E hr h => ?_)
  · obtain ⟨n, u, v, w, r, rfl, _⟩ := h
    rfl
  · obtain ⟨n, u, v, w, r, rfl, hS, n3, n6, hu, hv, hw, uv, uw, vw, ok, few, pos, q⟩ := h
    have hr4 : Room 4 _ := hr.mono (by decide)
    have hr5 : Room 5 _ := hr.mono (by decide)
    refine ⟨_, pss_cons (ps_set (i := 2) scThree.nd rfl (.inl rfl) (pe_call GN hr5 (by rfl) gN kN bN .nil pass0 (pa_cons (pv 0) (pa_cons (pv 1) pa_nil))))
      (pss_cons (ps_if (pt_cmpR op_ne (pe_call GG hr4 (by rfl) gG kG bG .nil pass0 (pa_cons (pe_ix ix_tup (pv 2) pe_int (fun _ _ => rfl)) pa_nil)) (pe_op op_sub (pv 0) pe_int) (nomark _)) (pss_one ps_never) pss_nil)
      (pss_cons (ps_if (pt_cmpR op_gt (pv 0) (pe_glob (v := .int 6) (by rfl) gM ⟨_, rfl⟩) (nomark _)) (pss_one ps_never) pss_nil)
      (pss_one (ps_ret (pe_make M GI hr5 (by rfl) mC bI .nil pass0 (pa_cons (pv 0) (pa_cons (pe_call GT hr (by rfl) gT kT bT .nil pass0 (pa_cons (pv 0) (pa_cons (pv 2) pa_nil))) pa_nil))))))), ?_⟩
    refine ⟨_, rfl, _, rfl, n, u, v, w, r, rfl, hS, n3, n6, hu, hv, hw, uv, uw, vw, fun t H1 s1 et => ?_⟩
    obtain ⟨_, f2, f3⟩ := row_facts n (by omega) u hu
    refine ⟨_, rfl, t, _, 0, V.int ((rowOf n u : Nat) : Int), rfl, rfl, SqT.of et, atI_nat (j := 0) rfl, rowOf n u, rfl, f2, ?_⟩
    rw [f3]
    refine ⟨_, rfl, _, _, rfl, rfl, rfl, false, ?_, iteF ?_⟩
    · have z : ((n - 1 : Nat) : Int) = (n : Int) - 1 := by omega
      rw [z]
      show V.bl (!decide (V.int ((n : Int) - 1) = V.int ((n : Int) - 1))) = V.bl false
      rw [decide_eq_true rfl]
      rfl
    refine ⟨_, rfl, _, 6, rfl, rfl, false, (by show V.bl (decide ((n : Int) > 6)) = V.bl false; rw [decide_eq_false (by omega)]), iteF ?_⟩
    refine ⟨_, rfl, _, rfl, _, rfl, n, u, v, w, t, rfl, et, n3, n6, hu, hv, hw, fun p gvs H2 s2 ep GP => ?_⟩
    refine fun x dx nx nd ne => ?_
    have s3 : Same H2 (upd (upd H2 dx (.own x)) x (.ins C dx [])) := fun b o e => by
      rw [upd_ne (ne_of_none e nx), upd_ne (ne_of_none e nd)]
      exact e
    refine ⟨x, dx, p, n, gvs, topM n u v w, rfl, upd_same, by omega, by omega, .inr (s3 _ _ ep), GP.same (Same.tups s3), ok, few, pos, fun h H4 h1 W4 kp => ⟨rfl, ?_⟩⟩
    exact q x h H4 (s1.trans (s2.trans (fun b o e => kp b o (s3 b o e) (ne_of_none e nx)))) h1 W4
end
end K39

set_option Elab.async false
set_option linter.all false
set_option maxRecDepth 100000
set_option maxHeartbeats 4000000
namespace K39
open PySem PySem.Spec PyProof.Rows L2

/-! ### the law's draws -/
def ChimAt (H : Hp) (c L : Addr) (ms : List Int) (t : Int) : Prop := (∃ rest : Int, H c = some (.lst [.ref L, .int t, .int rest])) ∧ H L = some (.lst (ms.map V.int)) ∧ ms.length ≤ 63 ∧ c ≠ L
theorem ChimAt.same {H H' : Hp} {c L : Addr} {ms : List Int} {t : Int} (x : ChimAt H c L ms t) (s : Same H H') : ChimAt H' c L ms t := by
  obtain ⟨⟨rest, e⟩, eL, few, ne⟩ := x
  exact ⟨⟨rest, s _ _ e⟩, s _ _ eL, few, ne⟩
def spChim (K : PySem.W.Frag) : Sp := fun vs H Q _ => ∃ (a : Addr) (ns : List Int), vs = [.ref a] ∧ SqL K H a (ns.map V.int) ∧ ns.length ≤ 63 ∧ ∀ (c L : Addr) (ms : List Int) (H' : Hp), Same H H' → ChimAt H' c L ms 0 → H c = none → Q (.ref c) H'
def spDraw : Sp := fun vs H Q _ => ∃ (c L : Addr) (ms : List Int) (t : Int) (m : Nat), vs = [.ref c, .int (m : Int)] ∧ ChimAt H c L ms t ∧ 0 ≤ t ∧ t ≤ 1000 ∧ 0 < m ∧ m ≤ 1000 ∧
  ∀ (r : Nat) (t' : Int) (H' : Hp), r < m → ChimAt H' c L ms t' → 0 ≤ t' → t' ≤ t + 1 → (∀ b o, H b = some o → b ≠ c → H' b = some o) → Q (.int (r : Int)) H'
def spPick : Sp := fun vs H Q _ => ∃ (c L s : Addr) (ms : List Int) (t : Int) (xs : List V), vs = [.ref c, .ref s] ∧ ChimAt H c L ms t ∧ 0 ≤ t ∧ t ≤ 1000 ∧ H s = some (.lst xs) ∧ s ≠ c ∧ 0 < xs.length ∧ xs.length ≤ 1000 ∧
  ∀ (x : V) (t' : Int) (H' : Hp), x ∈ xs → ChimAt H' c L ms t' → 0 ≤ t' → t' ≤ t + 1 → (∀ b o, H b = some o → b ≠ c → H' b = some o) → Q x H'
theorem cutV_ints (ns : List Int) (lo hi : Option Int) : ∃ ms : List Int, cutV (ns.map V.int) lo hi = ms.map V.int ∧ ms.length ≤ ns.length := by
  refine ⟨(ns.drop (HT.sIx ns.length 0 lo)).take (HT.sIx ns.length ns.length hi - HT.sIx ns.length 0 lo), ?_, ?_⟩
  · unfold cutV
    rw [List.length_map, ← List.map_drop, ← List.map_take]
  · rw [List.length_take, List.length_drop]
    omega

section
variable {P : Program} {w : World} {K : PySem.W.Frag} {mg : Str → Option Value} {base : Heap}
theorem scChim : FnScope ["_law_script", "_law_cell"] ["_law_script"] (defScope sChim) := ⟨rfl, rfl, rfl, by decide +kernel, rfl, by decide +kernel, by decide +kernel⟩
theorem ok_chim {f : Addr} {fd : FuncData} (F : Fun K "_law_chimney" "_law_chimney" sChim f fd) (B : Bl mg) : FnOk P w K mg base CX0 1 f fd ["_law_script"] (spChim K) := by
  refine F.ok scChim (fun vs H Q E h => ?_) (fun cdv A outer s H vs Q E hr h => ?_)
  · obtain ⟨a, ns, rfl, _⟩ := h
    rfl
  · obtain ⟨a, ns, rfl, hS, few, q⟩ := h
    refine ⟨_, pss_one (ps_ret (pe_lst (pa_cons
        (pe_lc (own := [("_law_cell", 1)]) (g := gName 1) (tt := tYes) (by rfl) scChim.nd (pi_list (pe_slice sl_list (pv 0) po_none (po_some pe_int))) (blkOk_by (N := ["_law_script", "_law_cell"]) (sc := defScope sChim) (by decide +kernel))
          (fun _ _ _ _ _ => pg_name (i := 1) scChim.nd rfl (Or.inl rfl)) (fun _ _ _ _ _ => pts_nil)
          (fun _ _ _ _ _ => pe_callTy call_int1 (by rfl) B.int (by decide +kernel) (pa_cons (pv 1) pa_nil)))
        (pa_cons pe_int (pa_cons pe_int pa_nil))))), ?_⟩
    refine ⟨_, rfl, 60, rfl, a, _, rfl, hS, fun p np => ?_⟩
    obtain ⟨ms, em, lm⟩ := cutV_ints ns none (some 60)
    rw [em]
    have s0 : Same H (upd H p (.lst (ms.map V.int))) := same_upd np
    refine ⟨p, rfl, ⟨_, SqL.of upd_same⟩, fun D hD => ?_⟩
    have pD : p ≠ D := ne_of_none upd_same hD
    refine lc_list (K := K) (a := p) (xs := ms.map V.int) (fun i H' => Same (upd H p (.lst (ms.map V.int))) H' ∧ H' D = some (.lst ((ms.take i).map V.int))) ⟨same_upd hD, upd_same⟩ (fun i H' _ p' => SqL.of (p'.1 _ _ upd_same)) (fun i x H' hi p' => ?_) (fun H1 p' => ?_)
    · obtain ⟨s1, eD⟩ := p'
      rw [List.getElem?_map] at hi
      cases e : ms[i]? with
      | none =>
        rw [e] at hi
        cases hi
      | some m =>
        rw [e] at hi
        have ex : x = V.int m := (Option.some.inj hi).symm
        subst ex
        refine ⟨rfl, yesT ?_⟩
        refine ⟨_, rfl, .inl ⟨m, rfl, _, eD, ?_, ?_, ?_⟩⟩
        · rw [List.length_map, List.length_take]
          exact small1000 (by omega)
        · intro b z e
          rw [upd_ne (ne_of_none e hD)]
          exact s1 _ _ e
        · rw [upd_same, List.take_add_one, e, List.map_append]
          rfl
    · obtain ⟨s1, eD⟩ := p'
      rw [List.length_map, List.take_length] at eD
      refine ⟨(by show 3 ≤ sizeLine; decide), fun c nc => ?_⟩
      have s2 : Same H1 (upd H1 c (.lst [.ref D, .int 0, .int 0])) := same_upd nc
      exact q c D ms _ (s0.trans (s1.trans s2)) ⟨⟨0, upd_same⟩, s2 _ _ eD, by omega, (ne_of_none eD nc).symm⟩ ((s0.trans s1).free nc)

theorem fm (x : Int) {m : Nat} (h : 0 < m) : ∃ r : Nat, x.fmod (m : Int) = (r : Int) ∧ r < m := by
  have h1 : 0 ≤ x.fmod (m : Int) := Int.fmod_nonneg_of_pos x (by omega)
  have h2 : x.fmod (m : Int) < (m : Int) := Int.fmod_lt_of_pos x (by omega)
  exact ⟨(x.fmod (m : Int)).toNat, by omega, by omega⟩
theorem mix1 (z : Int) {t : Int} (h0 : 0 ≤ t) (h1 : t ≤ 1000) : (z.fmod 2147483549 + 83439 * t + 9683).natAbs < 2 ^ 64 := by
  obtain ⟨r, e, l⟩ := fm z (m := 2147483549) (by decide)
  have e' : z.fmod 2147483549 = (r : Int) := e
  rw [e']
  omega
theorem mix2 (y : Int) {t : Int} (h0 : 0 ≤ t) (h1 : t ≤ 1000) : (y.fmod 2147483563 * (2 * t + 6003) + 121103 * t * t + 83439).natAbs < 2 ^ 64 := by
  obtain ⟨r, e, l⟩ := fm y (m := 2147483563) (by decide)
  have e' : y.fmod 2147483563 = (r : Int) := e
  rw [e']
  obtain ⟨k, rfl⟩ : ∃ k : Nat, t = (k : Int) := ⟨t.toNat, by omega⟩
  have k1 : k ≤ 1000 := by omega
  have b1 : r * (2 * k + 6003) ≤ 2147483563 * 8003 := Nat.mul_le_mul (by omega) (by omega)
  have b2 : 121103 * k * k ≤ 121103 * 1000 * 1000 := Nat.mul_le_mul (by omega) k1
  have c : (r : Int) * (2 * (k : Int) + 6003) + 121103 * (k : Int) * (k : Int) + 83439 = ((r * (2 * k + 6003) + 121103 * k * k + 83439 : Nat) : Int) := by
    simp only [Int.natCast_add, Int.natCast_mul]
    rfl
  rw [c, Int.natAbs_natCast]
  omega
theorem ints_shaped (ms : List Int) : SeqAt.shaped (.list (ms.map PyData.int)) = true := by
  unfold SeqAt.shaped
  rw [Bool.and_eq_true]
  refine ⟨canLayAll_ints ms, decide_eq_true ?_⟩
  have := ints_depth ms
  simp only [PyData.depth]
  omega
theorem eqv_nil (m : Int) (ms : List Int) : PyData.eqv (.list ((m :: ms).map PyData.int)) (.list []) = false := by
  simp [PyData.eqv, PyData.eqvAll]
theorem scDraw : FnScope ["_law_chimney_here", "_law_many", "_law_rest", "_law_turn", "_law_cell", "_law_mixed"] ["_law_chimney_here", "_law_many"] (defScope sDraw) := ⟨rfl, rfl, rfl, by decide +kernel, rfl, by decide +kernel, by decide +kernel⟩
theorem ok_draw {f : Addr} {fd : FuncData} (F : Fun K "_law_draught" "_law_draught" sDraw f fd) (B : Bl mg) : FnOk P w K mg base CX0 1 f fd ["_law_chimney_here", "_law_many"] spDraw := by
  refine F.ok scDraw (fun vs H Q E h => ?_) (fun cdv A outer s H vs Q E hr h => ?_)
  · obtain ⟨c, L, ms, t, m, rfl, _⟩ := h
    rfl
  · obtain ⟨c, L, ms, t, m, rfl, ⟨⟨rest, ec⟩, eL, few, cL⟩, t0, t1, m0, m1, q⟩ := h
    have hu := hu_of hr
    refine ⟨_, pss_cons (ps_if (pt_cmpR op_gt (pe_ix ix_list (pv 0) pe_int (fun _ _ => rfl)) pe_int (nomark _))
        (pss_cons (ps_set (i := 2) scDraw.nd rfl (.inl rfl) (pe_callTy call_int1 (by rfl) B.int (by decide +kernel) (pa_cons (pe_ix ix_list (pv 0) pe_int (fun _ _ => rfl)) pa_nil)))
        (pss_cons (ps_asg (pe_op op_fdivN (pv 2) (pv 1)) (pg_sub (pv 0) pe_int set_list (fun _ => rfl)))
        (pss_one (ps_ret (pe_op op_modN (pe_callTy call_int1 (by rfl) B.int (by decide +kernel) (pa_cons (pv 2) pa_nil)) (pv 1)))))) pss_nil)
      (pss_cons (ps_set (i := 3) scDraw.nd rfl (.inl rfl) (pe_ix ix_list (pv 0) pe_int (fun _ _ => rfl)))
      (pss_cons (ps_asg (pe_op op_add (pv 3) pe_int) (pg_sub (pv 0) pe_int set_list (fun _ => rfl)))
      (pss_cons (ps_set (i := 4) scDraw.nd rfl (.inl rfl) (pe_op op_add (pe_op op_mul pe_int (pv 3)) pe_int))
      (C8.pss_cut (ps_if (pt_cmpR (op_neD hr.units) (pe_ix ix_list (pv 0) pe_int (fun _ _ => rfl)) (pe_lst pa_nil) (nomark _))
        (pss_one (ps_set (i := 4) scDraw.nd rfl (.inl rfl) (pe_ix ix_list (pe_ix ix_list (pv 0) pe_int (fun _ _ => rfl))
          (pe_op op_modN (pe_callTy call_int1 (by rfl) B.int (by decide +kernel) (pa_cons (pv 3) pa_nil)) (pe_callB call_len_seq (by rfl) B.len PySem.boot_len (pa_cons (pe_ix ix_list (pv 0) pe_int (fun _ _ => rfl)) pa_nil))) (fun _ _ => rfl)))) pss_nil)
      (C8.pss_cut (ps_if (PW.pt (pw_and (pt_cmpR op_lt (pv 3) (pe_callB call_len_seq (by rfl) B.len PySem.boot_len (pa_cons (pe_ix ix_list (pv 0) pe_int (fun _ _ => rfl)) pa_nil)) (nomark _))
          (pw_and1 (pt_cmpR op_ge (pe_callB call_abs (by rfl) B.abs (by decide +kernel) (pa_cons (pv 4) pa_nil)) (pe_op op_pow pe_int pe_int) (nomark _)))))
        (pss_cons (ps_set (i := 2) scDraw.nd rfl (.inl rfl) (pe_op op_add (pe_op op_mul pe_int (pe_op op_sub (pe_callB call_abs (by rfl) B.abs (by decide +kernel) (pa_cons (pv 4) pa_nil)) (pe_op op_pow pe_int pe_int)))
          (pe_callTy call_int1 (by rfl) B.int (by decide +kernel) (pa_cons (pe_cmpR op_lt (pv 4) pe_int (nomark _)) pa_nil))))
        (pss_cons (ps_asg (pe_op op_fdivN (pv 2) (pv 1)) (pg_sub (pv 0) pe_int set_list (fun _ => rfl)))
        (pss_one (ps_ret (pe_op op_modN (pe_callTy call_int1 (by rfl) B.int (by decide +kernel) (pa_cons (pv 2) pa_nil)) (pv 1)))))) pss_nil)
      (pss_cons (ps_set (i := 5) scDraw.nd rfl (.inl rfl) (pe_op op_modN (pe_callTy call_int1 (by rfl) B.int (by decide +kernel) (pa_cons
          (pe_op op_pow (pe_op op_add (pe_op op_add (pe_op op_modN (pe_callTy call_int1 (by rfl) B.int (by decide +kernel) (pa_cons (pv 4) pa_nil)) pe_int) (pe_op op_mul pe_int (pv 3))) pe_int) pe_int) pa_nil)) pe_int))
      (pss_cons (ps_set (i := 5) scDraw.nd rfl (.inl rfl) (pe_op op_modN (pe_callTy call_int1 (by rfl) B.int (by decide +kernel) (pa_cons
          (pe_op op_pow (pe_op op_add (pe_op op_add (pe_op op_mul (pv 5) (pe_op op_add (pe_op op_mul pe_int (pv 3)) pe_int)) (pe_op op_mul (pe_op op_mul pe_int (pv 3)) (pv 3))) pe_int) pe_int) pa_nil)) pe_int))
      (pss_one (ps_ret (pe_op op_modN (pe_callTy call_int1 (by rfl) B.int (by decide +kernel) (pa_cons (pe_op op_fdivN (pv 5) pe_int) pa_nil)) (pv 1))))))))))), ?_⟩
    have aL : ∀ (x : Int), atI [V.ref L, V.int x, V.int rest] 0 = some (V.ref L) := fun _ => rfl
    -- if chimney[2] > 0
    refine ⟨_, rfl, c, _, 2, V.int rest, rfl, rfl, SqL.of ec, atI_nat (j := 2) rfl, _, _, rfl, rfl, _, rfl, ite2 (fun pos => ?_) (fun _ => ?_)⟩
    · refine ⟨_, rfl, c, _, 2, V.int rest, rfl, rfl, SqL.of ec, atI_nat (j := 2) rfl, .inl ⟨rest, rfl, ?_⟩⟩
      refine ⟨_, rfl, _, rfl, rest, (m : Int), rfl, rfl, ⟨by omega, by omega⟩, _, rfl, c, _, 2, 2, rfl, rfl, ec, rfl, ?_⟩
      refine ⟨_, rfl, .inl ⟨rest, rfl, _, rfl, rest, (m : Int), rfl, rfl, (by omega : (m : Int) ≠ 0), ?_⟩⟩
      obtain ⟨r, er, lr⟩ := fm rest m0
      show Q (.int (rest.fmod (m : Int))) _
      rw [er]
      exact q r t _ lr ⟨⟨_, upd_same⟩, by rw [upd_ne cL.symm]; exact eL, few, cL⟩ t0 (by omega) fun b o e ne => by rw [upd_ne ne]; exact e
    -- turn = chimney[1]; chimney[1] = turn + 1
    refine ⟨_, rfl, c, _, 1, V.int t, rfl, rfl, SqL.of ec, atI_nat (j := 1) rfl, ?_⟩
    refine ⟨_, rfl, t, 1, rfl, rfl, _, rfl, c, _, 1, 1, rfl, rfl, ec, rfl, ?_⟩
    generalize eH1 : upd H c (.lst ([V.ref L, V.int t, V.int rest].set 1 (V.int (t + 1)))) = H1
    have ec1 : H1 c = some (.lst [V.ref L, V.int (t + 1), V.int rest]) := by
      rw [← eH1, upd_same]
      rfl
    have k1 : ∀ b o, H b = some o → b ≠ c → H1 b = some o := fun b o e ne => by
      rw [← eH1, upd_ne ne]
      exact e
    have eL1 : H1 L = some (.lst (ms.map V.int)) := k1 _ _ eL cL.symm
    -- cell
    refine ⟨_, rfl, 121103, t, rfl, rfl, .inl ⟨by decide, by decide⟩, _, 9683, rfl, rfl, ?_⟩
    -- if chimney[0] != []
    refine ⟨fun σ' H' => ∃ z : Int, σ' = [some (.ref c), some (.int (m : Int)), none, some (.int t), some (.int z), none] ∧ Same H1 H', ?_, ?_⟩
    · refine ⟨_, rfl, c, _, 0, V.ref L, rfl, rfl, SqL.of ec1, atI_nat (j := 0) rfl, (by show 0 ≤ sizeLine; decide), fun e ne => ?_⟩
      have s1 : Same H1 (upd H1 e (.lst [])) := same_upd ne
      refine ⟨.list (ms.map PyData.int), .list [], .lst (SqL.of (s1 _ _ eL1)) (ints_dp ms), .lst (SqL.of upd_same) .nil, ints_shaped ms, rfl, _, rfl, ?_⟩
      cases ms with
      | nil => exact iteF ⟨_, rfl, s1⟩
      | cons m1' mr =>
        rw [eqv_nil]
        refine iteT ?_
        obtain ⟨r, er, lr⟩ := fm t (m := (m1' :: mr).length) (by rw [List.length_cons]; omega)
        refine ⟨_, rfl, c, _, 0, V.ref L, rfl, rfl, SqL.of (s1 _ _ ec1), atI_nat (j := 0) rfl, ?_⟩
        refine ⟨_, rfl, .inl ⟨t, rfl, _, rfl, c, _, 0, V.ref L, rfl, rfl, SqL.of (s1 _ _ ec1), atI_nat (j := 0) rfl, L, _, rfl, .inl (SqL.of (s1 _ _ eL1)), t, ((m1' :: mr).length : Int), rfl, by rw [List.length_map], (by rw [List.length_cons]; omega), ?_⟩⟩
        refine ⟨L, _, _, V.int ((m1' :: mr)[r]'lr), rfl, rfl, SqL.of (s1 _ _ eL1), ?_, ⟨_, rfl, s1⟩⟩
        rw [er]
        exact atI_nat (j := r) (by rw [List.getElem?_map, List.getElem?_eq_getElem lr]; rfl)
    rintro σ2 H2 ⟨z, rfl, s2⟩
    have ec2 := s2 _ _ ec1
    have eL2 := s2 _ _ eL1
    have k2 : ∀ b o, H b = some o → b ≠ c → H2 b = some o := fun b o e ne => s2 _ _ (k1 b o e ne)
    -- if turn < len(chimney[0]) and abs(cell) >= 10 ** 18
    refine ⟨fun σ' H' => σ' = [some (.ref c), some (.int (m : Int)), none, some (.int t), some (.int z), none] ∧ H' = H2, ?_, ?_⟩
    · refine ⟨_, rfl, _, rfl, c, _, 0, V.ref L, rfl, rfl, SqL.of ec2, atI_nat (j := 0) rfl, L, _, rfl, .inl (SqL.of eL2), _, _, rfl, rfl, _, rfl, ite2 (fun _ => ?_) (fun _ => ?_)⟩
      · refine ⟨_, rfl, _, rfl, 10, 18, rfl, rfl, ⟨by decide, by decide, by decide⟩, _, _, rfl, rfl, _, rfl, ite2 (fun _ => ?_) (fun _ => ?_)⟩
        · refine ⟨_, rfl, _, rfl, 10, 18, rfl, rfl, ⟨by decide, by decide, by decide⟩, _, _, rfl, rfl, 2, _, rfl, rfl, .inl ⟨by decide, by decide⟩, _, rfl, _, _, rfl, rfl, .inr ⟨_, rfl, _, _, rfl, rfl, ?_⟩⟩
          refine ⟨_, rfl, _, rfl, _, (m : Int), rfl, rfl, ⟨by omega, by omega⟩, _, rfl, c, _, 2, 2, rfl, rfl, ec2, rfl, ?_⟩
          refine ⟨_, rfl, .inl ⟨_, rfl, _, rfl, _, (m : Int), rfl, rfl, (by omega : (m : Int) ≠ 0), ?_⟩⟩
          obtain ⟨r, er, lr⟩ := fm (2 * ((if z < 0 then -z else z) - 10 ^ (18 : Int).toNat) + (if decide (z < 0) = true then 1 else 0)) m0
          show Q (.int ((2 * ((if z < 0 then -z else z) - 10 ^ (18 : Int).toNat) + (if decide (z < 0) = true then 1 else 0)).fmod (m : Int))) _
          rw [er]
          exact q r (t + 1) _ lr ⟨⟨_, upd_same⟩, by rw [upd_ne cL.symm]; exact eL2, few, cL⟩ (by omega) (by omega) fun b o e ne => by rw [upd_ne ne]; exact k2 b o e ne
        · exact ⟨rfl, rfl⟩
      · exact iteF ⟨rfl, rfl⟩
    rintro σ3 H3 ⟨rfl, rfl⟩
    -- mixed
    refine ⟨_, rfl, .inl ⟨z, rfl, z, 2147483549, rfl, rfl, (by decide : (2147483549 : Int) ≠ 0), _, rfl, 83439, t, rfl, rfl, .inl ⟨by decide, by decide⟩, _, _, rfl, rfl, _, 9683, rfl, rfl, _, 5, rfl, rfl, ⟨by decide, by decide, mix1 z t0 t1⟩, .inl ⟨_, rfl, _, 2147483563, rfl, rfl, (by decide : (2147483563 : Int) ≠ 0), ?_⟩⟩⟩
    generalize (z.fmod 2147483549 + 83439 * t + 9683) ^ (5 : Int).toNat = y
    obtain ⟨my, emy, lmy⟩ := fm y (m := 2147483563) (by decide)
    have emy' : y.fmod 2147483563 = (my : Int) := emy
    refine ⟨_, rfl, _, rfl, 2, t, rfl, rfl, .inl ⟨by decide, by decide⟩, _, 6003, rfl, rfl, y.fmod 2147483563, 2 * t + 6003, rfl, rfl, .inl ⟨by omega, by omega⟩, _, rfl, 121103, t, rfl, rfl, .inl ⟨by decide, by decide⟩, _, rfl, 121103 * t, t, rfl, rfl, .inr ⟨by omega, by omega⟩, _, _, rfl, rfl, _, 83439, rfl, rfl, _, 3, rfl, rfl, ⟨by decide, by decide, mix2 y t0 t1⟩, .inl ⟨_, rfl, _, 2147483587, rfl, rfl, (by decide : (2147483587 : Int) ≠ 0), ?_⟩⟩
    refine ⟨_, rfl, _, 64, rfl, rfl, ⟨by decide, by decide⟩, .inl ⟨_, rfl, _, rfl, _, (m : Int), rfl, rfl, (by omega : (m : Int) ≠ 0), ?_⟩⟩
    obtain ⟨r, er, lr⟩ := fm (Int.fdiv (Int.fmod ((y.fmod 2147483563 * (2 * t + 6003) + 121103 * t * t + 83439) ^ (3 : Int).toNat) 2147483587) 64) m0
    show Q (.int (Int.fmod (Int.fdiv (Int.fmod ((y.fmod 2147483563 * (2 * t + 6003) + 121103 * t * t + 83439) ^ (3 : Int).toNat) 2147483587) 64) (m : Int))) _
    rw [er]
    exact q r (t + 1) _ lr ⟨⟨_, ec2⟩, eL2, few, cL⟩ (by omega) (by omega) k2
end
end K39

set_option Elab.async false
set_option linter.all false
set_option maxRecDepth 100000
set_option maxHeartbeats 4000000
namespace K39
open PySem PySem.Spec PyProof.Rows L2

/-! ### pick, run, are_low -/
theorem okGate_kept {n : Nat} {g : Gate} (h : okGate n g = true) : okGate n (keptM g) = true := by
  unfold okGate at h ⊢
  unfold keptM
  simp only [Bool.and_eq_true, decide_eq_true_eq, List.all_eq_true] at h ⊢
  obtain ⟨⟨⟨⟨h1, h2⟩, h3⟩, h4⟩, h5⟩ := h
  refine ⟨⟨⟨⟨h1, by omega⟩, by omega⟩, by omega⟩, fun x hx => ?_⟩
  have := h5 x hx
  omega
theorem lit_tru (row l : Nat) : ((((row >>> l) &&& 1 : Nat) : Int) != 0) = litM row l := by
  unfold litM
  have h : (row >>> l) &&& 1 < 2 := by
    have := @Nat.and_le_right (row >>> l) 1
    omega
  generalize (row >>> l) &&& 1 = x at h
  match x, h with
  | 0, _ => rfl
  | 1, _ => rfl
def dark (row : Nat) (hs : List Nat) : List Nat := hs.filter fun l => !litM row l
theorem dark_snoc (row : Nat) (hs : List Nat) (l : Nat) : dark row (hs ++ [l]) = dark row hs ++ (if litM row l = true then [] else [l]) := by
  unfold dark
  rw [List.filter_append]
  by_cases h : litM row l = true
  · rw [if_pos h, List.filter_cons_of_neg (by rw [h]; decide), List.filter_nil]
  · rw [if_neg h, List.filter_cons_of_pos (by simpa using h), List.filter_nil]
theorem dark_nil (row : Nat) (hs : List Nat) : PyData.eqv (.list (((dark row hs).map fun n : Nat => (n : Int)).map PyData.int)) (.list []) = hs.all (litM row) := by
  unfold dark
  cases e : hs.all (litM row) with
  | true =>
    have z : hs.filter (fun l => !litM row l) = [] := by
      rw [List.filter_eq_nil_iff]
      intro a ha
      rw [List.all_eq_true.mp e a ha]
      decide
    rw [z]
    rfl
  | false =>
    cases z : hs.filter (fun l => !litM row l) with
    | nil =>
      exfalso
      rw [List.filter_eq_nil_iff] at z
      have : hs.all (litM row) = true := by
        rw [List.all_eq_true]
        intro a ha
        have := z a ha
        simpa using this
      rw [this] at e
      cases e
    | cons a r => simp [PyData.eqv, PyData.eqvAll]
theorem run_snoc (gs : List Gate) (g : Gate) (row : Nat) : runM (gs ++ [g]) row = stepM (runM gs row) g := by
  unfold runM
  rw [List.foldl_append]
  rfl
theorem step_out {row : Nat} {g : Gate} (h : (g.1.all (litM row) && ((row >>> g.2.1) ^^^ (row >>> g.2.2)) &&& 1 == 1) = false) : stepM row g = row := by
  unfold stepM
  rw [h]
  rfl
theorem step_in {row : Nat} {g : Gate} (h : (g.1.all (litM row) && ((row >>> g.2.1) ^^^ (row >>> g.2.2)) &&& 1 == 1) = true) : stepM row g = row ^^^ ((1 <<< g.2.1) ||| (1 <<< g.2.2)) := by
  unfold stepM
  rw [h]
  rfl
def spRun : Sp := fun vs H Q _ => ∃ (k : Addr) (kvs : List V) (gs : List Gate) (n row : Nat), vs = [.ref k, .int (row : Int)] ∧ H k = some (.tup kvs) ∧ Gates H kvs gs ∧ n ≤ 8 ∧ (∀ g ∈ gs, okGate n g = true) ∧ ∀ H', Same H H' → Q (.int ((runM gs row : Nat) : Int)) H'
def spLow : Sp := fun vs H Q _ => ∃ (k : Addr) (kvs : List V) (gs : List Gate) (n : Nat), vs = [.ref k, .int (n : Int), .int 20000] ∧ H k = some (.tup kvs) ∧ Gates H kvs gs ∧ n ≤ 8 ∧ (∀ g ∈ gs, okGate n g = true) ∧ gs.length ≤ 1000 ∧ ∀ H', Same H H' → Q (.bl true) H'

def tDark (K : PySem.W.Frag) : TT := tNot fun σ H Q => tOp (fun x y H Q => ∃ n m : Nat, x = .int (n : Int) ∧ y = .int (m : Int) ∧ Q (.int ((n &&& m : Nat) : Int)) H)
  (tOp (fun x y H Q => ∃ n k : Nat, x = .int (n : Int) ∧ y = .int (k : Int) ∧ Q (.int ((n >>> k : Nat) : Int)) H) (tVar 1) (tVar 5)) (tC (.int 1)) σ H fun x H' => ∃ k, TruV K x H' k ∧ Q k H'
section
variable {P : Program} {w : World} {K : PySem.W.Frag} {mg : Str → Option Value} {base : Heap}
theorem scPick : FnScope ["_law_chimney_here", "_law_some"] ["_law_chimney_here", "_law_some"] (defScope sPick) := ⟨rfl, rfl, rfl, by decide +kernel, rfl, by decide +kernel, by decide +kernel⟩
theorem ok_pick {f : Addr} {fd : FuncData} (F : Fun K "_law_pick" "_law_pick" sPick f fd) (B : Bl mg) (HD : Has P w K mg base "_law_draught" 1 ["_law_chimney_here", "_law_many"] spDraw) : FnOk P w K mg base CX0 2 f fd ["_law_chimney_here", "_law_some"] spPick := by
  obtain ⟨fD, dD, GD, kD, bD, gD⟩ := HD
  refine F.ok scPick (fun vs H Q E h => ?_) (fun cdv A outer s H vs Q E hr h => ?_)
  · obtain ⟨c, L, s, ms, t, xs, rfl, _⟩ := h
    rfl
  · obtain ⟨c, L, s', ms, t, xs, rfl, ch, t0, t1, es, ne, pos, few, q⟩ := h
    refine ⟨_, pss_one (ps_ret (pe_ix ix_list (pv 1) (pe_call GD hr (by rfl) gD kD bD .nil pass0 (pa_cons (pv 0) (pa_cons (pe_callB call_len_seq (by rfl) B.len PySem.boot_len (pa_cons (pv 1) pa_nil)) pa_nil))) (fun _ _ => rfl))), ?_⟩
    refine ⟨_, rfl, _, rfl, _, rfl, s', xs, rfl, .inl (SqL.of es), c, L, ms, t, xs.length, rfl, ch, t0, t1, pos, few, fun r t' H' lr ch' t0' t1' kp => ?_⟩
    exact ⟨s', xs, _, xs[r], rfl, rfl, SqL.of (kp _ _ es ne), atI_nat (List.getElem?_eq_getElem lr), q _ t' H' (List.getElem_mem lr) ch' t0' t1' kp⟩

theorem scRun : FnScope ["_law_gates", "_law_row", "_law_hands", "_law_a", "_law_b", "_law_lamp"] ["_law_gates", "_law_row"] (defScope sRun) := ⟨rfl, rfl, rfl, by decide +kernel, rfl, by decide +kernel, by decide +kernel⟩
theorem ok_run {f : Addr} {fd : FuncData} (F : Fun K "_law_run" "_law_run" sRun f fd) (B : Bl mg) : FnOk P w K mg base CX0 1 f fd ["_law_gates", "_law_row"] spRun := by
  refine F.ok scRun (fun vs H Q E h => ?_) (fun cdv A outer s H vs Q E hr h => ?_)
  · obtain ⟨k, kvs, gs, n, row, rfl, _⟩ := h
    rfl
  · obtain ⟨k, kvs, gs, n, row, rfl, ek, GK, n8, ok, q⟩ := h
    refine ⟨_, pss_cons (ps_for PassesOwn.never rfl (pi_tup (pv 0)) (pg_tup (by rfl) (pgs_cons (pg_name (i := 2) scRun.nd rfl (.inl rfl)) (pgs_cons (pg_name (i := 3) scRun.nd rfl (.inl rfl)) (pgs_cons (pg_name (i := 4) scRun.nd rfl (.inl rfl)) pgs_nil))))
        (pss_one (ps_if (PW.pt (pw_and (pt_cmpR (op_eqD hr.units)
            (pe_lc (own := [("_law_lamp", 5)]) (g := gName 5) (tt := tDark K) (by rfl) scRun.nd (pi_tup (pv 2)) (blkOk_by (N := ["_law_gates", "_law_row", "_law_hands", "_law_a", "_law_b", "_law_lamp"]) (sc := defScope sRun) (by decide +kernel))
              (fun _ _ _ _ _ => pg_name (i := 5) scRun.nd rfl (Or.inl rfl)) (fun _ _ _ _ _ => pts_one (pt_not (pt_truth (pe_op op_andN (pe_op op_shrM (pv 1) (pv 5)) pe_int) (by intro _; rfl)))) (fun _ _ _ _ _ => pv 5))
            (pe_lst pa_nil) (nomark _))
          (pw_and1 (pt_cmpR op_eq (pe_op op_andN (pe_op op_xorN (pe_op op_shrM (pv 1) (pv 3)) (pe_op op_shrM (pv 1) (pv 4))) pe_int) pe_int (nomark _)))))
          (pss_one (ps_set (i := 1) scRun.nd rfl (.inr rfl) (pe_op op_xorN (pv 1) (pe_op op_orN (pe_op op_shlM pe_int (pv 3)) (pe_op op_shlM pe_int (pv 4)))))) pss_nil)))
      (pss_one (ps_ret (pv 1))), ?_⟩
    refine ⟨_, rfl, k, rfl, ⟨_, SqT.of ek⟩, for_tup (K := K) (a := k) (xs := kvs) (fun i σ H' => ∃ x2 x3 x4 : Option V, σ = [some (.ref k), some (.int ((runM (gs.take i) row : Nat) : Int)), x2, x3, x4, none] ∧ Same H H')
      ⟨none, none, none, rfl, fun _ _ e => e⟩ (fun i σ H' _ p => ?_) ?_ ?_⟩
    · obtain ⟨_, _, _, _, s1⟩ := p
      exact SqT.of (s1 _ _ ek)
    · rintro i x σ H' hi ⟨x2, x3, x4, rfl, s1⟩
      obtain ⟨g, eg, gv⟩ := (GK.same (Same.tups s1)).get hi
      have gok := ok g (List.mem_of_getElem? eg)
      have gall := okGate_all gok
      have ga : g.2.1 < n := gall _ (List.mem_append_right _ (List.mem_cons_self ..))
      have gb : g.2.2 < n := gall _ (List.mem_append_right _ (List.mem_cons_of_mem _ (List.mem_cons_self ..)))
      have glen := okGate_len gok
      have er : runM (gs.take (i + 1)) row = stepM (runM (gs.take i) row) g := by
        rw [List.take_add_one, eg]
        exact run_snoc _ _ _
      rw [er]
      generalize runM (gs.take i) row = R
      obtain ⟨t, h, rfl, et, eh⟩ := gv
      refine ⟨t, _, rfl, SqT.of et, rfl, _, _, rfl, _, _, rfl, _, _, rfl, rfl, ?_⟩
      -- [lamp for lamp in hands if not row >> lamp & 1] == []
      refine ⟨_, rfl, h, rfl, ⟨_, SqT.of eh⟩, fun D hD => ?_⟩
      refine lc_tup (K := K) (a := h) (xs := g.1.map fun n : Nat => V.int (n : Int)) (fun i H2 => Same H' H2 ∧ H2 D = some (.lst (nV (dark R (g.1.take i))))) ⟨same_upd hD, upd_same⟩ (fun i H2 _ p => SqT.of (p.1 _ _ eh)) (fun i x H2 hi p => ?_) (fun H2 p => ?_)
      · obtain ⟨s2, eD⟩ := p
        rw [List.getElem?_map] at hi
        cases e : g.1[i]? with
        | none =>
          rw [e] at hi
          cases hi
        | some l =>
          rw [e] at hi
          have ex : x = V.int (l : Int) := (Option.some.inj hi).symm
          subst ex
          have et : g.1.take (i + 1) = g.1.take i ++ [l] := by
            rw [List.take_add_one, e]
            rfl
          refine ⟨rfl, _, rfl, _, rfl, R, l, rfl, rfl, _, 1, rfl, rfl, litM R l, (lit_tru R l).symm, ?_⟩
          refine ite2 (fun b => ?_) (fun b => ?_)
          · have nl : ¬ litM R l = true := by
              intro z
              rw [z] at b
              cases b
            refine ⟨_, rfl, _, eD, ?_, ?_, ?_⟩
            · unfold nV dark
              rw [List.length_map]
              refine small1000 ?_
              have := List.length_filter_le (fun l => !litM R l) (g.1.take i)
              rw [List.length_take] at this
              omega
            · intro b z e
              rw [upd_ne (ne_of_none e hD)]
              exact s2 _ _ e
            · rw [upd_same, et, dark_snoc, if_neg nl, nV_append]
              rfl
          · have yl : litM R l = true := by
              cases z : litM R l with
              | true => rfl
              | false =>
                rw [z] at b
                exact absurd rfl b
            refine ⟨s2, ?_⟩
            rw [et, dark_snoc, if_pos yl, List.append_nil]
            exact eD
      obtain ⟨s2, eD⟩ := p
      rw [List.length_map, List.take_length] at eD
      refine ⟨(by show 0 ≤ sizeLine; decide), fun z nz => ?_⟩
      have s3 : Same H2 (upd H2 z (.lst [])) := same_upd nz
      have s13 : Same H (upd H2 z (.lst [])) := s1.trans (s2.trans s3)
      refine ⟨.list (((dark R g.1).map fun n : Nat => (n : Int)).map PyData.int), .list [], .lst (by rw [← nV_eq]; exact SqL.of (s3 _ _ eD)) (ints_dp _), .lst (SqL.of upd_same) .nil, ints_shaped _, rfl, _, rfl, ?_⟩
      rw [dark_nil]
      refine ite2 (fun lit => ?_) (fun lit => ?_)
      · refine ⟨_, rfl, _, rfl, R, g.2.1, rfl, rfl, _, rfl, _, rfl, R, g.2.2, rfl, rfl, _, _, rfl, rfl, _, 1, rfl, rfl, rfl, _, rfl, ite2 (fun odd => ?_) (fun odd => ?_)⟩
        · refine ⟨_, rfl, _, rfl, 1, g.2.1, rfl, rfl, by decide, by omega, _, rfl, 1, g.2.2, rfl, rfl, by decide, by omega, _, _, rfl, rfl, _, _, rfl, rfl, some (.ref h), some (.int (g.2.1 : Nat)), some (.int (g.2.2 : Nat)), ?_, s13⟩
          have o1 : ((R >>> g.2.1) ^^^ (R >>> g.2.2)) &&& 1 = 1 := by
            have := V.int.inj (of_decide_eq_true odd)
            omega
          rw [step_in (by rw [lit, o1]; rfl)]
          rfl
        · refine ⟨some (.ref h), some (.int (g.2.1 : Nat)), some (.int (g.2.2 : Nat)), ?_, s13⟩
          have o1 : (((R >>> g.2.1) ^^^ (R >>> g.2.2)) &&& 1 == 1) = false := by
            refine beq_false_of_ne (fun z => odd (decide_eq_true ?_))
            rw [z]
            rfl
          rw [step_out (by rw [o1, Bool.and_false])]
          rfl
      · refine iteF ⟨some (.ref h), some (.int (g.2.1 : Nat)), some (.int (g.2.2 : Nat)), ?_, s13⟩
        rw [step_out (by rw [Bool.eq_false_iff.mpr lit, Bool.false_and])]
        rfl
    · rintro σ H' ⟨x2, x3, x4, rfl, s1⟩
      have lk : kvs.length = gs.length := paired_len GK
      rw [lk, List.take_length]
      exact ⟨_, rfl, q H' s1⟩
end
end K39

set_option Elab.async false
set_option linter.all false
set_option maxRecDepth 100000
set_option maxHeartbeats 4000000
namespace K39
open PySem PySem.Spec PyProof.Rows L2

section
variable {P : Program} {w : World} {K : PySem.W.Frag} {mg : Str → Option Value} {base : Heap}
theorem scLow : FnScope ["_law_gates", "_law_lamps", "_law_most", "_law_hands", "_law_a", "_law_b", "_law_told", "_law_lamp"] ["_law_gates", "_law_lamps", "_law_most"] (defScope sLow) := ⟨rfl, rfl, rfl, by decide +kernel, rfl, by decide +kernel, by decide +kernel⟩
theorem ok_low {f : Addr} {fd : FuncData} (F : Fun K "_law_are_low" "_law_are_low" sLow f fd) (B : Bl mg) : FnOk P w K mg base CX0 1 f fd ["_law_gates", "_law_lamps", "_law_most"] spLow := by
  refine F.ok scLow (fun vs H Q E h => ?_) (fun cdv A outer s H vs Q E hr h => ?_)
  · obtain ⟨k, kvs, gs, n, rfl, _⟩ := h
    rfl
  · obtain ⟨k, kvs, gs, n, rfl, ek, GK, n8, ok, few, q⟩ := h
    refine ⟨_, pss_cons (ps_for PassesOwn.never rfl (pi_tup (pv 0)) (pg_tup (by rfl) (pgs_cons (pg_name (i := 3) scLow.nd rfl (.inl rfl)) (pgs_cons (pg_name (i := 4) scLow.nd rfl (.inl rfl)) (pgs_cons (pg_name (i := 5) scLow.nd rfl (.inl rfl)) pgs_nil))))
        (pss_cons (ps_set (i := 6) scLow.nd rfl (.inl rfl) (pe_op op_cat (pe_lst (pa_cons (pv 4) (pa_cons (pv 5) pa_nil))) (pe_callTy call_list_of (by rfl) B.list (by decide +kernel) (pa_cons (pv 3) pa_nil))))
        (pss_one (ps_if (PW.pt (pw_or (pt_cmpR op_gt (pe_callB call_len_seq (by rfl) B.len PySem.boot_len (pa_cons (pv 3) pa_nil)) pe_int (nomark _))
            (pw_or (pt_cmpR op_lt (RZ.pe_lenSetI (by rfl) B.len (by rfl) B.set (pv 6)) (pe_callB call_len_seq (by rfl) B.len PySem.boot_len (pa_cons (pv 6) pa_nil)) (nomark _))
            (pw_or1 (pt_cmpR (op_neD hr.units)
              (pe_lc (own := [("_law_lamp", 7)]) (g := gName 7) (by rfl) scLow.nd (pi_list (pv 6)) (blkOk_by (N := ["_law_gates", "_law_lamps", "_law_most", "_law_hands", "_law_a", "_law_b", "_law_told", "_law_lamp"]) (sc := defScope sLow) (by decide +kernel))
                (fun _ _ _ _ _ => pg_name (i := 7) scLow.nd rfl (Or.inl rfl)) (fun _ _ _ _ _ => pts_one (pt_not (pt_chain op_le op_lt pe_int (pv 7) (pv 1)))) (fun _ _ _ _ _ => pv 7))
              (pe_lst pa_nil) (nomark _))))))
          (pss_one (ps_ret pe_bl)) pss_nil))))
      (pss_one (ps_ret (pe_cmpR op_le (pe_callB call_len_seq (by rfl) B.len PySem.boot_len (pa_cons (pv 0) pa_nil)) (pv 2) (nomark _)))), ?_⟩
    refine ⟨_, rfl, k, rfl, ⟨_, SqT.of ek⟩, for_tup (K := K) (a := k) (xs := kvs) (fun i σ H' => ∃ x3 x4 x5 x6 : Option V, σ = [some (.ref k), some (.int (n : Int)), some (.int 20000), x3, x4, x5, x6, none] ∧ Same H H')
      ⟨none, none, none, none, rfl, fun _ _ e => e⟩ (fun i σ H' _ p => ?_) ?_ ?_⟩
    · obtain ⟨_, _, _, _, _, s1⟩ := p
      exact SqT.of (s1 _ _ ek)
    · rintro i x σ H' hi ⟨x3, x4, x5, x6, rfl, s1⟩
      obtain ⟨g, eg, gv⟩ := (GK.same (Same.tups s1)).get hi
      have gok := ok g (List.mem_of_getElem? eg)
      have gall := okGate_all gok
      have glen := okGate_len gok
      obtain ⟨t, h, rfl, et, eh⟩ := gv
      refine ⟨t, _, rfl, SqT.of et, rfl, _, _, rfl, _, _, rfl, _, _, rfl, rfl, ?_⟩
      -- told = [a, b] + list(hands)
      refine ⟨_, rfl, _, rfl, (by show 2 ≤ sizeLine; decide), fun p1 n1 => ?_⟩
      have t1 : Same H' (upd H' p1 (.lst [V.int (g.2.1 : Nat), V.int (g.2.2 : Nat)])) := same_upd n1
      refine ⟨_, rfl, h, _, rfl, .inr (SqT.of (t1 _ _ eh)), fun p2 n2 => ?_⟩
      have t2 : Same _ (upd (upd H' p1 (.lst [V.int (g.2.1 : Nat), V.int (g.2.2 : Nat)])) p2 (.lst (g.1.map fun n : Nat => V.int (n : Int)))) := same_upd n2
      refine ⟨p1, p2, _, _, rfl, rfl, t2 _ _ upd_same, upd_same, ?_, fun p3 n3 => ?_⟩
      · rw [List.length_map]
        show 2 + g.1.length ≤ sizeLine
        rw [sizeLine_eq]
        omega
      have t3 : Same _ (upd (upd (upd H' p1 (.lst [V.int (g.2.1 : Nat), V.int (g.2.2 : Nat)])) p2 (.lst (g.1.map fun n : Nat => V.int (n : Int)))) p3 (.lst ([V.int (g.2.1 : Nat), V.int (g.2.2 : Nat)] ++ g.1.map fun n : Nat => V.int (n : Int)))) := same_upd n3
      have etold : ([V.int (g.2.1 : Nat), V.int (g.2.2 : Nat)] ++ g.1.map fun n : Nat => V.int (n : Int)) = nV ([g.2.1, g.2.2] ++ g.1) := by
        rw [nV_append]
        rfl
      rw [etold] at t3 ⊢
      generalize eH4 : (upd (upd (upd H' p1 (.lst [V.int (g.2.1 : Nat), V.int (g.2.2 : Nat)])) p2 (.lst (g.1.map fun n : Nat => V.int (n : Int)))) p3 (.lst (nV ([g.2.1, g.2.2] ++ g.1)))) = H4 at t3
      have e3 : H4 p3 = some (.lst (nV ([g.2.1, g.2.2] ++ g.1))) := by rw [← eH4, upd_same]
      have s4 : Same H' H4 := t1.trans (t2.trans t3)
      have eh4 := s4 _ _ eh
      have told_in : ∀ m ∈ [g.2.1, g.2.2] ++ g.1, m < n := fun m hm => gall m (by
        rcases List.mem_append.mp hm with z | z
        · exact List.mem_append_right _ z
        · exact List.mem_append_left _ z)
      have tnd : ([g.2.1, g.2.2] ++ g.1).Nodup := (List.Perm.nodup_iff List.perm_append_comm).mp (okGate_nd gok)
      have tl : (nV ([g.2.1, g.2.2] ++ g.1)).length = 2 + g.1.length := by
        unfold nV
        rw [List.length_map, List.length_append]
        rfl
      -- len(hands) > 1
      refine ⟨_, rfl, h, _, rfl, .inr (SqT.of eh4), _, 1, rfl, rfl, false, ?_, iteF ?_⟩
      · rw [List.length_map]
        show V.bl (decide ((1 : Int) < ((g.1.length : Nat) : Int))) = V.bl false
        rw [decide_eq_false (by omega)]
      -- len(set(told)) < len(told)
      refine ⟨_, rfl, p3, ([g.2.1, g.2.2] ++ g.1).map fun n : Nat => (n : Int), rfl, by rw [← nV_eq]; exact SqL.of e3, nodup_cast tnd, ?_, _, rfl, p3, _, rfl, .inl (SqL.of e3), _, _, rfl, rfl, false, ?_, iteF ?_⟩
      · rw [List.length_map, List.length_append]
        show 2 + g.1.length ≤ 4000
        omega
      · rw [List.length_map, tl, List.length_append]
        show V.bl (decide (((2 + g.1.length : Nat) : Int) < ((2 + g.1.length : Nat) : Int))) = V.bl false
        rw [decide_eq_false (by omega)]
      -- [lamp for lamp in told if not 0 <= lamp < lamps] != []
      refine ⟨_, rfl, p3, rfl, ⟨_, SqL.of e3⟩, fun D hD => ?_⟩
      refine lc_list (K := K) (a := p3) (xs := nV ([g.2.1, g.2.2] ++ g.1)) (fun i H2 => Same H4 H2 ∧ H2 D = some (.lst [])) ⟨same_upd hD, upd_same⟩ (fun i H2 _ p => SqL.of (p.1 _ _ e3)) (fun i x H2 hi p => ?_) (fun H5 p => ?_)
      · obtain ⟨l, ml, rfl⟩ : ∃ l, l < n ∧ x = V.int (l : Int) := by
          unfold nV at hi
          rw [List.getElem?_map] at hi
          cases e : ([g.2.1, g.2.2] ++ g.1)[i]? with
          | none =>
            rw [e] at hi
            cases hi
          | some l =>
            rw [e] at hi
            exact ⟨l, told_in l (List.mem_of_getElem? e), (Option.some.inj hi).symm⟩
        refine ⟨rfl, _, rfl, 0, _, rfl, rfl, true, (by show V.bl (decide ((0 : Int) ≤ (l : Int))) = V.bl true; rw [decide_eq_true (by omega)]), iteT ⟨_, rfl, _, _, rfl, rfl, true, (by show V.bl (decide ((l : Int) < (n : Int))) = V.bl true; rw [decide_eq_true (by omega)]), ?_⟩⟩
        exact p
      obtain ⟨s5, eD⟩ := p
      refine ⟨(by show 0 ≤ sizeLine; decide), fun z nz => ?_⟩
      have s6 : Same H5 (upd H5 z (.lst [])) := same_upd nz
      refine ⟨.list [], .list [], .lst (SqL.of (s6 _ _ eD)) .nil, .lst (SqL.of upd_same) .nil, rfl, rfl, false, rfl, iteF ?_⟩
      exact ⟨_, _, _, _, rfl, s1.trans (s4.trans (s5.trans s6))⟩
    · rintro σ H' ⟨x3, x4, x5, x6, rfl, s1⟩
      have lk : kvs.length = gs.length := paired_len GK
      refine ⟨_, rfl, k, kvs, rfl, .inr (SqT.of (s1 _ _ ek)), _, rfl, _, _, rfl, rfl, ?_⟩
      show Q (.bl (decide ((kvs.length : Int) ≤ 20000))) H'
      rw [decide_eq_true (by omega)]
      exact q H' s1
end
end K39

set_option Elab.async false
set_option linter.all false
set_option maxRecDepth 100000
set_option maxHeartbeats 4000000
namespace K39
open PySem PySem.Spec PyProof.Rows L2
theorem erase_map {α β : Type} (f : α → β) : ∀ (l : List α) (r : Nat), (l.map f).eraseIdx r = (l.eraseIdx r).map f
  | [], _ => rfl
  | a :: l, 0 => rfl
  | a :: l, r + 1 => by
    show f a :: (l.map f).eraseIdx r = f a :: (l.eraseIdx r).map f
    rw [erase_map f l r]
theorem pop_perm : ∀ (l : List Nat) (r : Nat) (h : r < l.length), (l[r] :: l.eraseIdx r).Perm l
  | a :: l, 0, _ => List.Perm.refl _
  | a :: l, r + 1, h => by
    show (l[r]'(Nat.lt_of_succ_lt_succ h) :: a :: l.eraseIdx r).Perm (a :: l)
    exact (List.Perm.swap _ _ _).trans (List.Perm.cons _ (pop_perm l r (Nat.lt_of_succ_lt_succ h)))
theorem seq_nat {r n : Nat} (h : r < n) : seqIndex? (r : Int) n = some r := by
  refine (ixN_seq ?_).1
  unfold ixN
  rw [if_pos (by omega), if_pos (by omega)]
  simp
structure MOk (n u v w : Nat) : Prop where
  ok : ∀ g ∈ topM n u v w, okGate n g = true
  few : (topM n u v w).length ≤ 1000
  led : ∀ row, row < 1 <<< n → runM ((topM n u v w).map keptM) row = ledM n u v w row
theorem mok_of {n u v w : Nat} (h : checkM n u v w = true) : MOk n u v w := by
  unfold checkM at h
  simp only [Bool.and_eq_true, decide_eq_true_eq, List.all_eq_true, List.mem_range, beq_iff_eq] at h
  exact ⟨h.1.1, h.1.2, h.2⟩
theorem MOk.pos {n u v w : Nat} (m : MOk n u v w) (n6 : n ≤ 6) (hu : u < n) (hv : v < n) (uv : u ≠ v) : 0 < (topM n u v w).length := by
  cases e : topM n u v w with
  | nil =>
    exfalso
    have z := m.led (rowOf n u) (row_facts n (by omega) u hu).1
    rw [e] at z
    have z2 : rowOf n u = ledM n u v w (rowOf n u) := z
    unfold ledM at z2
    rw [if_pos rfl] at z2
    exact uv (row_inj n (by omega) u hu v hv z2)
  | cons g r => exact Nat.succ_pos _
def ledK (n u v w : Nat) : List (Key × V) := mergeK [] ((([rowOf n u, rowOf n v, rowOf n w].map fun n : Nat => (n : Int)).map Sum.inl : List Key).zip [V.int (rowOf n v : Nat), V.int (rowOf n w : Nat), V.int (rowOf n u : Nat)])
theorem led_val {n u v w : Nat} (row : Nat) (uv : rowOf n u ≠ rowOf n v) (uw : rowOf n u ≠ rowOf n w) (vw : rowOf n v ≠ rowOf n w) : (valV (ledK n u v w) (Sum.inl (row : Int) : Key)).getD (V.int (row : Int)) = V.int ((ledM n u v w row : Nat) : Int) := by
  have ki : ∀ a b : Nat, (Sum.inl (a : Int) : Key) = Sum.inl (b : Int) ↔ a = b := fun a b => ⟨fun h => by have := Sum.inl.inj h; omega, fun h => by rw [h]⟩
  have e : ledK n u v w = putK (putK (putK [] (Sum.inl ((rowOf n u : Nat) : Int) : Key) (V.int (rowOf n v : Nat))) (Sum.inl ((rowOf n v : Nat) : Int)) (V.int (rowOf n w : Nat))) (Sum.inl ((rowOf n w : Nat) : Int)) (V.int (rowOf n u : Nat)) := rfl
  rw [e, valV_put, valV_put, valV_put, valV_nil]
  unfold ledM
  by_cases a : row = rowOf n u
  · subst a
    rw [if_neg (fun h => uw ((ki _ _).mp h)), if_neg (fun h => uv ((ki _ _).mp h)), if_pos rfl, if_pos rfl]
    rfl
  · by_cases b : row = rowOf n v
    · subst b
      rw [if_neg (fun h => vw ((ki _ _).mp h)), if_pos rfl, if_neg a, if_pos rfl]
      rfl
    · by_cases c : row = rowOf n w
      · subst c
        rw [if_pos rfl, if_neg a, if_neg b, if_pos rfl]
        rfl
      · rw [if_neg (fun h => c ((ki _ _).mp h)), if_neg (fun h => b ((ki _ _).mp h)), if_neg (fun h => a ((ki _ _).mp h)), if_neg a, if_neg b, if_neg c]
        rfl
end K39

set_option Elab.async false
set_option linter.all false
set_option maxRecDepth 100000
set_option maxHeartbeats 4000000
namespace K39
open PySem PySem.Spec PyProof.Rows L2

/-! ### f(k = v, ..): keywords alone -/
section
variable {X : Cx} {CX : CXT} {k : Nat} {f : Addr} {fd : FuncData} {ps ks : List Str} {sp : Sp} {E : XK} {x : Str} {p pos : Pos} {kws : List Keyword} {tk : TA} {g : List Value → List Value → List Value} {gV : List V → List V → List V}
theorem pe_callN0 (F : FnOk X.prog X.w X.K X.mg X.base CX k f fd ps sp) (hr : Room k X.A) (hg : Gl X x) (hm : X.mg x = some (.ref f)) (hk : PySem.W.keepIn X.K (.ref f) = true) (hb : KBn X.K fd ps 0 ks g gV) (hx : Passes CX X E)
    (hkw : PK X kws tk) (hall : (backToKw pos (keywordEach kws X.env)).all (·.1.isSome) = true := by rfl) (hks : (backToKw pos (keywordEach kws X.env)).filterMap (·.1) = ks := by rfl) (hdb : (x == ("__debug__" : Str)) = false := by decide)
    (hpl : ((backTo pos (starEach [] X.env)).any (·.1) || (backToKw pos (keywordEach kws X.env)).any (·.1.isNone)) = false := by rfl) :
    PE X (.Call (.Name x p) [] kws pos) (tCallN 0 ks.length sp gV E tNil tk) := by
  refine ⟨fun pins s σ H Q I h => ?_⟩
  refine wpAny_Call_Name_kw (ld_glob I hg hm ?_ hdb)
  refine PySem.W.callWith_KW0 (h₀ := X.base) I.ok.mod.kin hk hall ?_ hpl
  refine thn (hkw.run pos pins s σ H _ I h) fun ws s2 ⟨zs, H2, I2, rz, l1, l2, q2⟩ => ⟨I2.kIn, ?_⟩
  rw [hks]
  exact run_fnN (us := []) (vs := []) F hr hb hx I2 .nil rz l1 l2 q2
end
theorem swap_kbn {K : PySem.W.Frag} {f : Addr} {fd : FuncData} (F : Fun K "top_three" "top_three" sThree f fd) : KBn K fd ["lamps", "rows"] 0 ["rows", "lamps"] (fun _ ws => ws.reverse) (fun _ zs => zs.reverse) := by
  obtain ⟨oc, od, kV, doc, pm, an, cdv, ct, osl, rfl, lk, hcd⟩ := F.ex
  refine ⟨fun s us ws X l1 l2 => ?_, fun _ r2 => paired_rev r2⟩
  match us, ws, l1, l2 with
  | [], [a, b], _, _ => exact .of_eq rfl

def spLaw (K : PySem.W.Frag) : Sp := fun vs H Q _ => ∃ (a : Addr) (ns : List Int), vs = [.ref a] ∧ SqL K H a (ns.map V.int) ∧ ns.length ≤ 63 ∧ ∀ H', Q (.bl true) H'
def MFact : Prop := ∀ n u v w, 3 ≤ n → n ≤ 6 → u < n → v < n → w < n → u ≠ v → u ≠ w → v ≠ w → checkM n u v w = true

section
variable {P : Program} {w : World} {K : PySem.W.Frag} {mg : Str → Option Value} {base : Heap}
theorem scLaw : FnScope ["_law_script", "_law_chimney_here", "_law_lap", "_law_lamps", "_law_left", "_law_rows", "_law_told", "_law_led", "_law_lamp", "_law_spot", "_law_row"] ["_law_script"] (defScope sLaw) := ⟨rfl, rfl, rfl, by decide +kernel, rfl, by decide +kernel, by decide +kernel⟩
theorem ok_law {f C fE f3 : Addr} {fd fdE fd3 : FuncData} (MF : MFact) (F : Fun K "law" "law" sLaw f fd) (B : Bl mg) (T : Wt K mg C) (I : C8.InsC K C)
    (GE : FnOk P w K mg base CX0 1 fE fdE ["self", "other"] (spEq (RW C))) (bE : Binds K fdE ["self", "other"] []) (hne : PySem.W.findIn K (.ref C) "__ne__" = some (some (.builtin "object.__ne__"))) (heq : PySem.W.findIn K (.ref C) "__eq__" = some (some (.ref fE))) (hfe : PySem.W.isFn K (.ref fE) = true)
    (F3 : Fun K "top_three" "top_three" sThree f3 fd3) (G3 : FnOk P w K mg base CX0 7 f3 fd3 ["lamps", "rows"] (spThree C)) (b3 : Binds K fd3 ["lamps", "rows"] []) (g3 : mg "top_three" = some (.ref f3))
    (HC : Has P w K mg base "_law_chimney" 1 ["_law_script"] (spChim K)) (HD : Has P w K mg base "_law_draught" 1 ["_law_chimney_here", "_law_many"] spDraw) (HP : Has P w K mg base "_law_pick" 2 ["_law_chimney_here", "_law_some"] spPick)
    (HR : Has P w K mg base "_law_run" 1 ["_law_gates", "_law_row"] spRun) (HL : Has P w K mg base "_law_are_low" 1 ["_law_gates", "_law_lamps", "_law_most"] spLow) : FnOk P w K mg base CX0 8 f fd ["_law_script"] (spLaw K) := by
  obtain ⟨fC, dC, GC, kC, bC, gC⟩ := HC
  obtain ⟨fD, dD, GD, kD, bD, gD⟩ := HD
  obtain ⟨fP, dP, GP, kP, bP, gP⟩ := HP
  obtain ⟨fR, dR, GR, kR, bR, gR⟩ := HR
  obtain ⟨fL, dL, GL, kL, bL, gL⟩ := HL
  have KB3 := swap_kbn F3
  refine F.ok scLaw (fun vs H Q E h => ?_) (fun cdv A outer s H vs Q E hr h => ?_)
  · obtain ⟨a, ns, rfl, _⟩ := h
    rfl
  · obtain ⟨a, ns, rfl, hS, hlen, q⟩ := h
    have hu := hu_of hr
    have hr1 : Room 1 _ := hr.mono (by decide)
    have hr2 : Room 2 _ := hr.mono (by decide)
    refine ⟨_, pss_cons (ps_set (i := 1) scLaw.nd rfl (.inr rfl) (pe_call GC hr1 (by rfl) gC kC bC .nil pass0 (pa_cons (pv 0) pa_nil)))
      (pss_cons (ps_for PassesOwn.never rfl (pi_range1 (by rfl) B.range (pa_cons pe_int pa_nil)) (pg_name (i := 2) scLaw.nd rfl (.inl rfl))
        (pss_cons (ps_set (i := 3) scLaw.nd rfl (.inr rfl) (pe_call GP hr2 (by rfl) gP kP bP .nil pass0 (pa_cons (pv 1) (pa_cons (pe_lst (pa_cons pe_int (pa_cons pe_int (pa_cons pe_int (pa_cons pe_int pa_nil))))) pa_nil))))
        (pss_cons (ps_set (i := 4) scLaw.nd rfl (.inr rfl)
          (pe_lc (own := [("_law_lamp", 8)]) (g := gName 8) (tt := tYes) (by rfl) scLaw.nd (pi_range1 (by rfl) B.range (pa_cons (pv 3) pa_nil)) (blkOk_by (N := ["_law_script", "_law_chimney_here", "_law_lap", "_law_lamps", "_law_left", "_law_rows", "_law_told", "_law_led", "_law_lamp", "_law_spot", "_law_row"]) (sc := defScope sLaw) (by decide +kernel))
            (fun _ _ _ _ _ => pg_name (i := 8) scLaw.nd rfl (Or.inl rfl)) (fun _ _ _ _ _ => pts_nil)
            (fun _ _ _ _ _ => pe_op op_xorN (pe_op op_sub (pe_op op_shlM pe_int (pv 3)) pe_int) (pe_op op_shlM pe_int (pv 8)))))
        (pss_cons (ps_setLc (i := 5) (own := [("_law_spot", 9)]) (g := gName 9) (tt := tYes) (te := tBM K "list" rPopAt (tVar 4) (tCons (tCall spDraw [] E0 (tCons (tVar 1) (tCons (tCB (rLen K) (tCons (tVar 4) tNil)) tNil))) tNil)) (by rfl) scLaw.nd rfl rfl (sw_true rfl rfl rfl (by decide +kernel)) (pi_range1 (by rfl) B.range (pa_cons pe_int pa_nil))
            (blkOk_by (N := ["_law_script", "_law_chimney_here", "_law_lap", "_law_lamps", "_law_left", "_law_rows", "_law_told", "_law_led", "_law_lamp", "_law_spot", "_law_row"]) (sc := defScope sLaw) (by decide +kernel))
            (fun _ _ _ _ _ => pg_name (i := 9) scLaw.nd rfl (Or.inl rfl)) (fun _ _ _ _ _ => pts_nil)
            (fun _ _ _ _ _ => pe_bm PySem.F.plainAttrs_list PySem.F.slot_list_pop PySem.F.type_list_pop mt_popAt (pv 4) (pa_cons (pe_call GD hr1 (by rfl) gD kD bD .nil pass0 (pa_cons (pv 1) (pa_cons (pe_callB call_len_seq (by rfl) B.len PySem.boot_len (pa_cons (pv 4) pa_nil)) pa_nil))) pa_nil)))
        (pss_cons (ps_set (i := 6) scLaw.nd rfl (.inr rfl) (pe_call G3 hr (by rfl) g3 F3.kp b3 .nil pass0 (pa_cons (pv 3) (pa_cons (pv 5) pa_nil))))
        (pss_cons (ps_if (PW.pt (pw_or (pt_cmpR op_ne (pe_fld (pv 6) rfl) (pv 3) (nomark _)) (pw_or (pt_cmpR op_gt (pe_fld (pv 6) rfl) pe_int (nomark _))
            (pw_or1 (pt_not (pt_val (pe_call GL hr1 (by rfl) gL kL bL .nil pass0 (pa_cons (pe_fld (pv 6) rfl) (pa_cons (pv 3) (pa_cons pe_int pa_nil)))))))))) (pss_one (ps_ret pe_bl)) pss_nil)
        (pss_cons (ps_set (i := 7) scLaw.nd rfl (.inr rfl) (pe_dlz (by rfl) (by rfl) B.dict (by rfl) B.list (by rfl) B.zip (pa_cons (pv 5) (pa_cons (pe_op op_cat (pe_slice sl_list (pv 5) (po_some pe_int) po_none) (pe_slice sl_list (pv 5) po_none (po_some pe_int))) pa_nil))))
        (pss_cons (ps_if (pt_cmpR (op_neD hr.units)
            (pe_lc (own := [("_law_row", 10)]) (g := gName 10) (tt := tTest (tOp rNe (tCall spRun [] E0 (tCons (tFld K (tVar 6) "gates") (tCons (tVar 10) tNil))) (tDGet2 (tVar 7) (tVar 10) (tVar 10)))) (by rfl) scLaw.nd (pi_range1 (by rfl) B.range (pa_cons (pe_op op_shlM pe_int (pv 3)) pa_nil))
              (blkOk_by (N := ["_law_script", "_law_chimney_here", "_law_lap", "_law_lamps", "_law_left", "_law_rows", "_law_told", "_law_led", "_law_lamp", "_law_spot", "_law_row"]) (sc := defScope sLaw) (by decide +kernel))
              (fun _ _ _ _ _ => pg_name (i := 10) scLaw.nd rfl (Or.inl rfl))
              (fun _ _ _ _ _ => pts_one (pt_cmpR op_ne (pe_call GR hr1 (by rfl) gR kR bR .nil pass0 (pa_cons (pe_fld (pv 6) rfl) (pa_cons (pv 10) pa_nil))) (pe_dget2 hu (pv 7) (pv 10) (pv 10) ⟨rfl, rfl, rfl, rfl⟩) (nomark _)))
              (fun _ _ _ _ _ => pv 10))
            (pe_lst pa_nil) (nomark _)) (pss_one (ps_ret pe_bl)) pss_nil)
        (pss_one (ps_if (pt_cmpR (op_neOwn GE (hr.mono (by decide)) hne heq hfe I.hm bE pass0)
            (pe_callN0 G3 hr (by rfl) g3 F3.kp KB3 pass0 (pk_cons (pe_callTy call_tuple_of (by rfl) B.tuple (by decide +kernel) (pa_cons (pv 5) pa_nil)) (pk_cons (pv 3) pk_nil)))
            (pv 6) (nomark _)) (pss_one (ps_ret pe_bl)) pss_nil))))))))))
      (pss_one (ps_ret pe_bl))), ?_⟩
    -- chimney = _law_chimney(script)
    refine ⟨_, rfl, a, ns, rfl, hS, hlen, fun c L ms H1 s1 ch1 nc => ?_⟩
    -- for lap in range(2)
    refine ⟨2, rfl, by decide, by decide, for_range (lo := 0) (n := 2) (fun i σ H' => ∃ (x2 x3 x4 x5 x6 x7 : Option V) (t : Int), σ = [some (.ref a), some (.ref c), x2, x3, x4, x5, x6, x7, none, none, none] ∧ ChimAt H' c L ms t ∧ 0 ≤ t ∧ t ≤ 4 * (i : Int))
      ⟨none, none, none, none, none, none, 0, rfl, ch1, by omega, by omega⟩ (fun i σ H2 hi p => ?_) (fun σ H2 p => ?_)⟩
    · obtain ⟨x2, x3, x4, x5, x6, x7, t, rfl, ch2, t0, t4⟩ := p
      -- lamps
      refine ⟨_, rfl, (by show 4 ≤ sizeLine; decide), fun so nso => ?_⟩
      refine ⟨c, L, so, ms, t, _, rfl, ch2.same (same_upd nso), t0, by omega, upd_same, ?_, by decide, by decide, fun x t1 H3 mx ch3 t10 t11 kp3 => ?_⟩
      · obtain ⟨⟨rest, ec⟩, _⟩ := ch2
        exact (ne_of_none ec nso).symm
      obtain ⟨n, rfl, n3, n6⟩ : ∃ n : Nat, x = V.int (n : Int) ∧ 3 ≤ n ∧ n ≤ 6 := by
        simp only [List.mem_cons, List.not_mem_nil, or_false] at mx
        rcases mx with rfl | rfl | rfl | rfl
        · exact ⟨4, rfl, by decide, by decide⟩
        · exact ⟨5, rfl, by decide, by decide⟩
        · exact ⟨3, rfl, by decide, by decide⟩
        · exact ⟨6, rfl, by decide, by decide⟩
      -- left
      refine ⟨_, rfl, (n : Int), rfl, by omega, by omega, fun Dl nDl => ?_⟩
      have en : ((n : Int)).toNat = n := by omega
      rw [en]
      refine lc_range (lo := 0) (n := n) (fun i H' => Same H3 H' ∧ H' Dl = some (.lst (nV ((List.range i).map (rowOf n))))) ⟨same_upd nDl, upd_same⟩ (fun k H' hk p => ?_) (fun H4 p => ?_)
      · obtain ⟨s4, eD⟩ := p
        refine ⟨rfl, yesT ?_⟩
        refine ⟨_, rfl, 1, n, rfl, rfl, by decide, by omega, _, _, rfl, rfl, _, rfl, 1, k, rfl, congrArg V.int (Int.zero_add _), by decide, by omega, 1 <<< n - 1, 1 <<< k, congrArg V.int (top_cast n), rfl, _, eD, ?_, ?_, ?_⟩
        · unfold nV
          rw [List.length_map, List.length_map, List.length_range]
          exact small1000 (by omega)
        · intro b z e
          rw [upd_ne (ne_of_none e nDl)]
          exact s4 _ _ e
        · rw [upd_same, List.range_succ, List.map_append, nV_append]
          rfl
      obtain ⟨s4, eDl⟩ := p
      have ch4 := ch3.same s4
      have cDl : c ≠ Dl := by
        obtain ⟨⟨rest, ec⟩, _⟩ := ch3
        exact ne_of_none ec nDl
      -- rows
      refine ⟨3, rfl, by decide, by decide, fun D nD => ?_⟩
      have DlD : Dl ≠ D := ne_of_none eDl nD
      have cD : c ≠ D := by
        obtain ⟨⟨rest, ec⟩, _⟩ := ch4
        exact ne_of_none ec nD
      refine lc_range (lo := 0) (n := 3) (fun i H' => ∃ (ls rs : List Nat) (t' : Int), H' Dl = some (.lst (nV (ls.map (rowOf n)))) ∧ H' D = some (.lst (nV (rs.map (rowOf n)))) ∧ (rs ++ ls).Nodup ∧ (∀ m ∈ rs ++ ls, m < n) ∧ rs.length = i ∧ i + ls.length = n ∧ ChimAt H' c L ms t' ∧ 0 ≤ t' ∧ t' ≤ t1 + (i : Int))
        ⟨List.range n, [], t1, ?_, upd_same, ?_, fun m hm => List.mem_range.mp hm, rfl, ?_, ch4.same (same_upd nD), t10, by omega⟩ (fun k H' hk p => ?_) (fun H5 p => ?_)
      · rw [upd_ne DlD]
        exact eDl
      · exact List.nodup_range
      · rw [List.length_range]
        omega
      · obtain ⟨ls, rs, t', eL', eD', nd, lt, lr, ll, ch', t0', t1'⟩ := p
        refine ⟨rfl, yesT ?_⟩
        have lnV : (nV (ls.map (rowOf n))).length = ls.length := by
          unfold nV
          rw [List.length_map, List.length_map]
        refine ⟨_, rfl, .inl ⟨rfl, _, SqL.of eL'⟩, _, rfl, _, rfl, Dl, _, rfl, .inl (SqL.of eL'), c, L, ms, t', ls.length, congrArg (fun k : Nat => [V.ref c, V.int (k : Int)]) lnV, ch', t0', by omega, by omega, by omega, fun r t'' H6 lr' ch6 t0'' t1'' kp6 => ?_⟩
        have eL6 := kp6 _ _ eL' cDl.symm
        have eD6 := kp6 _ _ eD' cD.symm
        have yat : (nV (ls.map (rowOf n)))[r]? = some (V.int ((rowOf n ls[r] : Nat) : Int)) := by
          unfold nV
          rw [List.getElem?_map, List.getElem?_map, List.getElem?_eq_getElem lr']
          rfl
        refine ⟨Dl, _, (r : Int), r, _, rfl, rfl, eL6, by omega, by omega, by rw [lnV]; exact seq_nat lr', yat, nV (rs.map (rowOf n)), by rw [upd_ne DlD.symm]; exact eD6, ?_, ls.eraseIdx r, rs ++ [ls[r]], t'', ?_, ?_, ?_, ?_, ?_, ?_, ?_, t0'', by omega⟩
        · unfold nV
          rw [List.length_map, List.length_map]
          exact small1000 (by omega)
        · rw [upd_ne DlD, upd_same]
          unfold nV
          rw [erase_map, erase_map]
        · rw [upd_same, List.map_append, nV_append]
          rfl
        · have pm : ((rs ++ [ls[r]]) ++ ls.eraseIdx r).Perm (rs ++ ls) := by
            rw [List.append_assoc]
            exact List.Perm.append_left rs (pop_perm ls r lr')
          exact (List.Perm.nodup_iff pm).mpr nd
        · intro m hm
          have pm : ((rs ++ [ls[r]]) ++ ls.eraseIdx r).Perm (rs ++ ls) := by
            rw [List.append_assoc]
            exact List.Perm.append_left rs (pop_perm ls r lr')
          exact lt m (pm.mem_iff.mp hm)
        · rw [List.length_append, lr]
          rfl
        · rw [List.length_eraseIdx_of_lt lr']
          omega
        · obtain ⟨⟨rest, ec⟩, eL, fw, ne⟩ := ch6
          have LDl : L ≠ Dl := by
            obtain ⟨_, eL3, _⟩ := ch3
            exact ne_of_none eL3 nDl
          have LD : L ≠ D := by
            obtain ⟨_, eL4, _⟩ := ch4
            exact ne_of_none eL4 nD
          exact ⟨⟨rest, by rw [upd_ne cD, upd_ne cDl]; exact ec⟩, by rw [upd_ne LD, upd_ne LDl]; exact eL, fw, ne⟩
      obtain ⟨ls, rs, t', _, eD5, nd, lt, lr, _, ch5, t0', t1'⟩ := p
      obtain ⟨u, v, w, rfl⟩ : ∃ u v w, rs = [u, v, w] := by
        match rs, lr with
        | [u, v, w], _ => exact ⟨u, v, w, rfl⟩
      have hu' : u < n := lt u (by simp)
      have hv' : v < n := lt v (by simp)
      have hw' : w < n := lt w (by simp)
      have nd3 : [u, v, w].Nodup := (List.nodup_append.mp nd).1
      simp only [List.nodup_cons, List.mem_cons, List.not_mem_nil, or_false, not_false_eq_true, and_true, List.nodup_nil, not_or] at nd3
      obtain ⟨⟨uv, uw⟩, vw⟩ := nd3
      have M := mok_of (MF n u v w n3 n6 hu' hv' hw' uv uw vw)
      have pos := M.pos n6 hu' hv' uv
      have ruv : rowOf n u ≠ rowOf n v := fun z => uv (row_inj n (by omega) u hu' v hv' z)
      have ruw : rowOf n u ≠ rowOf n w := fun z => uw (row_inj n (by omega) u hu' w hw' z)
      have rvw : rowOf n v ≠ rowOf n w := fun z => vw (row_inj n (by omega) v hv' w hw' z)
      -- told = top_three(lamps, rows)
      refine ⟨_, rfl, _, rfl, n, u, v, w, D, rfl, .inl eD5, n3, n6, hu', hv', hw', uv, uw, vw, M.ok, M.few, pos, fun p h H6 s6 h1 W6 => ?_⟩
      obtain ⟨dx, k, kvs, ep, ek, GK⟩ := id W6
      have ok' : ∀ g ∈ (topM n u v w).map keptM, okGate n g = true := fun g hg => by
        obtain ⟨g0, m0, rfl⟩ := List.mem_map.mp hg
        exact okGate_kept (M.ok g0 m0)
      have few' : ((topM n u v w).map keptM).length ≤ 1000 := by
        rw [List.length_map]
        exact M.few
      -- if told.lamps != lamps or told.hands > 1 or not are_low(..)
      refine ⟨_, rfl, p, C, dx, _, _, rfl, ep, T.cl, T.nL, flds_lamps _ _ _, _, rfl, rfl, false, (by show V.bl (!decide (V.int (n : Int) = V.int (n : Int))) = V.bl false; rw [decide_eq_true rfl]; rfl), iteF ?_⟩
      refine ⟨_, rfl, p, C, dx, _, _, rfl, ep, T.cl, T.nH, flds_hands _ _ _, h, 1, rfl, rfl, false, (by show V.bl (decide ((1 : Int) < h)) = V.bl false; rw [decide_eq_false (by omega)]), iteF ?_⟩
      refine ⟨_, rfl, p, C, dx, _, _, rfl, ep, T.cl, T.nG, flds_gates _ _ _, _, rfl, k, kvs, _, n, rfl, ek, GK, by omega, ok', few', fun H7 s7 => ⟨true, rfl, iteF ?_⟩⟩
      have eD7 := s7 _ _ (s6 _ _ eD5)
      -- led
      have c1 : cutV (nV ([u, v, w].map (rowOf n))) (some 1) none = [V.int (rowOf n v : Nat), V.int (rowOf n w : Nat)] := rfl
      have c2 : cutV (nV ([u, v, w].map (rowOf n))) none (some 1) = [V.int (rowOf n u : Nat)] := rfl
      refine ⟨_, rfl, _, rfl, 1, rfl, D, _, rfl, SqL.of eD7, fun p1 np1 => ?_⟩
      rw [c1]
      have u1 : Same H7 (upd H7 p1 (.lst [V.int (rowOf n v : Nat), V.int (rowOf n w : Nat)])) := same_upd np1
      refine ⟨_, rfl, 1, rfl, D, _, rfl, SqL.of (u1 _ _ eD7), fun p2 np2 => ?_⟩
      rw [c2]
      have u2 : Same _ (upd (upd H7 p1 (.lst [V.int (rowOf n v : Nat), V.int (rowOf n w : Nat)])) p2 (.lst [V.int (rowOf n u : Nat)])) := same_upd np2
      refine ⟨p1, p2, _, _, rfl, rfl, u2 _ _ upd_same, upd_same, (by show 2 + 1 ≤ sizeLine; decide), fun p3 np3 => ?_⟩
      have u3 : Same _ (upd (upd (upd H7 p1 (.lst [V.int (rowOf n v : Nat), V.int (rowOf n w : Nat)])) p2 (.lst [V.int (rowOf n u : Nat)])) p3 (.lst [V.int (rowOf n v : Nat), V.int (rowOf n w : Nat), V.int (rowOf n u : Nat)])) := same_upd np3
      refine ⟨D, p3, [rowOf n u, rowOf n v, rowOf n w].map fun n : Nat => (n : Int), [V.int (rowOf n v : Nat), V.int (rowOf n w : Nat), V.int (rowOf n u : Nat)], rfl, SqL.of (u3 _ _ (u2 _ _ (u1 _ _ eD7))), SqL.of upd_same, rfl, fun d nd => ?_⟩
      have u4 : Same _ (upd (upd (upd (upd H7 p1 (.lst [V.int (rowOf n v : Nat), V.int (rowOf n w : Nat)])) p2 (.lst [V.int (rowOf n u : Nat)])) p3 (.lst [V.int (rowOf n v : Nat), V.int (rowOf n w : Nat), V.int (rowOf n u : Nat)])) d (.dK (ledK n u v w))) := same_upd nd
      generalize eH8 : (upd (upd (upd (upd H7 p1 (.lst [V.int (rowOf n v : Nat), V.int (rowOf n w : Nat)])) p2 (.lst [V.int (rowOf n u : Nat)])) p3 (.lst [V.int (rowOf n v : Nat), V.int (rowOf n w : Nat), V.int (rowOf n u : Nat)])) d (.dK (ledK n u v w))) = H8 at u4
      have eH8' : (upd (upd (upd (upd H7 p1 (.lst [V.int (rowOf n v : Nat), V.int (rowOf n w : Nat)])) p2 (.lst [V.int (rowOf n u : Nat)])) p3 (.lst ([V.int (rowOf n v : Nat), V.int (rowOf n w : Nat)] ++ [V.int (rowOf n u : Nat)]))) d (.dK (mergeK [] ((([rowOf n u, rowOf n v, rowOf n w].map fun n : Nat => (n : Int)).map Sum.inl : List Key).zip [V.int (rowOf n v : Nat), V.int (rowOf n w : Nat), V.int (rowOf n u : Nat)])))) = H8 := eH8
      rw [eH8']
      have s8 : Same H6 H8 := s7.trans (u1.trans (u2.trans (u3.trans u4)))
      have ed8 : H8 d = some (.dK (ledK n u v w)) := by rw [← eH8, upd_same]
      -- [row for row in range(1 << lamps) if run(told.gates, row) != led.get(row, row)] != []
      have l64 : 1 <<< n ≤ 64 := by
        rw [Nat.shiftLeft_eq, Nat.one_mul]
        exact Nat.pow_le_pow_right (by decide) n6
      refine ⟨_, rfl, 1, n, rfl, rfl, by decide, by omega, ((1 <<< n : Nat) : Int), rfl, Int.le_trans (by decide) (Int.natCast_nonneg _), Int.lt_of_le_of_lt (Int.ofNat_le.mpr l64) (by decide), fun D8 nD8 => ?_⟩
      have en2 : (((1 <<< n : Nat) : Int)).toNat = 1 <<< n := Int.toNat_natCast _
      rw [en2]
      refine lc_range (lo := 0) (n := 1 <<< n) (fun i H' => Same H8 H' ∧ H' D8 = some (.lst [])) ⟨same_upd nD8, upd_same⟩ (fun r H9 hr' p9 => ?_) (fun H9 p9 => ?_)
      · obtain ⟨s9, e9⟩ := p9
        have W9 := W6.ext (s8.trans s9)
        have ep9 := s9 _ _ (s8 _ _ ep)
        have ek9 := s9 _ _ (s8 _ _ ek)
        have GK9 := GK.same (Same.tups (s8.trans s9))
        refine ⟨rfl, _, rfl, p, C, dx, _, _, rfl, ep9, T.cl, T.nG, flds_gates _ _ _, _, rfl, k, kvs, _, n, r, congrArg (fun z : Int => [V.ref k, V.int z]) (Int.zero_add _), ek9, GK9, by omega, ok', fun H10 s10 => ?_⟩
        have ed10 := s10 _ _ (s9 _ _ ed8)
        refine ⟨_, rfl, d, rfl, .inl ⟨_, .inl ed10⟩, _, rfl, _, rfl, _, DGet.k (k := Sum.inl (0 + (r : Int))) ed10, (by rw [Int.zero_add, led_val r ruv ruw rvw]; rfl), false, ?_, iteF ⟨s9.trans s10, s10 _ _ e9⟩⟩
        rw [Int.zero_add, led_val r ruv ruw rvw, M.led r hr', decide_eq_true rfl]
        rfl
      obtain ⟨s9, e9⟩ := p9
      refine ⟨(by show 0 ≤ sizeLine; decide), fun z nz => ?_⟩
      have s10 : Same H9 (upd H9 z (.lst [])) := same_upd nz
      refine ⟨.list [], .list [], .lst (SqL.of (s10 _ _ e9)) .nil, .lst (SqL.of upd_same) .nil, rfl, rfl, false, rfl, iteF ?_⟩
      have s610 : Same H6 (upd H9 z (.lst [])) := s8.trans (s9.trans s10)
      generalize upd H9 z (.lst []) = H11 at s610
      have eD11 := s610 _ _ (s6 _ _ eD5)
      -- top_three(rows=tuple(rows), lamps=lamps) != told
      refine ⟨_, rfl, D, _, rfl, .inl ⟨SqL.of eD11, fun pt npt => ?_⟩⟩
      have s12 : Same H11 (upd H11 pt (.tup (nV ([u, v, w].map (rowOf n))))) := same_upd npt
      refine ⟨_, rfl, rfl, rfl, n, u, v, w, pt, rfl, .inr upd_same, n3, n6, hu', hv', hw', uv, uw, vw, M.ok, M.few, pos, fun q2 h2 H13 s13 h21 W13 => ?_⟩
      have s613 := s610.trans (s12.trans s13)
      have W6' := W6.ext s613
      obtain ⟨dy, k2, kvs2, eq2, _, _⟩ := id W13
      refine ⟨_, rfl, ⟨q2, p, dy, dx, _, _, rfl, rfl, eq2, s613 _ _ ep, n, h2, h, _, W13, W6'⟩, fun H14 x14 => ⟨false, rfl, iteF ?_⟩⟩
      exact ⟨_, _, _, _, _, _, t', rfl, (ch5.same (s6.trans s613)).same x14, t0', by omega⟩
    · exact q H2
end
end K39

set_option Elab.async false
set_option linter.all false
set_option maxRecDepth 100000
set_option maxHeartbeats 0
namespace K39
/-- one first pair of lamps at a time: the kernel lets go of what it kept behind each -/
def allUV (n u v : Nat) : Bool := (List.range n).all fun w => (u == v || u == w || v == w) || checkM n u v w
def allU (n u : Nat) : Bool := (List.range n).all fun v => allUV n u v
theorem a3_0 : allU 3 0 = true := by decide +kernel
theorem a3_1 : allU 3 1 = true := by decide +kernel
theorem a3_2 : allU 3 2 = true := by decide +kernel
theorem a4_0 : allU 4 0 = true := by decide +kernel
theorem a4_1 : allU 4 1 = true := by decide +kernel
theorem a4_2 : allU 4 2 = true := by decide +kernel
theorem a4_3 : allU 4 3 = true := by decide +kernel
theorem a5_0 : allU 5 0 = true := by decide +kernel
theorem a5_1 : allU 5 1 = true := by decide +kernel
theorem a5_2 : allU 5 2 = true := by decide +kernel
theorem a5_3 : allU 5 3 = true := by decide +kernel
theorem a5_4 : allU 5 4 = true := by decide +kernel
theorem a6_00 : allUV 6 0 0 = true := by decide +kernel
theorem a6_01 : allUV 6 0 1 = true := by decide +kernel
theorem a6_02 : allUV 6 0 2 = true := by decide +kernel
theorem a6_03 : allUV 6 0 3 = true := by decide +kernel
theorem a6_04 : allUV 6 0 4 = true := by decide +kernel
theorem a6_05 : allUV 6 0 5 = true := by decide +kernel
theorem a6_10 : allUV 6 1 0 = true := by decide +kernel
theorem a6_11 : allUV 6 1 1 = true := by decide +kernel
theorem a6_12 : allUV 6 1 2 = true := by decide +kernel
theorem a6_13 : allUV 6 1 3 = true := by decide +kernel
theorem a6_14 : allUV 6 1 4 = true := by decide +kernel
theorem a6_15 : allUV 6 1 5 = true := by decide +kernel
theorem a6_20 : allUV 6 2 0 = true := by decide +kernel
theorem a6_21 : allUV 6 2 1 = true := by decide +kernel
theorem a6_22 : allUV 6 2 2 = true := by decide +kernel
theorem a6_23 : allUV 6 2 3 = true := by decide +kernel
theorem a6_24 : allUV 6 2 4 = true := by decide +kernel
theorem a6_25 : allUV 6 2 5 = true := by decide +kernel
theorem a6_30 : allUV 6 3 0 = true := by decide +kernel
theorem a6_31 : allUV 6 3 1 = true := by decide +kernel
theorem a6_32 : allUV 6 3 2 = true := by decide +kernel
theorem a6_33 : allUV 6 3 3 = true := by decide +kernel
theorem a6_34 : allUV 6 3 4 = true := by decide +kernel
theorem a6_35 : allUV 6 3 5 = true := by decide +kernel
theorem a6_40 : allUV 6 4 0 = true := by decide +kernel
theorem a6_41 : allUV 6 4 1 = true := by decide +kernel
theorem a6_42 : allUV 6 4 2 = true := by decide +kernel
theorem a6_43 : allUV 6 4 3 = true := by decide +kernel
theorem a6_44 : allUV 6 4 4 = true := by decide +kernel
theorem a6_45 : allUV 6 4 5 = true := by decide +kernel
theorem a6_50 : allUV 6 5 0 = true := by decide +kernel
theorem a6_51 : allUV 6 5 1 = true := by decide +kernel
theorem a6_52 : allUV 6 5 2 = true := by decide +kernel
theorem a6_53 : allUV 6 5 3 = true := by decide +kernel
theorem a6_54 : allUV 6 5 4 = true := by decide +kernel
theorem a6_55 : allUV 6 5 5 = true := by decide +kernel
theorem all3 : ∀ u < 3, allU 3 u = true := fun u hu => match u, hu with
  | 0, _ => a3_0
  | 1, _ => a3_1
  | 2, _ => a3_2
theorem all4 : ∀ u < 4, allU 4 u = true := fun u hu => match u, hu with
  | 0, _ => a4_0
  | 1, _ => a4_1
  | 2, _ => a4_2
  | 3, _ => a4_3
theorem all5 : ∀ u < 5, allU 5 u = true := fun u hu => match u, hu with
  | 0, _ => a5_0
  | 1, _ => a5_1
  | 2, _ => a5_2
  | 3, _ => a5_3
  | 4, _ => a5_4
theorem all6 : ∀ u < 6, ∀ v < 6, allUV 6 u v = true := fun u hu v hv => match u, hu, v, hv with
  | 0, _, 0, _ => a6_00
  | 0, _, 1, _ => a6_01
  | 0, _, 2, _ => a6_02
  | 0, _, 3, _ => a6_03
  | 0, _, 4, _ => a6_04
  | 0, _, 5, _ => a6_05
  | 1, _, 0, _ => a6_10
  | 1, _, 1, _ => a6_11
  | 1, _, 2, _ => a6_12
  | 1, _, 3, _ => a6_13
  | 1, _, 4, _ => a6_14
  | 1, _, 5, _ => a6_15
  | 2, _, 0, _ => a6_20
  | 2, _, 1, _ => a6_21
  | 2, _, 2, _ => a6_22
  | 2, _, 3, _ => a6_23
  | 2, _, 4, _ => a6_24
  | 2, _, 5, _ => a6_25
  | 3, _, 0, _ => a6_30
  | 3, _, 1, _ => a6_31
  | 3, _, 2, _ => a6_32
  | 3, _, 3, _ => a6_33
  | 3, _, 4, _ => a6_34
  | 3, _, 5, _ => a6_35
  | 4, _, 0, _ => a6_40
  | 4, _, 1, _ => a6_41
  | 4, _, 2, _ => a6_42
  | 4, _, 3, _ => a6_43
  | 4, _, 4, _ => a6_44
  | 4, _, 5, _ => a6_45
  | 5, _, 0, _ => a6_50
  | 5, _, 1, _ => a6_51
  | 5, _, 2, _ => a6_52
  | 5, _, 3, _ => a6_53
  | 5, _, 4, _ => a6_54
  | 5, _, 5, _ => a6_55
theorem of_uv {n u v w : Nat} (h : allUV n u v = true) (hw : w < n) (uv : u ≠ v) (uw : u ≠ w) (vw : v ≠ w) : checkM n u v w = true := by
  unfold allUV at h
  simp only [List.all_eq_true, List.mem_range, Bool.or_eq_true, beq_iff_eq] at h
  rcases h w hw with ((z | z) | z) | z
  · exact absurd z uv
  · exact absurd z uw
  · exact absurd z vw
  · exact z
theorem of_u {n u v : Nat} (h : allU n u = true) (hv : v < n) : allUV n u v = true := by
  unfold allU at h
  simp only [List.all_eq_true, List.mem_range] at h
  exact h v hv
theorem mfact : MFact := fun n u v w n3 n6 hu hv hw uv uw vw => by
  have c : n = 3 ∨ n = 4 ∨ n = 5 ∨ n = 6 := by omega
  rcases c with rfl | rfl | rfl | rfl
  · exact of_uv (of_u (all3 u hu) hv) hw uv uw vw
  · exact of_uv (of_u (all4 u hu) hv) hw uv uw vw
  · exact of_uv (of_u (all5 u hu) hv) hw uv uw vw
  · exact of_uv (all6 u hu v hv) hw uv uw vw
end K39

set_option Elab.async false
set_option linter.all false
set_option maxRecDepth 100000
set_option maxHeartbeats 4000000
namespace K39
open PySem PySem.Spec PyProof.Rows L2

/-! ### what the top has written, and the law's own head -/
theorem tup4 {K : PySem.W.Frag} {a : Addr} {d : Option Addr} {n : Nat} {sl : Array (Option Value)} {x y z v : Int} {p q r s : Tok} (l : K.lookup a = some ⟨.type "tuple", d, .seq #[.int x p, .int y q, .int z r, .int v s] n, sl⟩) : TupK K a [.int x, .int y, .int z, .int v] :=
  ⟨_, _, _, l, rfl, rfl, by show 4 ≤ sizeLine; decide, .cons ⟨_, rfl⟩ (.cons ⟨_, rfl⟩ (.cons ⟨_, rfl⟩ (.cons ⟨_, rfl⟩ .nil)))⟩
theorem ref6 {K : PySem.W.Frag} {a : Addr} {d : Option Addr} {n : Nat} {sl : Array (Option Value)} {b0 b1 b2 b3 b4 b5 : Addr} (l : K.lookup a = some ⟨.type "tuple", d, .seq #[.ref b0, .ref b1, .ref b2, .ref b3, .ref b4, .ref b5] n, sl⟩) : TupK K a [.ref b0, .ref b1, .ref b2, .ref b3, .ref b4, .ref b5] :=
  ⟨_, _, _, l, rfl, rfl, by show 6 ≤ sizeLine; decide, .cons rfl (.cons rfl (.cons rfl (.cons rfl (.cons rfl (.cons rfl .nil)))))⟩
theorem all_mk {l : PySem.W.OpenLaw} {w : World} {K : PySem.W.Frag} {h : Heap} {mg : Str → Option Value} {fa C f10 f11 f12 f13 f14 f17 f18 f19 f29 fI fE f34 f40 f41 f42 f44 f45 f46 f47 f49 f50 aS aL s0 s1 s2 s3 s4 s5 : Addr} (X : K.In h) (G : h.Ns mainGlobals mg) (hfa : mg "law" = some (.ref fa))
    {od10 an10 od11 an11 od12 an12 od13 an13 od14 an14 od17 an17 od18 an18 od19 an19 od29 an29 odI anI odE anE od34 an34 od40 an40 od41 an41 od42 an42 od44 an44 od45 an45 od46 an46 od47 an47 od49 an49 od50 an50 dS dL' ds0 ds1 ds2 ds3 ds4 ds5 : Option Addr} {sl10 sl11 sl12 sl13 sl14 sl17 sl18 sl19 sl29 slI slE sl34 sl40 sl41 sl42 sl44 sl45 sl46 sl47 sl49 sl50 slS slL sls0 sls1 sls2 sls3 sls4 sls5 : Array (Option Value)} {nS nL' ns0 ns1 ns2 ns3 ns4 ns5 : Nat} {tk0 tk1 tk2 tk3 tk4 u00 u01 u02 u03 u10 u11 u12 u13 u20 u21 u22 u23 u30 u31 u32 u33 u40 u41 u42 u43 u50 u51 u52 u53 uL0 uL1 uL2 uL3 : Tok}
    {oc10 kV10 dc10 pm10 cd10 ct10 oc11 kV11 dc11 pm11 cd11 ct11 oc12 kV12 dc12 pm12 cd12 ct12 oc13 kV13 dc13 pm13 cd13 ct13 oc14 kV14 dc14 pm14 cd14 ct14 oc17 kV17 dc17 pm17 cd17 ct17 oc18 kV18 dc18 pm18 cd18 ct18 oc19 kV19 dc19 pm19 cd19 ct19 oc29 kV29 dc29 pm29 cd29 ct29 ocI kVI dcI pmI cdI ctI ocE kVE dcE pmE cdE ctE oc34 kV34 dc34 pm34 cd34 ct34 oc40 kV40 dc40 pm40 cd40 ct40 oc41 kV41 dc41 pm41 cd41 ct41 oc42 kV42 dc42 pm42 cd42 ct42 oc44 kV44 dc44 pm44 cd44 ct44 oc45 kV45 dc45 pm45 cd45 ct45 oc46 kV46 dc46 pm46 cd46 ct46 oc47 kV47 dc47 pm47 cd47 ct47 oc49 kV49 dc49 pm49 cd49 ct49 oc50 kV50 dc50 pm50 cd50 ct50 : Value}
    (aC : PySem.W.nsIn K mainGlobals "Wiring" = some (some (.ref C)))
    (a10 : PySem.W.nsIn K mainGlobals "is_integer" = some (some (.ref f10)))
    (l10 : K.lookup f10 = some ⟨oc10, od10, .func (PySem.W.fnOf "is_integer" "is_integer" (defArgs sIsInt) (defBody sIsInt) (defScope sIsInt) .none kV10 dc10 pm10 an10 cd10 ct10), sl10⟩)
    (c10 : PySem.W.codeIn K cd10 "is_integer" = true)
    (k10 : PySem.W.keepIn K (.ref f10) = true)
    (a11 : PySem.W.nsIn K mainGlobals "is_within" = some (some (.ref f11)))
    (l11 : K.lookup f11 = some ⟨oc11, od11, .func (PySem.W.fnOf "is_within" "is_within" (defArgs sWithin) (defBody sWithin) (defScope sWithin) .none kV11 dc11 pm11 an11 cd11 ct11), sl11⟩)
    (c11 : PySem.W.codeIn K cd11 "is_within" = true)
    (k11 : PySem.W.keepIn K (.ref f11) = true)
    (a12 : PySem.W.nsIn K mainGlobals "is_list" = some (some (.ref f12)))
    (l12 : K.lookup f12 = some ⟨oc12, od12, .func (PySem.W.fnOf "is_list" "is_list" (defArgs sIsList) (defBody sIsList) (defScope sIsList) .none kV12 dc12 pm12 an12 cd12 ct12), sl12⟩)
    (c12 : PySem.W.codeIn K cd12 "is_list" = true)
    (k12 : PySem.W.keepIn K (.ref f12) = true)
    (a13 : PySem.W.nsIn K mainGlobals "are_unlike" = some (some (.ref f13)))
    (l13 : K.lookup f13 = some ⟨oc13, od13, .func (PySem.W.fnOf "are_unlike" "are_unlike" (defArgs sUnlike) (defBody sUnlike) (defScope sUnlike) .none kV13 dc13 pm13 an13 cd13 ct13), sl13⟩)
    (c13 : PySem.W.codeIn K cd13 "are_unlike" = true)
    (k13 : PySem.W.keepIn K (.ref f13) = true)
    (a14 : PySem.W.nsIn K mainGlobals "need_number" = some (some (.ref f14)))
    (l14 : K.lookup f14 = some ⟨oc14, od14, .func (PySem.W.fnOf "need_number" "need_number" (defArgs sNeedNum) (defBody sNeedNum) (defScope sNeedNum) .none kV14 dc14 pm14 an14 cd14 ct14), sl14⟩)
    (c14 : PySem.W.codeIn K cd14 "need_number" = true)
    (k14 : PySem.W.keepIn K (.ref f14) = true)
    (a17 : PySem.W.nsIn K mainGlobals "need_row" = some (some (.ref f17)))
    (l17 : K.lookup f17 = some ⟨oc17, od17, .func (PySem.W.fnOf "need_row" "need_row" (defArgs sNeedRow) (defBody sNeedRow) (defScope sNeedRow) .none kV17 dc17 pm17 an17 cd17 ct17), sl17⟩)
    (c17 : PySem.W.codeIn K cd17 "need_row" = true)
    (k17 : PySem.W.keepIn K (.ref f17) = true)
    (a18 : PySem.W.nsIn K mainGlobals "weight_in" = some (some (.ref f18)))
    (l18 : K.lookup f18 = some ⟨oc18, od18, .func (PySem.W.fnOf "weight_in" "weight_in" (defArgs sWeightIn) (defBody sWeightIn) (defScope sWeightIn) .none kV18 dc18 pm18 an18 cd18 ct18), sl18⟩)
    (c18 : PySem.W.codeIn K cd18 "weight_in" = true)
    (k18 : PySem.W.keepIn K (.ref f18) = true)
    (a19 : PySem.W.nsIn K mainGlobals "weight_of" = some (some (.ref f19)))
    (l19 : K.lookup f19 = some ⟨oc19, od19, .func (PySem.W.fnOf "weight_of" "weight_of" (defArgs sWeightOf) (defBody sWeightOf) (defScope sWeightOf) .none kV19 dc19 pm19 an19 cd19 ct19), sl19⟩)
    (c19 : PySem.W.codeIn K cd19 "weight_of" = true)
    (k19 : PySem.W.keepIn K (.ref f19) = true)
    (a29 : PySem.W.nsIn K mainGlobals "kept_gate" = some (some (.ref f29)))
    (l29 : K.lookup f29 = some ⟨oc29, od29, .func (PySem.W.fnOf "kept_gate" "kept_gate" (defArgs sKept) (defBody sKept) (defScope sKept) .none kV29 dc29 pm29 an29 cd29 ct29), sl29⟩)
    (c29 : PySem.W.codeIn K cd29 "kept_gate" = true)
    (k29 : PySem.W.keepIn K (.ref f29) = true)
    (aI : PySem.W.findIn K (.ref C) "__init__" = some (some (.ref fI)))
    (iI : PySem.W.isFn K (.ref fI) = true)
    (lI : K.lookup fI = some ⟨ocI, odI, .func (PySem.W.fnOf "__init__" "Wiring.__init__" (defArgs sInit) (defBody sInit) (defScope sInit) .none kVI dcI pmI anI cdI ctI), slI⟩)
    (cI : PySem.W.codeIn K cdI "Wiring.__init__" = true)
    (kI : PySem.W.keepIn K (.ref fI) = true)
    (aE : PySem.W.findIn K (.ref C) "__eq__" = some (some (.ref fE)))
    (iE : PySem.W.isFn K (.ref fE) = true)
    (lE : K.lookup fE = some ⟨ocE, odE, .func (PySem.W.fnOf "__eq__" "Wiring.__eq__" (defArgs sEq) (defBody sEq) (defScope sEq) .none kVE dcE pmE anE cdE ctE), slE⟩)
    (cE : PySem.W.codeIn K cdE "Wiring.__eq__" = true)
    (kE : PySem.W.keepIn K (.ref fE) = true)
    (a34 : PySem.W.nsIn K mainGlobals "under" = some (some (.ref f34)))
    (l34 : K.lookup f34 = some ⟨oc34, od34, .func (PySem.W.fnOf "under" "under" (defArgs sUnder) (defBody sUnder) (defScope sUnder) .none kV34 dc34 pm34 an34 cd34 ct34), sl34⟩)
    (c34 : PySem.W.codeIn K cd34 "under" = true)
    (k34 : PySem.W.keepIn K (.ref f34) = true)
    (a40 : PySem.W.nsIn K mainGlobals "top_gates" = some (some (.ref f40)))
    (l40 : K.lookup f40 = some ⟨oc40, od40, .func (PySem.W.fnOf "top_gates" "top_gates" (defArgs sGates) (defBody sGates) (defScope sGates) .none kV40 dc40 pm40 an40 cd40 ct40), sl40⟩)
    (c40 : PySem.W.codeIn K cd40 "top_gates" = true)
    (k40 : PySem.W.keepIn K (.ref f40) = true)
    (a41 : PySem.W.nsIn K mainGlobals "need_three" = some (some (.ref f41)))
    (l41 : K.lookup f41 = some ⟨oc41, od41, .func (PySem.W.fnOf "need_three" "need_three" (defArgs sNeedThree) (defBody sNeedThree) (defScope sNeedThree) .none kV41 dc41 pm41 an41 cd41 ct41), sl41⟩)
    (c41 : PySem.W.codeIn K cd41 "need_three" = true)
    (k41 : PySem.W.keepIn K (.ref f41) = true)
    (a42 : PySem.W.nsIn K mainGlobals "top_three" = some (some (.ref f42)))
    (l42 : K.lookup f42 = some ⟨oc42, od42, .func (PySem.W.fnOf "top_three" "top_three" (defArgs sThree) (defBody sThree) (defScope sThree) .none kV42 dc42 pm42 an42 cd42 ct42), sl42⟩)
    (c42 : PySem.W.codeIn K cd42 "top_three" = true)
    (k42 : PySem.W.keepIn K (.ref f42) = true)
    (a44 : PySem.W.nsIn K mainGlobals "_law_chimney" = some (some (.ref f44)))
    (l44 : K.lookup f44 = some ⟨oc44, od44, .func (PySem.W.fnOf "_law_chimney" "_law_chimney" (defArgs sChim) (defBody sChim) (defScope sChim) .none kV44 dc44 pm44 an44 cd44 ct44), sl44⟩)
    (c44 : PySem.W.codeIn K cd44 "_law_chimney" = true)
    (k44 : PySem.W.keepIn K (.ref f44) = true)
    (a45 : PySem.W.nsIn K mainGlobals "_law_draught" = some (some (.ref f45)))
    (l45 : K.lookup f45 = some ⟨oc45, od45, .func (PySem.W.fnOf "_law_draught" "_law_draught" (defArgs sDraw) (defBody sDraw) (defScope sDraw) .none kV45 dc45 pm45 an45 cd45 ct45), sl45⟩)
    (c45 : PySem.W.codeIn K cd45 "_law_draught" = true)
    (k45 : PySem.W.keepIn K (.ref f45) = true)
    (a46 : PySem.W.nsIn K mainGlobals "_law_pick" = some (some (.ref f46)))
    (l46 : K.lookup f46 = some ⟨oc46, od46, .func (PySem.W.fnOf "_law_pick" "_law_pick" (defArgs sPick) (defBody sPick) (defScope sPick) .none kV46 dc46 pm46 an46 cd46 ct46), sl46⟩)
    (c46 : PySem.W.codeIn K cd46 "_law_pick" = true)
    (k46 : PySem.W.keepIn K (.ref f46) = true)
    (a47 : PySem.W.nsIn K mainGlobals "_law_run" = some (some (.ref f47)))
    (l47 : K.lookup f47 = some ⟨oc47, od47, .func (PySem.W.fnOf "_law_run" "_law_run" (defArgs sRun) (defBody sRun) (defScope sRun) .none kV47 dc47 pm47 an47 cd47 ct47), sl47⟩)
    (c47 : PySem.W.codeIn K cd47 "_law_run" = true)
    (k47 : PySem.W.keepIn K (.ref f47) = true)
    (a49 : PySem.W.nsIn K mainGlobals "_law_are_low" = some (some (.ref f49)))
    (l49 : K.lookup f49 = some ⟨oc49, od49, .func (PySem.W.fnOf "_law_are_low" "_law_are_low" (defArgs sLow) (defBody sLow) (defScope sLow) .none kV49 dc49 pm49 an49 cd49 ct49), sl49⟩)
    (c49 : PySem.W.codeIn K cd49 "_law_are_low" = true)
    (k49 : PySem.W.keepIn K (.ref f49) = true)
    (a50 : PySem.W.nsIn K mainGlobals "law" = some (some (.ref f50)))
    (l50 : K.lookup f50 = some ⟨oc50, od50, .func (PySem.W.fnOf "law" "law" (defArgs sLaw) (defBody sLaw) (defScope sLaw) .none kV50 dc50 pm50 an50 cd50 ct50), sl50⟩)
    (c50 : PySem.W.codeIn K cd50 "law" = true)
    (k50 : PySem.W.keepIn K (.ref f50) = true)
    (pg : PySem.W.plainGet K C Str.empty = true)
    (hd : PySem.W.hasDictIn K C = true)
    (po : PySem.W.plainOver K C = true)
    (sa : PySem.W.findIn K (.ref C) "__setattr__" = some (some (.builtin "object.__setattr__")))
    (mk : PySem.W.makesIn K C = true)
    (kc : PySem.W.keepIn K (.ref C) = true)
    (nL : PySem.W.findIn K (.ref C) "lamps" = some none)
    (nG : PySem.W.findIn K (.ref C) "gates" = some none)
    (nH : PySem.W.findIn K (.ref C) "hands" = some none)
    (hne : PySem.W.findIn K (.ref C) "__ne__" = some (some (.builtin "object.__ne__")))
    (hm : PySem.W.mroIn K C (.type "object") = some true)
    (ha : PySem.W.findIn K (.ref C) "__class__" = some (some (.builtin "object.__class__")))
    (hn : PySem.W.specialIn K (.builtin "object.__class__") "__get__" = some (some (.builtin "getset_descriptor.__get__")))
    (htk : PySem.W.takesIn K (.builtin "object.__class__") = some true)
    (me : PySem.W.kitOne K (.ref C) (.ref C) = some true)
    (n0 : PySem.W.nsIn K mainGlobals "MOST_LAMPS_rows" = some (some (.int 8 tk0)))
    (n1 : PySem.W.nsIn K mainGlobals "MOST_LAMPS_wirings" = some (some (.int 8 tk1)))
    (n2 : PySem.W.nsIn K mainGlobals "MOST_GATES" = some (some (.int 20000 tk2)))
    (n3 : PySem.W.nsIn K mainGlobals "MOST_LAMPS_threes" = some (some (.int 8 tk3)))
    (n4 : PySem.W.nsIn K mainGlobals "MOST_TURNED" = some (some (.int 6 tk4)))
    (b0 : PySem.W.nsIn K mainGlobals "isinstance" = some none)
    (b1 : PySem.W.nsIn K mainGlobals "int" = some none)
    (b2 : PySem.W.nsIn K mainGlobals "bool" = some none)
    (b3 : PySem.W.nsIn K mainGlobals "list" = some none)
    (b4 : PySem.W.nsIn K mainGlobals "tuple" = some none)
    (b5 : PySem.W.nsIn K mainGlobals "len" = some none)
    (b6 : PySem.W.nsIn K mainGlobals "all" = some none)
    (b7 : PySem.W.nsIn K mainGlobals "range" = some none)
    (b8 : PySem.W.nsIn K mainGlobals "dict" = some none)
    (b9 : PySem.W.nsIn K mainGlobals "zip" = some none)
    (b10 : PySem.W.nsIn K mainGlobals "sorted" = some none)
    (b11 : PySem.W.nsIn K mainGlobals "min" = some none)
    (b12 : PySem.W.nsIn K mainGlobals "max" = some none)
    (b13 : PySem.W.nsIn K mainGlobals "set" = some none)
    (b14 : PySem.W.nsIn K mainGlobals "abs" = some none)
    (q0 : PySem.W.nsIn K mainGlobals "SIX" = some (some (.ref aS)))
    (q1 : K.lookup aS = some ⟨.type "tuple", dS, .seq #[.ref s0, .ref s1, .ref s2, .ref s3, .ref s4, .ref s5] nS, slS⟩)
    (r0 : K.lookup s0 = some ⟨.type "tuple", ds0, .seq #[.int 0 u00, .int 1 u01, .int 2 u02, .int 3 u03] ns0, sls0⟩)
    (r1 : K.lookup s1 = some ⟨.type "tuple", ds1, .seq #[.int 1 u10, .int 0 u11, .int 2 u12, .int 3 u13] ns1, sls1⟩)
    (r2 : K.lookup s2 = some ⟨.type "tuple", ds2, .seq #[.int 0 u20, .int 1 u21, .int 3 u22, .int 2 u23] ns2, sls2⟩)
    (r3 : K.lookup s3 = some ⟨.type "tuple", ds3, .seq #[.int 2 u30, .int 0 u31, .int 1 u32, .int 3 u33] ns3, sls3⟩)
    (r4 : K.lookup s4 = some ⟨.type "tuple", ds4, .seq #[.int 3 u40, .int 0 u41, .int 1 u42, .int 2 u43] ns4, sls4⟩)
    (r5 : K.lookup s5 = some ⟨.type "tuple", ds5, .seq #[.int 2 u50, .int 0 u51, .int 3 u52, .int 1 u53] ns5, sls5⟩)
    (q2 : PySem.W.nsIn K mainGlobals "SIX_LAMPS" = some (some (.ref aL)))
    (q3 : K.lookup aL = some ⟨.type "tuple", dL', .seq #[.int 3 uL0, .int 0 uL1, .int 1 uL2, .int 2 uL3] nL', slL⟩) :
    ∃ fd : FuncData, (∀ (s : Shared) (v : Value), BindsTo s fd ⟨[v], []⟩ [("_law_script", v)]) ∧ ∀ base : Heap, K.In base → base.Ns mainGlobals mg → FnOk l.prog w K mg base CX0 8 fa fd ["_law_script"] (spLaw K) := by
  have e := hfa.symm.trans (PySem.W.mg_of X G a50)
  cases e
  have F10 := fun_mk (st := sIsInt) l10 c10 k10
  have B10 := F10.binds (ps := ["value"]) fun _ _ _ _ _ _ us hl => match us, hl with | [_], _ => rfl
  have g10 := PySem.W.mg_of X G a10
  have F11 := fun_mk (st := sWithin) l11 c11 k11
  have B11 := F11.binds (ps := ["value", "least", "most"]) fun _ _ _ _ _ _ us hl => match us, hl with | [_, _, _], _ => rfl
  have g11 := PySem.W.mg_of X G a11
  have F12 := fun_mk (st := sIsList) l12 c12 k12
  have B12 := F12.binds (ps := ["value"]) fun _ _ _ _ _ _ us hl => match us, hl with | [_], _ => rfl
  have g12 := PySem.W.mg_of X G a12
  have F13 := fun_mk (st := sUnlike) l13 c13 k13
  have B13 := F13.binds (ps := ["values"]) fun _ _ _ _ _ _ us hl => match us, hl with | [_], _ => rfl
  have g13 := PySem.W.mg_of X G a13
  have F14 := fun_mk (st := sNeedNum) l14 c14 k14
  have B14 := F14.binds (ps := ["value", "part", "least", "most"]) fun _ _ _ _ _ _ us hl => match us, hl with | [_, _, _, _], _ => rfl
  have g14 := PySem.W.mg_of X G a14
  have F17 := fun_mk (st := sNeedRow) l17 c17 k17
  have B17 := F17.binds (ps := ["value", "part", "lamps"]) fun _ _ _ _ _ _ us hl => match us, hl with | [_, _, _], _ => rfl
  have g17 := PySem.W.mg_of X G a17
  have F18 := fun_mk (st := sWeightIn) l18 c18 k18
  have B18 := F18.binds (ps := ["row"]) fun _ _ _ _ _ _ us hl => match us, hl with | [_], _ => rfl
  have g18 := PySem.W.mg_of X G a18
  have F19 := fun_mk (st := sWeightOf) l19 c19 k19
  have B19 := F19.binds (ps := ["row"]) fun _ _ _ _ _ _ us hl => match us, hl with | [_], _ => rfl
  have g19 := PySem.W.mg_of X G a19
  have F29 := fun_mk (st := sKept) l29 c29 k29
  have B29 := F29.binds (ps := ["lamps", "value"]) fun _ _ _ _ _ _ us hl => match us, hl with | [_, _], _ => rfl
  have g29 := PySem.W.mg_of X G a29
  have FI := fun_mk (st := sInit) lI cI kI
  have BI := FI.binds (ps := ["self", "lamps", "gates"]) fun _ _ _ _ _ _ us hl => match us, hl with | [_, _, _], _ => rfl
  have FE := fun_mk (st := sEq) lE cE kE
  have BE := FE.binds (ps := ["self", "other"]) fun _ _ _ _ _ _ us hl => match us, hl with | [_, _], _ => rfl
  have F34 := fun_mk (st := sUnder) l34 c34 k34
  have B34 := F34.binds (ps := ["burning", "a", "b", "c"]) fun _ _ _ _ _ _ us hl => match us, hl with | [_, _, _, _], _ => rfl
  have g34 := PySem.W.mg_of X G a34
  have F40 := fun_mk (st := sGates) l40 c40 k40
  have B40 := F40.binds (ps := ["lamps", "rows"]) fun _ _ _ _ _ _ us hl => match us, hl with | [_, _], _ => rfl
  have g40 := PySem.W.mg_of X G a40
  have F41 := fun_mk (st := sNeedThree) l41 c41 k41
  have B41 := F41.binds (ps := ["lamps", "rows"]) fun _ _ _ _ _ _ us hl => match us, hl with | [_, _], _ => rfl
  have g41 := PySem.W.mg_of X G a41
  have F42 := fun_mk (st := sThree) l42 c42 k42
  have B42 := F42.binds (ps := ["lamps", "rows"]) fun _ _ _ _ _ _ us hl => match us, hl with | [_, _], _ => rfl
  have g42 := PySem.W.mg_of X G a42
  have F44 := fun_mk (st := sChim) l44 c44 k44
  have B44 := F44.binds (ps := ["_law_script"]) fun _ _ _ _ _ _ us hl => match us, hl with | [_], _ => rfl
  have g44 := PySem.W.mg_of X G a44
  have F45 := fun_mk (st := sDraw) l45 c45 k45
  have B45 := F45.binds (ps := ["_law_chimney_here", "_law_many"]) fun _ _ _ _ _ _ us hl => match us, hl with | [_, _], _ => rfl
  have g45 := PySem.W.mg_of X G a45
  have F46 := fun_mk (st := sPick) l46 c46 k46
  have B46 := F46.binds (ps := ["_law_chimney_here", "_law_some"]) fun _ _ _ _ _ _ us hl => match us, hl with | [_, _], _ => rfl
  have g46 := PySem.W.mg_of X G a46
  have F47 := fun_mk (st := sRun) l47 c47 k47
  have B47 := F47.binds (ps := ["_law_gates", "_law_row"]) fun _ _ _ _ _ _ us hl => match us, hl with | [_, _], _ => rfl
  have g47 := PySem.W.mg_of X G a47
  have F49 := fun_mk (st := sLow) l49 c49 k49
  have B49 := F49.binds (ps := ["_law_gates", "_law_lamps", "_law_most"]) fun _ _ _ _ _ _ us hl => match us, hl with | [_, _, _], _ => rfl
  have g49 := PySem.W.mg_of X G a49
  have F50 := fun_mk (st := sLaw) l50 c50 k50
  have m0 := PySem.W.mg_of X G n0
  have m1 := PySem.W.mg_of X G n1
  have m2 := PySem.W.mg_of X G n2
  have m3 := PySem.W.mg_of X G n3
  have m4 := PySem.W.mg_of X G n4
  have B : Bl mg := ⟨PySem.W.mg_none_of X G b0, PySem.W.mg_none_of X G b1, PySem.W.mg_none_of X G b2, PySem.W.mg_none_of X G b3, PySem.W.mg_none_of X G b4, PySem.W.mg_none_of X G b5, PySem.W.mg_none_of X G b6, PySem.W.mg_none_of X G b7, PySem.W.mg_none_of X G b8, PySem.W.mg_none_of X G b9, PySem.W.mg_none_of X G b10, PySem.W.mg_none_of X G b11, PySem.W.mg_none_of X G b12, PySem.W.mg_none_of X G b13, PySem.W.mg_none_of X G b14⟩
  have mC := PySem.W.mg_of X G aC
  have cl : Cls K C := ⟨pg, hd, po, sa⟩
  have T : Wt K mg C := ⟨cl, nL, nG, nH, mC, ⟨_, m1⟩, ⟨_, m2⟩⟩
  have IC : C8.InsC K C := ⟨cl, ha, hn, htk, hm, me⟩
  have S : SixK K mg := ⟨⟨aS, _, PySem.W.mg_of X G q0, ref6 q1, .cons ⟨s0, rfl, tup4 r0⟩ (.cons ⟨s1, rfl, tup4 r1⟩ (.cons ⟨s2, rfl, tup4 r2⟩ (.cons ⟨s3, rfl, tup4 r3⟩ (.cons ⟨s4, rfl, tup4 r4⟩ (.cons ⟨s5, rfl, tup4 r5⟩ .nil)))))⟩, ⟨aL, PySem.W.mg_of X G q2, tup4 q3⟩⟩
  refine ⟨PySem.W.fnOf "law" "law" (defArgs sLaw) (defBody sLaw) (defScope sLaw) .none kV50 dc50 pm50 an50 cd50 ct50, fun s v => .of_eq rfl, fun base _ _ => ?_⟩
  have GW : FnOk l.prog w K mg base CX0 2 f11 _ ["value", "least", "most"] spWithin := ok_within F11 F10 B10 g10 B
  have HL : Has l.prog w K mg base "is_list" 1 ["value"] spIsList := ⟨_, _, ok_isList F12 B, k12, B12, g12⟩
  have HW : Has l.prog w K mg base "is_within" 2 ["value", "least", "most"] spWithin := ⟨_, _, GW, k11, B11, g11⟩
  have HU : Has l.prog w K mg base "are_unlike" 1 ["values"] spUnlike := ⟨_, _, ok_unlike F13 B, k13, B13, g13⟩
  have HN : Has l.prog w K mg base "need_number" 3 ["value", "part", "least", "most"] spNeedNum := ⟨_, _, ok_needNum F14 GW k11 B11 g11, k14, B14, g14⟩
  have GN : FnOk l.prog w K mg base CX0 3 f17 _ ["value", "part", "lamps"] spNeedRow := ok_needRow F17 GW k11 B11 g11
  have HG : Has l.prog w K mg base "weight_of" 4 ["row"] spWeight := ⟨_, _, ok_weightOf F19 GN k17 B17 g17 F18 B18 g18 m0, k19, B19, g19⟩
  have HK : Has l.prog w K mg base "kept_gate" 3 ["lamps", "value"] spKept := ⟨_, _, ok_kept F29 B HL HW HU, k29, B29, g29⟩
  have GI : FnOk l.prog w K mg base CX0 4 fI _ ["self", "lamps", "gates"] (spInit C) := ok_init FI B T HN HL HK
  have GE : FnOk l.prog w K mg base CX0 1 fE _ ["self", "other"] (spEq (RW C)) := ok_eq FE B T IC
  have HUn : Has l.prog w K mg base "under" 5 ["burning", "a", "b", "c"] (spUnder 4) := ⟨_, _, ok_under F34 B B34 g34 4 (by decide), k34, B34, g34⟩
  have HT : Has l.prog w K mg base "top_gates" 6 ["lamps", "rows"] spGates := ⟨_, _, ok_gates F40 B S HUn, k40, B40, g40⟩
  have HN3 : Has l.prog w K mg base "need_three" 5 ["lamps", "rows"] spNeedThree := ⟨_, _, ok_needThree F41 B m3 HL HW HU HG, k41, B41, g41⟩
  have G3 : FnOk l.prog w K mg base CX0 7 f42 _ ["lamps", "rows"] (spThree C) := ok_three F42 ⟨mk, aI, iI, kc⟩ GI BI mC m4 HN3 HG HT
  have HC : Has l.prog w K mg base "_law_chimney" 1 ["_law_script"] (spChim K) := ⟨_, _, ok_chim F44 B, k44, B44, g44⟩
  have HD : Has l.prog w K mg base "_law_draught" 1 ["_law_chimney_here", "_law_many"] spDraw := ⟨_, _, ok_draw F45 B, k45, B45, g45⟩
  have HP : Has l.prog w K mg base "_law_pick" 2 ["_law_chimney_here", "_law_some"] spPick := ⟨_, _, ok_pick F46 B HD, k46, B46, g46⟩
  have HR : Has l.prog w K mg base "_law_run" 1 ["_law_gates", "_law_row"] spRun := ⟨_, _, ok_run F47 B, k47, B47, g47⟩
  have HLo : Has l.prog w K mg base "_law_are_low" 1 ["_law_gates", "_law_lamps", "_law_most"] spLow := ⟨_, _, ok_low F49 B, k49, B49, g49⟩
  exact ok_law mfact F50 B T IC GE BE hne aE iE F42 G3 B42 g42 HC HD HP HR HLo
end K39
open PySem PySem.W PyProof.Rows
set_option maxRecDepth 100000 in
set_option maxHeartbeats 0 in
theorem PySem.Challenge.cw_keptlamps_k39_whole_threes_of_the_top_cl_holds : PySem.Challenge.rw_keptlamps_k39_whole_threes_of_the_top_cl.Holds := by
  w_on; o_law; k_head; (case hw => w_witness2)
  k_fill
  refine L2.walk_of (l := PySem.Challenge.rw_keptlamps_k39_whole_threes_of_the_top_cl) (n := 63) (k := 8) (x := "_law_script") (CX := fun _ => L2.CX0) (sp := fun w => K39.spLaw _) rfl (by decide) rfl ⟨rfl, by decide, by decide⟩ (fun w h Y => PySem.W.kIn_of Y) ?F (fun _ _ a ns hl _ hS => ⟨a, ns, rfl, hS, hl, fun _ => rfl⟩) (fun _ _ _ _ _ z => z)
  case F =>
    intro w mg fa h KX G hmg
    refine' K39.all_mk KX G hmg ?aC ?a10 ?l10 ?c10 ?k10 ?a11 ?l11 ?c11 ?k11 ?a12 ?l12 ?c12 ?k12 ?a13 ?l13 ?c13 ?k13 ?a14 ?l14 ?c14 ?k14 ?a17 ?l17 ?c17 ?k17 ?a18 ?l18 ?c18 ?k18 ?a19 ?l19 ?c19 ?k19 ?a29 ?l29 ?c29 ?k29 ?aI ?iI ?lI ?cI ?kI ?aE ?iE ?lE ?cE ?kE ?a34 ?l34 ?c34 ?k34 ?a40 ?l40 ?c40 ?k40 ?a41 ?l41 ?c41 ?k41 ?a42 ?l42 ?c42 ?k42 ?a44 ?l44 ?c44 ?k44 ?a45 ?l45 ?c45 ?k45 ?a46 ?l46 ?c46 ?k46 ?a47 ?l47 ?c47 ?k47 ?a49 ?l49 ?c49 ?k49 ?a50 ?l50 ?c50 ?k50 ?pg ?hd ?po ?sa ?mk ?kc ?nL ?nG ?nH ?hne ?hm ?ha ?hn ?htk ?me ?n0 ?n1 ?n2 ?n3 ?n4 ?b0 ?b1 ?b2 ?b3 ?b4 ?b5 ?b6 ?b7 ?b8 ?b9 ?b10 ?b11 ?b12 ?b13 ?b14 ?q0 ?q1 ?r0 ?r1 ?r2 ?r3 ?r4 ?r5 ?q2 ?q3
    (case aC => k_is); (case a10 => k_is); (case l10 => k_is); (case c10 => k_is); (case k10 => k_is); (case a11 => k_is)
    (case l11 => k_is); (case c11 => k_is); (case k11 => k_is); (case a12 => k_is); (case l12 => k_is); (case c12 => k_is)
    (case k12 => k_is); (case a13 => k_is); (case l13 => k_is); (case c13 => k_is); (case k13 => k_is); (case a14 => k_is)
    (case l14 => k_is); (case c14 => k_is); (case k14 => k_is); (case a17 => k_is); (case l17 => k_is); (case c17 => k_is)
    (case k17 => k_is); (case a18 => k_is); (case l18 => k_is); (case c18 => k_is); (case k18 => k_is); (case a19 => k_is)
    (case l19 => k_is); (case c19 => k_is); (case k19 => k_is); (case a29 => k_is); (case l29 => k_is); (case c29 => k_is)
    (case k29 => k_is); (case aI => k_is); (case iI => k_is); (case lI => k_is); (case cI => k_is); (case kI => k_is)
    (case aE => k_is); (case iE => k_is); (case lE => k_is); (case cE => k_is); (case kE => k_is); (case a34 => k_is)
    (case l34 => k_is); (case c34 => k_is); (case k34 => k_is); (case a40 => k_is); (case l40 => k_is); (case c40 => k_is)
    (case k40 => k_is); (case a41 => k_is); (case l41 => k_is); (case c41 => k_is); (case k41 => k_is); (case a42 => k_is)
    (case l42 => k_is); (case c42 => k_is); (case k42 => k_is); (case a44 => k_is); (case l44 => k_is); (case c44 => k_is)
    (case k44 => k_is); (case a45 => k_is); (case l45 => k_is); (case c45 => k_is); (case k45 => k_is); (case a46 => k_is)
    (case l46 => k_is); (case c46 => k_is); (case k46 => k_is); (case a47 => k_is); (case l47 => k_is); (case c47 => k_is)
    (case k47 => k_is); (case a49 => k_is); (case l49 => k_is); (case c49 => k_is); (case k49 => k_is); (case a50 => k_is)
    (case l50 => k_is); (case c50 => k_is); (case k50 => k_is); (case pg => k_is); (case hd => k_is); (case po => k_is)
    (case sa => k_is); (case mk => k_is); (case kc => k_is); (case nL => k_is); (case nG => k_is); (case nH => k_is)
    (case hne => k_is); (case hm => first | k_is | rfl); (case ha => first | k_is | rfl); (case hn => first | k_is | rfl); (case htk => first | k_is | rfl); (case me => first | k_is | rfl)
    (case n0 => k_is); (case n1 => k_is); (case n2 => k_is); (case n3 => k_is); (case n4 => k_is); (case b0 => k_is)
    (case b1 => k_is); (case b2 => k_is); (case b3 => k_is); (case b4 => k_is); (case b5 => k_is); (case b6 => k_is)
    (case b7 => k_is); (case b8 => k_is); (case b9 => k_is); (case b10 => k_is); (case b11 => k_is); (case b12 => k_is)
    (case b13 => k_is); (case b14 => k_is); (case q0 => k_is); (case q1 => k_is); (case r0 => k_is); (case r1 => k_is)
    (case r2 => k_is); (case r3 => k_is); (case r4 => k_is); (case r5 => k_is); (case q2 => k_is); (case q3 => k_is)
#print axioms PySem.Challenge.cw_keptlamps_k39_whole_threes_of_the_top_cl_holds

