import PyProof.Rows.All
import Wide.All
import OpenK.AllK
import Wide.FinOn
import HandS.ForMost
import HandS.TupMul
import KE.KRevSl
import KE.GoesMore
import KE.GoesEnum
import PyProof.Draws
import HandS.Iter
import HandS.DictTup
import HandS.ListItems
import KE.KDictWalk
import KE.KDictItemsList
import KE.KDictDisplayH
import KE.KDictPairs
import HandS.ClsMeth
import KE.SortData
import HandS.Defaults
import HandS.Codes
import HandS.IsInst
import HandS.TupAny
import HandS.Flt
import HandS.Star
import HandS.Style
import HandS.SortInts
import HandS.Zip
import HandS.Words
import PySem.Challenge.RW_wordshapes_k93_whole_margins_and_rows_he
import HandS.CallLocal
import KE.KStateDown
import HandS.Head0
import HandS.Head1
import HandS.Head2
import HandS.HeadEnd
import HandS.HeadHook1
import HandS.HeadHook2
import HandS.HeadNt
set_option Elab.async false
set_option linter.all false
set_option maxRecDepth 100000
set_option maxHeartbeats 4000000
/-! Rules of the layer that were lacking: sum of a tuple, t[::-1], t * 1. -/
namespace Ws
open PySem PySem.Spec PyProof.Rows L2
theorem preSum_getD : ∀ (ns : List Int) (j : Nat), j ≤ ns.length → preSum (fun i => ns.getD i 0) j = (ns.take j).sum
  | ns, 0, _ => by rw [List.take_zero] <;> rfl
  | ns, j + 1, h => by
    have e : ns[j]? = some ns[j] := List.getElem?_eq_getElem h
    show preSum (fun i => ns.getD i 0) j + ns.getD j 0 = _
    rw [preSum_getD ns j (Nat.le_of_lt h), List.getD_eq_getElem?_getD, e, sum_take e] <;> rfl
theorem fm_congr {α β : Type} {f g : α → Option β} : ∀ {l : List α}, (∀ x ∈ l, f x = g x) → l.filterMap f = l.filterMap g
  | [], _ => rfl
  | x :: l, h => by
    rw [List.filterMap_cons, List.filterMap_cons, h x List.mem_cons_self, fm_congr fun y hy => h y (List.mem_cons_of_mem _ hy)]
section
variable {X : Cx}
def rSumT (K : PySem.W.Frag) : List V → Hp → VK → Prop := fun vs H Q => ∃ (a : Addr) (ns : List Int), vs = [V.ref a] ∧ SqT K H a (ns.map V.int) ∧ Q (.int ns.sum) H
theorem cr_sumT (hc : X.calm = true) : CallR X (.builtin "sum") (rSumT X.K) := by
  intro pins s σ H vs us Q J r h
  obtain ⟨a, ns, rfl, hs, q⟩ := h
  obtain ⟨its, rv, ht, _⟩ := J.tuple hs
  have hi := rv.ints
  have hT : s.heap.IsTuple a its.toArray := ht
  have hlt : a < s.heap.objs.size := ht.lt
  have hne : a ≠ s.heap.objs.size := Nat.ne_of_lt hlt
  have hl : its.toArray.size = ns.length := by rw [List.size_toArray, ← rv.length, List.length_map]
  rw [Vals.ref1 r]
  refine call_sum_walkG (wpAny_pyIter_tuple hT ?_)
  refine ⟨s.heap.objs.size, [s.heap.objs.size, a], [s.heap.objs.size], _, _, _, fun i => ns.getD i 0, rfl, Walks.tuple (A := (X.A).in1) (J.ok.hd hc) s.heap.objs.size a hne its.toArray, ⟨⟨_, Heap.get?_push_size s.heap rfl, rfl, rfl⟩, hT.push _⟩, fun b hb => ?_, fun i v hv => ?_, fun h' tk t' hk => ?_⟩
  · show b < (s.heap.push _).objs.size
    rw [Heap.size_push]
    rcases List.mem_cons.mp hb with e | hb
    · rw [e]
      exact Nat.lt_succ_self _
    · rw [List.mem_singleton.mp hb]
      exact Nat.lt_succ_of_lt hlt
  · have hv' : its[i]? = some v := by simpa using hv
    have hil : i < ns.length := by
      have := (List.getElem?_eq_some_iff.mp hv').1
      rw [← hl, List.size_toArray]
      exact this
    obtain ⟨t, e⟩ := hi.get i ns[i] (List.getElem?_eq_getElem hil)
    rw [hv'] at e
    refine ⟨t, ?_⟩
    show v = Value.int (ns.getD i 0) t
    rw [Option.some.inj e, List.getD_eq_getElem?_getD, List.getElem?_eq_getElem hil] <;> rfl
  · rw [hl, preSum_getD ns ns.length (Nat.le_refl _), List.take_length]
    refine ⟨.int ns.sum, H, J.kept fun b o e => hk b o (fun hm => ?_) (Heap.get?_push_of_some _ e), ⟨_, rfl⟩, q⟩
    have := Heap.lt_size e
    rw [List.mem_singleton.mp hm] at this
    exact Nat.lt_irrefl _ this

/-! ### t[::-1] -/
theorem places_rev (n : Nat) : Builtin.Slice.slicePlaces ((n : Int) - 1) (-1) (-1) = n := by
  unfold Builtin.Slice.slicePlaces
  have h1 : ¬ ((-1 : Int) > 0) := by decide
  have e1 : (- (-1) : Int) = 1 := by decide
  simp only [h1, if_false, e1, Int.ediv_one]
  split <;> omega
theorem pick_rev (xs : List Value) : ((List.range xs.length).filterMap fun (m : Nat) => xs.toArray[(((xs.length : Nat) : Int) - 1 + (m : Int) * -1).toNat]?) = xs.reverse := by
  have e : ∀ m ∈ List.range xs.length, xs.toArray[(((xs.length : Nat) : Int) - 1 + (m : Int) * -1).toNat]? = some (xs.reverse.getD m .none) := fun m hm => by
    have hl := List.mem_range.mp hm
    have e2 : (((xs.length : Nat) : Int) - 1 + (m : Int) * -1).toNat = xs.length - 1 - m := by omega
    have hr : m < xs.reverse.length := by rw [List.length_reverse]; exact hl
    rw [e2, List.getElem?_toArray, List.getD_eq_getElem?_getD, List.getElem?_eq_getElem hr, List.getElem?_eq_getElem (by omega), List.getElem_reverse] <;> rfl
  have e3 : (List.range xs.length).filterMap (fun (m : Nat) => xs.toArray[(((xs.length : Nat) : Int) - 1 + (m : Int) * -1).toNat]?) = (List.range xs.length).map fun m => xs.reverse.getD m .none := by
    rw [← List.filterMap_eq_map]
    exact fm_congr e
  rw [e3]
  apply List.ext_getElem
  · simp
  · intro i h1 h2
    rw [List.getElem_map, List.getElem_range, List.getD_eq_getElem?_getD, List.getElem?_eq_getElem h2] <;> rfl
theorem getItem_tuple_rev {A : Around} {E : Value → Shared → Prop} {prog : Program} {w : World} {s : Shared} {t sl : Addr} {its : List Value} {vs : Value} {Q : Value → Shared → Prop} (ht : IsTup s.heap t its.toArray) (hs : s.heap.IsSliceOf sl .none .none vs) (ps : IsPart vs (some (-1)))
    (h : Q (.ref s.heap.objs.size) { s with heap := s.heap.push { cls := .type "tuple", data := .seq its.reverse.toArray } }) (hsz : its.length ≤ sizeLine) : wpAny (model prog w) A (getItem (.ref t) (.ref sl)) Q E s := by
  have hok : sizeOk (.seq its.reverse.toArray) := by
    show its.reverse.toArray.size ≤ sizeLine
    rw [List.size_toArray, List.length_reverse]
    exact hsz
  obtain ⟨os, hos, hcs, hds⟩ := id hs
  have hTs : s.TypeIs (.ref sl) "slice" := ⟨os, hos, hcs⟩
  unfold getItem
  try with_reducible refine wpAny_holding ?_
  first | refine wpAny_bind (wpAny_pure ?_) | skip
  refine wpAny_bind (wpAny_sequenceKey ht.typeIs (by decide) ?_)
  refine wpAny_bind (wpAny_callSpecial?_slot (name := Str.ofString "__getitem__") ht.typeIs slot_tuple_getitem (wpAny_call_entry slot_tuple_getitem ht.typeIs entry_tuple_getitem ?_ (args_tuple_getitem _ _)))
  show wpAny _ _ (Builtin.Tuple.tupleItemsOf (.ref t) >>= _) _ _ s
  refine wpAny_bind (tupleItemsOf_ ht ?_)
  refine wpAny_bind (wpAny_typeOf hTs ?_)
  rw [if_pos (by decide)]
  have ap : ∀ {R : Int × Int × Nat → Shared → Prop}, R (((its.length : Nat) : Int) - 1, -1, its.length) s → wpAny (model prog w) A.in1 (Builtin.Slice.sliceApplied (.ref sl) (pure ((its.toArray.size : Nat) : Int))) R E s := fun {R} hR => by
    unfold Builtin.Slice.sliceApplied Builtin.Slice.sliceFields
    refine wpAny_bind (wpAny_bind (wpAny_field hos hds (x := .none) rfl (wpAny_bind (wpAny_field hos hds (x := .none) rfl (wpAny_bind (wpAny_field hos hds (x := vs) rfl (wpAny_pure ?_)))))))
    refine wpAny_bind (HT.slicePart_ ps ?_)
    show wpAny _ _ (if ((-1 : Int) == 0) = true then _ else _) _ _ s
    rw [if_neg (by decide)]
    refine wpAny_bind (slicePart_none (wpAny_bind (slicePart_none (wpAny_bind (wpAny_pure ?_)))))
    show wpAny _ _ (pure (((its.toArray.size : Nat) : Int) - 1, (-1 : Int), Builtin.Slice.slicePlaces (((its.toArray.size : Nat) : Int) - 1) (-1) (-1))) R _ s
    rw [places_rev, List.size_toArray]
    exact wpAny_pure hR
  refine wpAny_bind (ap ?_)
  have hno : ¬ ((((its.length : Nat) : Int) - 1 == 0 && (-1 : Int) == 1 && its.length == its.toArray.size) = true) := by
    rw [Bool.and_assoc, show ((-1 : Int) == 1) = false from by decide, Bool.false_and, Bool.and_false]
    exact Bool.false_ne_true
  show wpAny _ _ (if (((its.length : Nat) : Int) - 1 == 0 && (-1 : Int) == 1 && its.length == its.toArray.size) = true then _ else _) _ _ s
  rw [if_neg hno, pick_rev]
  first
    | exact wpAny_bind (m := Builtin.Tuple.tupleExact _) (wpAny_newObj_type (wpAny_pure ⟨_, rfl, wpAny_pure h⟩) hok)
    | exact wpAny_bind (m := Builtin.Tuple.tupleExact _) (wpAny_newObj_type (wpAny_bind (wpAny_pure (wpAny_pure ⟨_, rfl, wpAny_pure h⟩))) hok)
    | exact wpAny_bind (wpAny_bind (m := Builtin.Tuple.tupleExact _) (wpAny_newObj_type (wpAny_pure (wpAny_pure ⟨_, rfl, wpAny_pure h⟩)) hok))
def tRevT (K : PySem.W.Frag) (te : TE) : TE := fun σ H Q => te σ H fun x H1 => ∃ a xs, x = .ref a ∧ SqT K H1 a xs ∧ ∀ p, H1 p = none → Q (.ref p) (upd H1 p (.tup xs.reverse))
theorem pe_revT {e : Expr} {te : TE} {k : Nat} {p1 p2 p3 pos : Pos} (he : PE X e te) : PE X (.Subscript e (.Slice none none (some (.UnaryOp .USub (.Constant (.int 1) k p1) p2)) p3) pos) (tRevT X.K te) := by
  refine ⟨fun pins s σ H Q J h => ?_⟩
  refine Subscript_ (thn (he.run pins s σ H _ J h) fun v s1 ⟨x, H1, J1, r1, q1⟩ => ?_)
  obtain ⟨a, xs, ex, hx, q⟩ := q1
  subst ex
  cases r1
  have hst : PO X (some (.UnaryOp .USub (.Constant (.int 1) k p1) p2)) (tPart (tUn (rU fun i => .int (-i)) (tC (.int 1)))) := po_some (pe_un un_neg pe_int)
  refine wpAny_Slice (thn (po_none.run pins s1 σ H1 (fun o H2 => o = none ∧ H2 = H1) J1 ⟨rfl, rfl⟩) fun vl s2 ⟨l, H2, J2, pl, el, e2⟩ => ?_)
  subst el e2
  refine thn (po_none.run pins s2 σ H2 (fun o H3 => o = none ∧ H3 = H2) J2 ⟨rfl, rfl⟩) fun vu s3 ⟨u, H3, J3, pu, eu, e3⟩ => ?_
  subst eu e3
  refine thn (hst.run pins s3 σ H3 (fun o H4 => o = some (-1) ∧ H4 = H3) J3 ⟨1, rfl, -1, rfl, rfl, rfl⟩) fun vs s4 ⟨o, H4, J4, ps, eo, e4⟩ => ?_
  subst eo e4
  cases pl
  cases pu
  have J5 : Inv X pins σ H4 { s4 with heap := s4.heap.push { cls := .type "slice", data := .fields #[.none, .none, vs] } } := J4.kept (t' := s4.toks) fun b ob q => Heap.get?_push_of_some _ q
  obtain ⟨its, r, ht, hz⟩ := J5.tuple hx
  have hlen := r.length
  show wpAny (model X.prog X.w) X.A (subscriptTail e (.Slice none none (some (.UnaryOp .USub (.Constant (.int 1) k p1) p2)) p3) (.ref a) (.ref s4.heap.objs.size)) (EP X pins σ Q) X.xe { s4 with heap := s4.heap.push { cls := .type "slice", data := .fields #[.none, .none, vs] } }
  refine tail_any (ops := [.ref a, .ref s4.heap.objs.size]) ht.typeIs (slot_tuple_getitem.lookup) ?_ (by with_unfolding_all rfl)
  refine getItem_tuple_rev ht (Heap.IsSliceOf.new _ .none .none vs) ps ?_ (by rw [← hlen]; exact hz)
  refine ⟨.ref _, _, J5.laid (t' := s4.toks) (o := .tup xs.reverse) (fun b ob q => Heap.get?_push_of_some _ q) (Nat.le_refl _) ?_, rfl, q _ (J5.hok.fresh (Nat.le_refl _))⟩
  exact ⟨by rw [List.length_reverse]; exact hz, _, r.reverse, IsTup.new _ _⟩
end
end Ws
set_option Elab.async false
set_option linter.all false
set_option maxRecDepth 100000
set_option maxHeartbeats 4000000
/-! Rules that were lacking: enumerate of a tuple. -/
namespace Ws
open PySem PySem.Spec PyProof.Rows L2
/-- what enumerate's maker does with one argument of any kind that begins a walk -/
theorem enumMake1 {v : Value} {o : Obj} {Z : Heap → Prop} (B : Begins v o Z) : Meets (Builtin.«enumerate.__new__» ⟨[.type "enumerate", v], []⟩) (fun _ R s => Z s.heap ∧ R (.ok (.ret (.ref (s.heap.push o).objs.size)))
    { s with heap := (s.heap.push o).push { cls := .type "enumerate", data := .fields #[.none, .bool false, .ref s.heap.objs.size, rawInt 0, .none, .none] } }) :=
  .of_wp fun prog w A R s hyp => by
    obtain ⟨hp, g, d, tk, os⟩ := s
    obtain ⟨z, fin⟩ := hyp
    have hsub := sub_enumerate
    have stepIter : ∀ {A' : Around} {E : Value → Shared → Prop} {Q : Value → Shared → Prop}, Q (.ref hp.objs.size) ⟨hp.push o, g, d, tk, os⟩ → wpAny (model prog w) A' (pyIter v) Q E ⟨hp, g, d, tk, os⟩ := fun q => B.iter prog w _ _ ⟨hp, g, d, tk, os⟩ _ z q
    wp_walk using stepIter
    refine wpAny_stack_any fun st => wpAny_pure ?_
    split
    · rename_i c _ _ _ _ _
      cases (c == Value.type "enumerate") <;> (wp_walk using stepIter; exact ⟨_, rfl, fin⟩)
    · wp_walk using stepIter
      exact ⟨_, rfl, fin⟩
section
variable {prog : Program} {w : World} {A : Around} {E : Value → Shared → Prop} {s : Shared}
theorem enumBegins1 {v : Value} {o : Obj} {Z : Heap → Prop} {Q : Value → Shared → Prop} (B : Begins v o Z) (z : Z s.heap)
    (k : ∀ h', IsEnum h' (s.heap.objs.size + 1) s.heap.objs.size 0 .none → h'.get? s.heap.objs.size = some o → (∀ b u, s.heap.get? b = some u → h'.get? b = some u) → Q (.ref (s.heap.objs.size + 1)) { s with heap := h' }) :
    wpAny (model prog w) A (call (.type "enumerate") [v]) Q E s := by
  refine callType_new F.called_enumerate (by decide) (F.typeCall_enumerate_1 _) (F.newCall_enumerate_1 _) (fun obj => F.args_object_init_2 obj _) F.entry_enumerate_new (enumMake1 B) ⟨z, ?_⟩
  have sz : (s.heap.push o).objs.size = s.heap.objs.size + 1 := Heap.size_push ..
  show _ ∧ _
  rw [sz]
  have en : IsEnum ((s.heap.push o).push { cls := .type "enumerate", data := .fields #[.none, .bool false, .ref s.heap.objs.size, rawInt 0, .none, .none] }) (s.heap.objs.size + 1) s.heap.objs.size 0 .none := by
    have q := Heap.get?_push_size (s.heap.push o) (o := { cls := .type "enumerate", data := .fields #[.none, .bool false, .ref s.heap.objs.size, rawInt 0, .none, .none] }) rfl
    rw [sz] at q
    exact q
  exact ⟨⟨_, en, rfl⟩, k _ en (Heap.get?_push_of_some _ (Heap.get?_push_size _ B.free)) fun b u x => Heap.get?_push_of_some _ (Heap.get?_push_of_some _ x)⟩
end
/-- the tuple at a, each item in a new pair with its place -/
def IteT (K : PySem.W.Frag) (a : Addr) : It where
  go := fun i H => ∃ (xs : List V) (x : V), SqT K H a xs ∧ xs[i]? = some x
  yld := fun i H v H' => ∃ T x, v = .ref T ∧ H T = none ∧ H' = upd H T (.tup [.int (i : Nat), x]) ∧ ∀ xs, SqT K H a xs → xs[i]? = some x
  stop := fun i H => ∃ xs : List V, SqT K H a xs ∧ xs.length ≤ i
theorem turn_enumT {P : Program} {w : World} {K : PySem.W.Frag} {elts : List Expr} {kk : Nat} {tpos : Pos} (a e it : Addr) (hai : a ≠ it) (hae : a ≠ e) :
    Turn P w K (.Tuple elts kk tpos) (IteT K a) [e, it] e (fun i h => (∃ old, IsEnum h e it ((i : Nat) : Int) old) ∧ h.IsTupleIter it a i ∧ e ≠ it) where
  mem := by simp
  obj := fun i h st b hb => by
    obtain ⟨⟨old, he⟩, ⟨o, ho, hc, hd⟩, _⟩ := st
    rcases List.mem_cons.mp hb with z | hb
    · rw [z]
      exact ⟨_, he, fun v q => nomatch q⟩
    · rw [List.mem_singleton.mp hb]
      exact ⟨o, ho, fun v q => by rw [hd] at q; cases q⟩
  keep := fun i h h' st k => by
    obtain ⟨⟨old, he⟩, hi, hne⟩ := st
    exact ⟨⟨old, k e (by simp) _ he⟩, hi.at fun o q => k it (by simp) o q, hne⟩
  item := by
    intro X hP hw hK hc i pins s σ H E J hf st hg
    subst hP hw hK
    obtain ⟨⟨old, he⟩, hit, hne⟩ := st
    obtain ⟨xs, x, hq, hx⟩ := hg
    obtain ⟨its, rv, p, hz⟩ := J.tuple hq
    have hi : i < its.toArray.size := by
      rw [List.size_toArray, ← rv.length]
      exact (List.getElem?_eq_some_iff.mp hx).1
    have hel : e < s.heap.objs.size := Heap.lt_size he
    have hil : it < s.heap.objs.size := by
      obtain ⟨_, q, _⟩ := hit
      exact Heap.lt_size q
    refine wpAny_pyNext_enum_itemD (Draws.tuple (prog := X.prog) (w := X.w) (A := X.A.in1) (J.ok.hd hc) it a hai its.toArray) he ⟨hit, p⟩ hi hne (by simp [hne, Ne.symm hae]) fun u h' tk hu ho st' hT hsz hk => ?_
    have hu' : its[i]? = some u := by simpa using hu
    obtain ⟨u2, hu2, ru⟩ := rv.get hx
    rw [hu'] at hu2
    cases hu2
    refine ⟨_, rfl, wpAny_letOwnedTupleGo_enum (s := { s with heap := h', toks := tk + 1 }) ho fun h'' he' sb => ?_⟩
    have hT2 : h''.get? s.heap.objs.size = some { cls := .type "tuple", data := .seq #[.int i tk, u] } := (sb.2 _ (Nat.ne_of_gt hel)).trans hT
    have new : ObjOk X.prog X.w (upd H s.heap.objs.size (.tup [.int (i : Nat), x])) h'' s.heap.objs.size (.tup [.int (i : Nat), x]) := ⟨by show 2 ≤ sizeLine; decide, [.int i tk, u], .cons ⟨_, rfl⟩ (.cons ru .nil), ⟨_, hT2, rfl, _, rfl⟩⟩
    have J1 : Inv X pins σ (upd H s.heap.objs.size (.tup [.int (i : Nat), x])) { s with heap := h'', toks := tk + 1 } :=
      J.turnedNew (ch := [e, it]) (fun b ob hb q => by
        have n1 : b ≠ e := fun z => hb (by simp [z])
        have n2 : b ≠ it := fun z => hb (by simp [z])
        exact (sb.2 b n1).trans (hk b ob n1 n2 q)) hf (Nat.le_refl _) new
    refine ⟨.ref s.heap.objs.size, _, J1, rfl, ⟨_, x, rfl, J.hok.fresh (Nat.le_refl _), rfl, fun ys hy => by rw [J.tuple_inj hy hq]; exact hx⟩, ⟨⟨u, ?_⟩, st'.1.at fun o q => (sb.2 it (Ne.symm hne)).trans q, hne⟩, fun b hb => ?_⟩
    · rw [show ((i + 1 : Nat) : Int) = (i : Int) + 1 from by omega]
      exact he'
    · have hb' : b < s.heap.objs.size := by
        rcases List.mem_cons.mp hb with z | hb
        · rw [z]; exact hel
        · rw [List.mem_singleton.mp hb]; exact hil
      rw [upd_ne (Nat.ne_of_lt hb')]
      exact (hf b hb).1
  done := by
    intro X hP hw hK hc i pins s σ H E J hf st hg
    subst hP hw hK
    obtain ⟨⟨old, he⟩, hit, hne⟩ := st
    obtain ⟨xs, hq, hx⟩ := hg
    obtain ⟨its, rv, p, hz⟩ := J.tuple hq
    obtain ⟨f0, f1, f2, f3, f4, f5⟩ := hf it (by simp)
    have hT : s.TypeIs (.ref e) "enumerate" := ⟨_, he, rfl⟩
    unfold pyNext
    refine wpAny_bind (wpAny_attempt (wpAny_callSpecial?_slot (name := Str.ofString "__next__") hT F.slot_enumerate_next (wpAny_call_entry F.slot_enumerate_next hT F.entry_enumerate_next ?_ (F.args_enumerate_next_1 _))))
    show wpAny _ _ (field (.ref e) 2 >>= _) _ _ _
    refine wpAny_bind (wpAny_field he rfl (x := .ref it) rfl ?_)
    refine wpAny_bind (wpAny_nextOf_tuple_end (J.ok.hd hc) hit p (by simp; have := rv.length; omega) fun h' ex he' hx' => ?_)
    obtain ⟨o, ho, hc'⟩ := hx'
    refine wpAny_bind (wpAny_isInstance (T := "StopIteration") (b := true) ⟨o, ho, hc'⟩ isSubtype_stop ?_)
    exact wpAny_pure ⟨rfl, J.turned (t' := s.toks) (fun b o hb q => he' b o hb q) f0 f1 f3 f4 f5⟩
  self := fun A i s Q E st h => let ⟨⟨_, he⟩, _⟩ := st; wpAny_pyIter_enum he h
def iEnumT (K : PySem.W.Frag) (ta : TA) : TI := fun σ H R => ta σ H fun vs H1 => ∃ a xs, vs = [.ref a] ∧ SqT K H1 a xs ∧ R (IteT K a) H1
theorem pi_enumT {X : Cx} {e : Expr} {ta : TA} {p pos tpos : Pos} {elts : List Expr} {kk : Nat} (hg : Gl X "enumerate") (hm : X.mg "enumerate" = none) (ha : PA X [e] ta) (hs : starEach [e] X.env = [(false, eval e X.env)] := by rfl) :
    PI X (.Tuple elts kk tpos) (.Call (.Name "enumerate" p) [e] [] pos) (iEnumT X.K ta) := by
  refine ⟨fun pins s σ H R J h => ?_⟩
  refine Call_ (ld_blt J hg hm boot_enumerate (PyProof.Rows.callWith_type1 (thn (ha.run pos pins s σ H _ J h) fun us s1 ⟨vs, H1, J1, r1, q1⟩ => ?_) hs rfl))
  obtain ⟨a, xs, ex, hq, q⟩ := q1
  subst ex
  obtain rfl := Vals.ref1 r1
  obtain ⟨its, rv, pt, hz⟩ := J1.tuple hq
  have hlt : a < s1.heap.objs.size := pt.lt
  refine enumBegins1 (begins_tuple a its.toArray) pt fun h' he hit hk => wpAny_pyIter_enum he ?_
  have J2 : Inv X pins σ H1 { s1 with heap := h' } := J1.kept (t' := s1.toks) hk
  refine ⟨s1.heap.objs.size + 1, [s1.heap.objs.size + 1, s1.heap.objs.size], _, _, H1, rfl, J2, turn_enumT a (s1.heap.objs.size + 1) s1.heap.objs.size (Nat.ne_of_lt hlt) (Nat.ne_of_lt (Nat.lt_succ_of_lt hlt)), ⟨⟨.none, he⟩, ⟨_, hit, rfl, rfl⟩, Nat.succ_ne_self _⟩, fun b hb => ?_, q⟩
  have hle : s1.heap.objs.size ≤ b := by
    rcases List.mem_cons.mp hb with z | hb
    · rw [z]; exact Nat.le_succ _
    · rw [List.mem_singleton.mp hb]; exact Nat.le_refl _
  exact J1.fpOk hle (J1.hok.fresh hle)
end Ws
set_option Elab.async false
set_option linter.all false
set_option maxRecDepth 100000
set_option maxHeartbeats 4000000
/-! Rules that were lacking: items() of a dict with tuple keys, walked and listed. -/
namespace Ws
open PySem PySem.Spec PyProof.Rows L2
theorem dtAt {P : Program} {w : World} {H : Hp} {h : Heap} {d : Addr} {kvs : List (List Key × V)} (x : ObjOk P w H h d (.dT kvs)) : kvs.length ≤ sizeLine ∧ (d == sysModules) = false ∧ ∃ (o : Obj) (es : Array DictEntry) (ep : Nat), h.get? d = some o ∧ o.ExactDict ∧ o.data = .dict es ep ∧ es.size = kvs.length ∧
    ∀ (i : Nat) (k : List Key) (v : V), kvs[i]? = some (k, v) → ∃ (en : DictEntry) (q : Addr), es[i]? = some en ∧ en.key = .ref q ∧ H q = some (.tup (k.map kV)) ∧ RelV v en.val := by
  obtain ⟨z, hs, xs, pr, o, es, ep, ho, hx, hdt, he, _⟩ := x
  refine ⟨z, hs, o, es, ep, ho, hx, hdt, ?_, fun i k v e => ?_⟩
  · have l1 : es.size = xs.length := size_of_entries he
    have l2 : kvs.length = xs.length := Paired.length pr
    omega
  · obtain ⟨b, hb, e1, e2, e3⟩ := LiI.paired_get pr e
    have q := entry_at he i
    rw [hb] at q
    exact ⟨_, b.2.1, q, rfl, e2, e3⟩
section
variable {X : Cx} {pins : List (Addr × Obj)} {σ : L2.St} {H : Hp} {s : Shared} {d : Addr} {o : Obj}
theorem frzT2 {kvs : List (List Key × V)} (J : Inv X pins σ H s) (h : H d = some (.frz o (.dT kvs))) : kvs.length ≤ sizeLine ∧ (d == sysModules) = false ∧ s.heap.get? d = some o ∧ ∃ (es : Array DictEntry) (ep : Nat), s.heap.DictRaw d es ep ∧ o.data = .dict es ep ∧ es.size = kvs.length ∧
    ∀ (i : Nat) (k : List Key) (v : V), kvs[i]? = some (k, v) → ∃ (en : DictEntry) (q : Addr), es[i]? = some en ∧ en.key = .ref q ∧ H q = some (.tup (k.map kV)) ∧ RelV v en.val := by
  obtain ⟨hd, x⟩ := J.hok d _ h
  obtain ⟨z, hs, o', es, ep, ho, hx, hdt, hsz, ent⟩ := dtAt x
  rw [hd] at ho
  cases ho
  exact ⟨z, hs, hd, es, ep, ⟨_, hd, hx, hdt⟩, hdt, hsz, ent⟩
end
/-- the pairs of the locked dict at d, each a new tuple of the key's own tuple and the value -/
def ItiT (d : Addr) (o : Obj) (kvs : List (List Key × V)) : It where
  go := fun i H => H d = some (.frz o (.dT kvs)) ∧ i < kvs.length
  yld := fun i H x H' => ∃ (T q : Addr) (k : List Key) (v : V), kvs[i]? = some (k, v) ∧ x = .ref T ∧ H q = some (.tup (k.map kV)) ∧ H T = none ∧ H' = upd H T (.tup [.ref q, v])
  stop := fun i H => H d = some (.frz o (.dT kvs)) ∧ kvs.length ≤ i
section
variable {P : Program} {w : World} {K : PySem.W.Frag} {d : Addr} {o : Obj} {es : Array DictEntry} {ep : Nat}
theorem turn_itemsT {kvs : List (List Key × V)} {elts : List Expr} {kk : Nat} {tpos : Pos} (it : Addr) (hod : o.data = .dict es ep) : Turn P w K (.Tuple elts kk tpos) (ItiT d o kvs) [it] it (fun i h => ∃ ok ov, IsItemIter h it d i kvs.length ep ok ov) where
  mem := by simp
  obj := fun i h st b hb => by
    obtain ⟨ok, ov, e⟩ := st
    rw [List.mem_singleton.mp hb]
    exact ⟨_, e, fun v z => nomatch z⟩
  keep := fun i h h' st k => by
    obtain ⟨ok, ov, e⟩ := st
    exact ⟨ok, ov, k it (by simp) _ e⟩
  item := by
    intro X hP hw hK hc i pins s σ H E J hf st hg
    subst hP hw hK
    obtain ⟨hd, hi⟩ := hg
    obtain ⟨z, hs, hgd, es', ep', raw, hdt, hsz, ent⟩ := frzT2 J hd
    obtain ⟨rfl, rfl⟩ := L2.dict_ep hod hdt
    obtain ⟨⟨k, v⟩, hkv⟩ : ∃ p, kvs[i]? = some p := ⟨kvs[i], List.getElem?_eq_getElem hi⟩
    obtain ⟨en, q, he1, hk, hq, rv⟩ := ent i k v hkv
    obtain ⟨ok, ov, he⟩ := st
    rw [← hsz] at he
    have hlt : it < s.heap.objs.size := Heap.lt_size he
    have hie : i < es'.size := by rw [hsz]; exact hi
    have een : es'[i] = en := by
      rw [Array.getElem?_eq_getElem hie] at he1
      exact Option.some.inj he1
    refine wpAny_pyNext_items_item_raw he raw hie fun h' ho hT hz hk' => ?_
    refine ⟨_, rfl, wpAny_letOwnedTupleGo_items (s := { s with heap := h' }) ho fun h'' he' sb => ?_⟩
    have hT2 : h''.get? s.heap.objs.size = some { cls := .type "tuple", data := .seq #[.ref q, en.val] } := by
      rw [een, hk] at hT
      exact (sb.2 _ (Nat.ne_of_gt hlt)).trans hT
    have new : ObjOk X.prog X.w (upd H s.heap.objs.size (.tup [.ref q, v])) h'' s.heap.objs.size (.tup [.ref q, v]) := ⟨by show 2 ≤ sizeLine; decide, [.ref q, en.val], .cons rfl (.cons rv .nil), ⟨_, hT2, rfl, _, rfl⟩⟩
    have J1 : Inv X pins σ (upd H s.heap.objs.size (.tup [.ref q, v])) { s with heap := h'' } :=
      J.turnedNew (t' := s.toks) (ch := [it]) (fun b ob hb e => (sb.2 b (by simpa using hb)).trans (hk' b ob (by simpa using hb) e)) hf (Nat.le_refl _) new
    refine ⟨.ref s.heap.objs.size, _, J1, rfl, ⟨_, q, k, v, hkv, rfl, hq, J.hok.fresh (Nat.le_refl _), rfl⟩, ⟨es'[i].key, es'[i].val, ?_⟩, fun b hb => ?_⟩
    · rw [← hsz]
      exact he'
    · rw [List.mem_singleton.mp hb, upd_ne (Nat.ne_of_lt hlt)]
      exact (hf it (by simp)).1
  done := by
    intro X hP hw hK hc i pins s σ H E J hf st hg
    subst hP hw hK
    obtain ⟨hd, hi⟩ := hg
    obtain ⟨f0, f1, f2, f3, f4, f5⟩ := hf it (by simp)
    obtain ⟨z, hs, hgd, es', ep', raw, hdt, hsz, ent⟩ := frzT2 J hd
    obtain ⟨rfl, rfl⟩ := L2.dict_ep hod hdt
    obtain ⟨ok, ov, he⟩ := st
    rw [← hsz] at he
    exact wpAny_pyNext_items_end_raw (J.ok.hd hc) he raw (by rw [hsz]; exact hi) fun h' eb => ⟨rfl, J.turned (t' := s.toks) (fun b ob hb e => eb b ob hb e) f0 f1 f3 f4 f5⟩
  self := fun A i s Q E st h => let ⟨_, _, e⟩ := st; PySem.W.kcp_self e h
end
def iItemsT (td : TE) : TI := fun σ H R => td σ H fun x H1 => ∃ d o kvs, x = .ref d ∧ H1 d = some (.frz o (.dT kvs)) ∧ R (ItiT d o kvs) H1
theorem pi_itemsT {X : Cx} {e : Expr} {td : TE} {apos cpos tpos : Pos} {elts : List Expr} {kk : Nat} (he : PE X e td) (hbase : attributeBase e "items" X.env (eval e X.env) = eval e X.env := by rfl) (hline : (apos.endLine == cpos.line) = true := by rfl) :
    PI X (.Tuple elts kk tpos) (.Call (.Attribute e "items" apos) [] [] cpos) (iItemsT td) := by
  refine ⟨fun pins s σ H R J h => ?_⟩
  refine wpAny_Call_method (T := "dict") (id := "dict.items") hbase rfl hline F.plainAttrs_dict F.slot_dict_items F.type_dict_items (thn (he.run pins s σ H _ J h) fun u s1 ⟨x, H1, J1, rx, d, o, kvs, ex, hd, q⟩ => ?_)
  subst ex
  obtain rfl : u = Value.ref d := rx
  obtain ⟨z, hs, hgd, es, ep, raw, hdt, hsz, ent⟩ := frzT2 J1 hd
  have nod : ∃ ob, s1.heap.get? d = some ob ∧ ob.dict = none := by
    obtain ⟨ob, h1, h2, _⟩ := id raw
    exact ⟨ob, h1, h2.2.1⟩
  refine ⟨raw.typeIs, fun ob e => by cases e; exact nod, ?_⟩
  have J2 : Inv X pins σ H1 { s1 with heap := s1.heap.push { cls := .type "dict_items", data := .fields #[.ref d] } } := J1.kept (t' := s1.toks) fun b ob q => Heap.get?_push_of_some _ q
  have fin : wpAny (model X.prog X.w) X.A (pyIter (.ref s1.heap.objs.size)) (PIE X pins σ (.Tuple elts kk tpos) R) X.xe { s1 with heap := s1.heap.push { cls := .type "dict_items", data := .fields #[.ref d] } } := by
    refine wpAny_pyIter_items_raw (d := d) ⟨_, Heap.get?_push_size _ rfl, rfl, rfl⟩ (raw.push _) (pi_one (tk := s1.toks) J2 _ (turn_itemsT _ hdt) ⟨.none, .none, ?_⟩ q)
    rw [← hsz]
    exact Heap.get?_push_size _ rfl
  show wpAny _ _ (callWith cpos (.builtin "dict.items") [.ref d] [] []) _ X.xe s1
  exact method_meetsIn F.slot_dict_items F.entry_dict_items rfl (PySem.evalArgs_none ⟨rfl, raw.typeIs, F.args_dict_items_1 _, _, meets_dict_items_raw d hs, ⟨⟨es, ep, raw⟩, fin⟩⟩)
/-! ### list(d.items()) -/
/-- tuples tracked at new addresses -/
def layT (H : Hp) : List (Addr × List V) → Hp
  | [] => H
  | p :: ps => layT (upd H p.1 (.tup p.2)) ps
theorem layT_off {b : Addr} : ∀ (ps : List (Addr × List V)) (H : Hp), b ∉ ps.map (·.1) → layT H ps b = H b
  | [], _, _ => rfl
  | p :: ps, H, h => by
    have h1 : b ≠ p.1 := fun z => h (by rw [z]; exact List.mem_cons_self)
    show layT (upd H p.1 (.tup p.2)) ps b = H b
    rw [layT_off ps _ (fun z => h (List.mem_cons_of_mem _ z)), upd_ne h1]
theorem layT_at : ∀ (ps : List (Addr × List V)) (H : Hp) (p : Addr × List V), (ps.map (·.1)).Nodup → p ∈ ps → layT H ps p.1 = some (.tup p.2)
  | [], _, _, _, h => nomatch h
  | q :: ps, H, p, hn, h => by
    have hn' := List.nodup_cons.mp (show (q.1 :: ps.map (·.1)).Nodup from hn)
    rcases List.mem_cons.mp h with e | h
    · subst e
      show layT (upd H p.1 (.tup p.2)) ps p.1 = _
      rw [layT_off ps _ hn'.1, upd_same]
    · exact layT_at ps _ p hn'.2 h
section
variable {X : Cx} {pins : List (Addr × Obj)} {σ : L2.St} {H : Hp} {s : Shared}
/-- new tuples and a list of them -/
theorem laid_many {h' : Heap} {t' : Nat} {l : Addr} {ps : List (Addr × List V)} (J : Inv X pins σ H s) (hk : ∀ b u, s.heap.get? b = some u → h'.get? b = some u) (hl : s.heap.objs.size ≤ l) (hnl : l ∉ ps.map (·.1)) (hn : (ps.map (·.1)).Nodup) (ha : ∀ p ∈ ps, s.heap.objs.size ≤ p.1)
    (ho : ∀ p ∈ ps, ∃ its, p.2.length ≤ sizeLine ∧ Vals p.2 its ∧ h'.get? p.1 = some { cls := .type "tuple", data := .seq its.toArray }) (hz : ps.length ≤ sizeLine) {c : Nat} (hL : h'.get? l = some { cls := .type "list", data := .seq (ps.map fun p => Value.ref p.1).toArray c }) :
    Inv X pins σ (layT (upd H l (.lst (ps.map fun p => V.ref p.1))) ps) { s with heap := h', toks := t' } := by
  have fr : ∀ a, s.heap.objs.size ≤ a → H a = none := fun a q => J.hok.fresh q
  have nl : H l = none := fr l hl
  have off : ∀ b, b ∉ ps.map (·.1) → b ≠ l → layT (upd H l (.lst (ps.map fun p => V.ref p.1))) ps b = H b := fun b h1 h2 => by rw [layT_off ps _ h1, upd_ne h2]
  have old : ∀ b u, H b = some u → b ∉ ps.map (·.1) ∧ b ≠ l := fun b u e => by
    refine ⟨fun z => ?_, fun z => by rw [z, nl] at e; cases e⟩
    obtain ⟨p, hp, ep⟩ := List.mem_map.mp z
    rw [← ep, fr _ (ha p hp)] at e
    cases e
  have low : ∀ b o, s.heap.get? b = some o → b ∉ ps.map (·.1) ∧ b ≠ l := fun b o e => by
    have hb := Heap.lt_size e
    refine ⟨fun z => ?_, fun z => absurd hb (by rw [z]; exact Nat.not_lt.mpr hl)⟩
    obtain ⟨p, hp, ep⟩ := List.mem_map.mp z
    exact absurd hb (by rw [← ep]; exact Nat.not_lt.mpr (ha p hp))
  have kp : ∀ b u, H b = some u → layT (upd H l (.lst (ps.map fun p => V.ref p.1))) ps b = some u := fun b u e => by
    rw [off b (old b u e).1 (old b u e).2]
    exact e
  refine J.call' (ch := []) rfl ⟨fun b o q _ _ _ => hk b o q, fun b o q _ _ _ => ⟨o.slots, hk b o q⟩, fun b o q n _ => ?_, fun b o q _ => ⟨o, hk b o q⟩, fun b xs q => kp b _ q, fun b o u q => kp b _ q, fun b xs q => ⟨#[], by rw [kp b _ q]; simp⟩⟩ (fun b u q => ?_) J.bare fun b z => by simp at z
  · rw [off b (low b o q).1 (low b o q).2]
    exact n
  · by_cases hb : b ∈ ps.map (·.1)
    · obtain ⟨p, hp, ep⟩ := List.mem_map.mp hb
      subst ep
      rw [layT_at ps _ p hn hp] at q
      cases q
      obtain ⟨its, z, rv, g⟩ := ho p hp
      exact ⟨z, its, rv, _, g, rfl, _, rfl⟩
    · by_cases hb2 : b = l
      · subst hb2
        rw [layT_off ps _ hnl, upd_same] at q
        cases q
        refine ⟨by rw [List.length_map]; exact hz, ps.map fun p => Value.ref p.1, c, ?_, hL⟩
        clear hL hz ho ha hn hnl hb off old low kp
        induction ps with
        | nil => exact .nil
        | cons p ps ih => exact .cons rfl ih
      · rw [off b hb hb2] at q
        exact (J.hok b u q).stay (fun d v _ y => hk d v y) (fun d y => kp d _ y) fun d xs y => kp d _ y
end
/-- what list(d.items()) gives: new pairs, each of a key's own tuple and its value -/
def tListItemsT (te : TE) : TE := fun σ H Q => te σ H fun x H1 => ∃ (d : Addr) (kvs : List (List Key × V)), x = .ref d ∧ Rd H1 d (.dT kvs) ∧
  ∀ (H' : Hp) (p : Addr) (ts : List Addr), Same H1 H' → H1 p = none → (∀ t ∈ ts, H1 t = none) → H' p = some (.lst (ts.map V.ref)) →
    Paired (fun (t : Addr) (c : List Key × V) => ∃ q, H' t = some (.tup [.ref q, c.2]) ∧ H1 q = some (.tup (c.1.map kV))) ts kvs → Q (.ref p) H'
theorem pairs_ex {H : Hp} {h' : Heap} {es : Array DictEntry} : ∀ (as : List Addr) (kvs : List (List Key × V)) (n : Nat), as.length = kvs.length → (∀ (j : Nat) (a : Addr), as[j]? = some a → ∃ e, es[n + j]? = some e ∧ h'.get? a = some { cls := .type "tuple", data := .seq #[e.key, e.val] }) →
    (∀ (j : Nat) (k : List Key) (v : V), kvs[j]? = some (k, v) → ∃ (en : DictEntry) (q : Addr), es[n + j]? = some en ∧ en.key = .ref q ∧ H q = some (.tup (k.map kV)) ∧ L2.RelV v en.val) →
    ∃ ps : List (Addr × List V), ps.map (·.1) = as ∧ Paired (fun (p : Addr × List V) (c : List Key × V) => ∃ (q : Addr) (u : Value), p.2 = [.ref q, c.2] ∧ H q = some (.tup (c.1.map kV)) ∧ L2.RelV c.2 u ∧ h'.get? p.1 = some { cls := .type "tuple", data := .seq #[.ref q, u] }) ps kvs
  | [], [], _, _, _, _ => ⟨[], rfl, .nil⟩
  | [], _ :: _, _, h, _, _ => nomatch h
  | _ :: _, [], _, h, _, _ => nomatch h
  | a :: as, c :: kvs, n, h, ha, hk => by
    obtain ⟨e, e1, e2⟩ := ha 0 a rfl
    obtain ⟨en, q, f1, f2, f3, f4⟩ := hk 0 c.1 c.2 rfl
    rw [e1] at f1
    cases f1
    obtain ⟨ps, g1, g2⟩ := pairs_ex as kvs (n + 1) (Nat.succ.inj h) (fun j b hb => by
      obtain ⟨e', x1, x2⟩ := ha (j + 1) b hb
      exact ⟨e', by rw [show n + 1 + j = n + (j + 1) from by omega]; exact x1, x2⟩) fun j k v hb => by
      obtain ⟨en', q', x1, x2⟩ := hk (j + 1) k v hb
      exact ⟨en', q', by rw [show n + 1 + j = n + (j + 1) from by omega]; exact x1, x2⟩
    rw [f2] at e2
    exact ⟨(a, [.ref q, c.2]) :: ps, by show a :: ps.map (·.1) = _; rw [g1], .cons ⟨q, _, rfl, f3, f4, e2⟩ g2⟩
theorem paired_mem {α β : Type} {F : α → β → Prop} : ∀ {xs : List α} {ys : List β}, Paired F xs ys → ∀ x ∈ xs, ∃ y, F x y
  | _, _, .cons h t, x, hx => by
    rcases List.mem_cons.mp hx with e | hx
    · exact ⟨_, e ▸ h⟩
    · exact paired_mem t x hx
theorem paired_mapL {α β γ : Type} {F : α → β → Prop} {G : γ → β → Prop} (f : α → γ) : ∀ {xs : List α} {ys : List β}, Paired F xs ys → (∀ x ∈ xs, ∀ y, F x y → G (f x) y) → Paired G (xs.map f) ys
  | _, _, .nil, _ => .nil
  | _, _, .cons h t, k => .cons (k _ List.mem_cons_self _ h) (paired_mapL f t fun x hx => k x (List.mem_cons_of_mem _ hx))
theorem pe_listItemsT {X : Cx} {e : Expr} {te : TE} {p pos apos cpos : Pos} (hc : X.calm = true) (he : PE X e te) (hg : Gl X "list") (hm : X.mg "list" = none) (hv : bootBuiltins "list" = some (.type "list") := by decide +kernel) (hbase : attributeBase e "items" X.env (eval e X.env) = eval e X.env := by rfl) (hline : (apos.endLine == cpos.line) = true := by rfl)
    (hs : starEach [.Call (.Attribute e "items" apos) [] [] cpos] X.env = (false, eval (.Call (.Attribute e "items" apos) [] [] cpos) X.env) :: starEach [] X.env := by rfl) :
    PE X (.Call (.Name "list" p) [.Call (.Attribute e "items" apos) [] [] cpos] [] pos) (tListItemsT te) := by
  refine ⟨fun pins s σ H Q J hq => ?_⟩
  refine wpAny_Call_Name_kw (ld_blt J hg hm hv ?_)
  refine PyProof.Rows.callWith_type1 ?_ hs rfl
  rw [hs]
  show wpAny _ _ (spliced ((false, eval (.Call (.Attribute e "items" apos) [] [] cpos) X.env) :: backTo pos (starEach [] X.env))) _ _ s
  refine Calls.spliced_cons ?_
  refine wpAny_Call_method (T := "dict") (id := "dict.items") hbase rfl hline F.plainAttrs_dict F.slot_dict_items F.type_dict_items (thn (he.run pins s σ H _ J hq) fun u s1 ⟨x, H1, J1, rx, d, kvs, ex, hd, q⟩ => ?_)
  subst ex
  obtain rfl : u = Value.ref d := rx
  obtain ⟨hz, hs0, o, es, ep, ho, hx, hdt, hsz, ent⟩ := dtAt (hd.ok J1.hok)
  have raw : s1.heap.DictRaw d es ep := ⟨o, ho, hx, hdt⟩
  have J2 : Inv X pins σ H1 { s1 with heap := s1.heap.push { cls := .type "dict_items", data := .fields #[.ref d] } } := J1.kept (t' := s1.toks) fun b ob q => Heap.get?_push_of_some _ q
  refine ⟨raw.typeIs, fun ob e => by cases e; exact ⟨o, ho, hx.2.1⟩, ?_⟩
  show wpAny _ _ (callWith cpos (.builtin "dict.items") [.ref d] [] []) _ X.xe s1
  refine method_meetsIn F.slot_dict_items F.entry_dict_items rfl (PySem.evalArgs_none ⟨rfl, raw.typeIs, F.args_dict_items_1 _, _, meets_dict_items_raw d hs0, ⟨⟨es, ep, raw⟩, ?_⟩⟩)
  refine Calls.spliced_nil ?_
  refine PySem.W.dil_call (J1.ok.hd hc) ⟨_, Heap.get?_push_size _ rfl, rfl, rfl⟩ (raw.push _) (by omega) fun h' tk acc c as hk hS hl hG hacc => ?_
  obtain ⟨ps, g1, g2⟩ := pairs_ex (H := H1) (h' := h') (es := es) as kvs 0 (by omega) (fun j a hj => by
    obtain ⟨hlt, e⟩ := hG.pairs j a hj
    rw [Nat.zero_add]
    exact ⟨es[j], Array.getElem?_eq_getElem hlt, e⟩) fun j k v hj => by rw [Nat.zero_add]; exact ent j k v hj
  have hps : ps.length = as.length := by rw [← g1, List.length_map]
  have z1 : s1.heap.objs.size < (s1.heap.push { cls := .type "dict_items", data := .fields #[.ref d] }).objs.size := by
    rw [Heap.size_push]
    exact Nat.lt_succ_self _
  have low : ∀ a ∈ as, (s1.heap.push ({ cls := .type "dict_items", data := .fields #[.ref d] } : Obj)).objs.size < a := fun a h => hG.above a h
  have nd : (ps.map (·.1)).Nodup := by
    rw [g1]
    exact hG.rise.imp fun h => Nat.ne_of_lt h
  have hl1 : (s1.heap.push ({ cls := .type "dict_items", data := .fields #[.ref d] } : Obj)).objs.size ∉ ps.map (·.1) := by
    rw [g1]
    exact fun z => absurd (low _ z) (Nat.lt_irrefl _)
  have eacc : acc = (ps.map fun p => Value.ref p.1).toArray := by
    apply Array.toList_inj.mp
    rw [hacc, ← g1, List.map_map] <;> rfl
  have J3 := laid_many (t' := tk) (l := (s1.heap.push ({ cls := .type "dict_items", data := .fields #[.ref d] } : Obj)).objs.size) (ps := ps) (c := c) J2 hk (Nat.le_refl _) hl1 nd (fun p hp => Nat.le_of_lt (low p.1 (by rw [← g1]; exact List.mem_map.mpr ⟨p, hp, rfl⟩)))
    (fun p hp => by
      obtain ⟨y, q, u, e1, e2, e3, e4⟩ := paired_mem g2 p hp
      exact ⟨[.ref q, u], by rw [e1]; show 2 ≤ sizeLine; decide, by rw [e1]; exact .cons rfl (.cons e3 .nil), e4⟩) (by omega) (by rw [← eacc]; exact hS)
  have fresh : ∀ a, (s1.heap.push ({ cls := .type "dict_items", data := .fields #[.ref d] } : Obj)).objs.size ≤ a → H1 a = none := fun a h => J2.hok.fresh h
  refine ⟨.ref _, _, J3, rfl, q _ _ as (fun b o e => ?_) (fresh _ (Nat.le_refl _)) (fun t ht => fresh t (Nat.le_of_lt (low t ht))) ?_ ?_⟩
  · have n1 : b ∉ ps.map (·.1) := fun z => by
      rw [g1] at z
      rw [fresh b (Nat.le_of_lt (low b z))] at e
      cases e
    have n2 : b ≠ (s1.heap.push ({ cls := .type "dict_items", data := .fields #[.ref d] } : Obj)).objs.size := fun z => by
      rw [z, fresh _ (Nat.le_refl _)] at e
      cases e
    rw [layT_off ps _ n1, upd_ne n2]
    exact e
  · rw [layT_off ps _ hl1, upd_same, ← g1, List.map_map] <;> rfl
  · rw [← g1]
    refine paired_mapL (fun p : Addr × List V => p.1) g2 ?_
    intro p hp c hpc
    obtain ⟨q, u, e1, e2, e3, e4⟩ := hpc
    exact ⟨q, by rw [layT_at ps _ p nd hp, e1], e2⟩
end Ws
set_option Elab.async false
set_option linter.all false
set_option maxRecDepth 100000
set_option maxHeartbeats 4000000
/-! Rules that were lacking: dicts with tuple keys from displays and from pairs; tuples whose object is known to have no dict. -/
namespace Ws
open PySem PySem.Spec PyProof.Rows L2
/-- pairs put one by one -/
def mergeT (kvs more : List (List Key × V)) : List (List Key × V) := more.foldl (fun acc c => putK acc c.1 c.2) kvs
theorem kt_merge {H : Hp} : ∀ (more : List (List Key × V)) (xs : List (List Key × Addr × Value)) (kvs : List (List Key × V)) (ys : List (List Key × Addr × Value)), KT H more xs → KT H kvs ys → KT H (mergeT kvs more) (storedAllH ys xs)
  | [], [], _, _, _, r => r
  | [], _ :: _, _, _, h, _ => by cases h
  | _ :: _, [], _, _, h, _ => by cases h
  | p :: more, q :: xs, kvs, ys, h, r => by
    cases h with
    | cons h t =>
      have e := L2.KT.put r p.1 h.2.1 h.2.2
      rw [show storedAllH ys (q :: xs) = storedAllH (storedH ys p.1 q.2.1 q.2.2) xs from by rw [h.1]; rfl]
      exact kt_merge more xs _ _ t e
theorem mergeT_len : ∀ (more kvs : List (List Key × V)), (mergeT kvs more).length ≤ kvs.length + more.length
  | [], kvs => Nat.le_refl _
  | p :: r, kvs => by
    have h1 := mergeT_len r (putK kvs p.1 p.2)
    have h2 := length_putK kvs p.1 p.2
    show (mergeT (putK kvs p.1 p.2) r).length ≤ _
    rw [List.length_cons]
    omega
section
variable {X : Cx} {pins : List (Addr × Obj)} {σ : L2.St} {H : Hp} {s : Shared}
/-- {k: v}, the key a tuple -/
def tDisp1 (tk tv : TE) : TE := fun σ H Q => ∀ p, H p = none → tk σ (upd H p (.dT [])) fun x H1 => tv σ H1 fun y H2 => ∃ b k, x = .ref b ∧ H2 p = some (.dT []) ∧ H2 b = some (.tup (List.map kV k)) ∧ Q (.ref p) (upd H2 p (.dT [(k, y)]))
theorem pe_disp1 {ek ev : Expr} {tk tv : TE} {pos : Pos} (hu : X.A.units + 1 < cLine) (hk : PE X ek tk) (hv : PE X ev tv) : PE X (.Dict [some ek] [ev] pos) (tDisp1 tk tv) := by
  refine ⟨fun pins s σ H Q J q => ?_⟩
  have hn := J.hok.fresh (Nat.le_refl s.heap.objs.size)
  have J1 := J.laid (a := s.heap.objs.size) (o := .dT []) (h' := s.heap.push { cls := .type "dict", data := .dict #[] }) (t' := s.toks) (fun _ _ q => Heap.get?_push_of_some _ q) (Nat.le_refl _) (dt_empty s.heap J.big)
  show wpAny _ _ (eval (.Dict [some ek] [ev] pos) X.env) _ _ s
  rw [arm_eval_Dict, zip_pairTrees [some ek] [ev] X.env pos rfl rfl, dictDisplay_pairs (pairTrees [some ek] [ev] X.env pos) (by intro e; cases e) (by show 1 < 17; decide)]
  refine wpAny_bind (wpAny_standAt (wpAny_bind (wpAny_subDictH (knd := tupleKind (mixKind X.prog X.w)) (by show X.A.units < cLine; omega) (by show 1 ≤ 15; decide) ?_)))
  refine pairTrees_cons_walk (thn (hk.run pins _ σ _ _ J1 (q _ hn)) fun u s1 ⟨x, H1, J2, rx, q1⟩ => thn (hv.run pins s1 σ H1 _ J2 q1) fun w2 s2 ⟨y, H2, J3, ry, b, k, ex, e0, eb, q2⟩ => pairTrees_nil_walk ?_)
  subst ex
  obtain rfl : u = Value.ref b := rx
  obtain ⟨z, hd, xs, rel, dd⟩ := dt_of J3.hok e0
  cases rel
  refine ⟨[(k, b, w2)], ⟨rfl, rfl, key_of J3.hok eb, True.intro⟩, dd, fun h' tk hm hs => wpAny_pure ?_⟩
  obtain ⟨o, es, ep, ho, h2, h3, h4, _, h5⟩ := id hm
  have J4 : Inv X pins σ (upd H2 s.heap.objs.size (.dT [(k, y)])) { s2 with heap := h', toks := tk } := by
    refine d_write J3 (by rw [e0]; exact True.intro) hs ⟨o, ho⟩ ⟨by show 1 ≤ sizeLine; decide, hd, _, .cons ⟨rfl, ?_, ry⟩ .nil, o, es, ep, ho, h2, h3, h4, h5⟩
    show upd H2 s.heap.objs.size (.dT [(k, y)]) b = some (.tup (k.map kV))
    rw [upd_ne (ne_of eb e0 (fun z => nomatch z))]
    exact eb
  exact ⟨.ref s.heap.objs.size, _, J4, rfl, q2⟩

/-! ### tuples as exact objects -/
def tTupF (t : TA) : TE := fun σ H Q => t σ H fun xs H1 => xs.length ≤ sizeLine ∧ ∀ p o, o.dict = none → H1 p = none → Q (.ref p) (upd H1 p (.frz o (.tup xs)))
theorem pe_tupF {es : List Expr} {t : TA} {x1 : Nat} {pos : Pos} (h : PA X es t) : PE X (.Tuple es x1 pos) (tTupF t) := by
  refine ⟨fun pins s σ H Q J hq => ?_⟩
  refine wpAny_Tuple_spliced (thn (h.run pos pins s σ H _ J hq) fun us s1 ⟨xs, H1, J1, r, z, q⟩ => ⟨by rw [← r.length]; exact z, ?_⟩)
  have hf : H1 s1.heap.objs.size = none := J1.hok.fresh (Nat.le_refl _)
  refine ⟨.ref s1.heap.objs.size, _, J1.laid (t' := s1.toks) (o := .frz { cls := .type "tuple", data := .seq us.toArray } (.tup xs)) (fun b u e => Heap.get?_push_of_some _ e) (Nat.le_refl _) ?_, rfl, q _ _ rfl hf⟩
  exact ⟨Heap.get?_push_size _ rfl, z, us, r, ⟨_, Heap.get?_push_size _ rfl, rfl, _, rfl⟩⟩
/-- tuple(a list), as an exact object -/
def rTupF (K : PySem.W.Frag) : List V → Hp → VK → Prop := fun vs H Q => ∃ p ys, vs = [.ref p] ∧ SqL K H p ys ∧ ∀ l o, o.dict = none → H l = none → Q (.ref l) (upd H l (.frz o (.tup ys)))
theorem call_tupF : CallR X (.type "tuple") (rTupF X.K) := by
  intro pins s σ H vs us Q J r h
  obtain ⟨p, ys, rfl, hq, q⟩ := h
  obtain ⟨u, rfl, rx⟩ := vals1 r
  cases rx
  obtain ⟨its, r', pl, hz⟩ := J.list hq
  have hlen := r'.length
  refine call_tuple_list pl.isList (fun h' kp => ?_) (by simp only [List.size_toArray] <;> omega)
  have J1 : Inv X pins σ H { s with heap := h' } := J.kept (t' := s.toks) kp
  have J2 : Inv X pins σ (upd H h'.objs.size (.frz { cls := .type "tuple", data := .seq its.toArray } (.tup ys))) { s with heap := h'.push { cls := .type "tuple", data := .seq its.toArray } } :=
    J1.laid (t' := s.toks) (fun b o e => Heap.get?_push_of_some _ e) (Nat.le_refl _) ⟨Heap.get?_push_size _ rfl, hz, its, r', IsTup.new _ _⟩
  exact ⟨.ref h'.objs.size, _, J2, rfl, q _ _ rfl (J1.hok.fresh (Nat.le_refl _))⟩

/-! ### dict(pairs) -/
/-- a pair (key, value), the key a tuple -/
def PairT (K : PySem.W.Frag) (H : Hp) (t : Addr) (c : List Key × V) : Prop := ∃ q, SqT K H t [.ref q, c.2] ∧ H q = some (.tup (c.1.map kV))
theorem pairT_all (J : Inv X pins σ H s) : ∀ (ts : List Addr) (kvs : List (List Key × V)), Paired (PairT X.K H) ts kvs → ∃ ps : List (List Key × Addr × Value), KT H kvs ps ∧ ps.length = ts.length ∧
    ∀ (j : Nat) (k : List Key) (b : Addr) (v : Value), ps[j]? = some (k, b, v) → (tupleKind (mixKind X.prog X.w)).is s.heap k b ∧ ∃ t, ts[j]? = some t ∧ s.heap.IsTuple t #[.ref b, v]
  | [], [], _ => ⟨[], .nil, rfl, fun j k b v h => by cases h⟩
  | [], _ :: _, h => by cases h
  | _ :: _, [], h => by cases h
  | t :: ts, c :: kvs, h => by
    cases h with
    | cons h r =>
      obtain ⟨ps, k1, k2, k3⟩ := pairT_all J ts kvs r
      obtain ⟨q, hq, hk⟩ := h
      obtain ⟨its, rv, ht, _⟩ := J.tuple hq
      obtain ⟨u, y, rfl, ru, ry⟩ := vals2 rv
      obtain rfl : u = Value.ref q := ru
      refine ⟨(c.1, q, y) :: ps, .cons ⟨rfl, hk, ry⟩ k1, congrArg Nat.succ k2, fun j k b v e => ?_⟩
      cases j with
      | zero =>
        have e := Option.some.inj e
        cases e
        exact ⟨key_of J.hok hk, t, rfl, ht⟩
      | succ j => exact k3 j k b v e
/-- what dict(..) asks and gives: xs a list, or a tuple known as an object, of pairs -/
def rDictT (K : PySem.W.Frag) : List V → Hp → VK → Prop := fun vs H Q => ∃ (a : Addr) (ts : List Addr) (kvs : List (List Key × V)), vs = [.ref a] ∧ (H a = some (.lst (ts.map V.ref)) ∨ ∃ o, o.dict = none ∧ H a = some (.frz o (.tup (ts.map V.ref)))) ∧ Paired (PairT K H) ts kvs ∧
  ∀ p, H p = none → Q (.ref p) (upd H p (.dT (mergeT [] kvs)))
theorem call_dictT (hc : X.calm = true) (hu : X.A.units + 3 < cLine) : CallR X (.type "dict") (rDictT X.K) := by
  intro pins s σ H vs us Q J r h
  obtain ⟨a, ts, kvs, rfl, ha, hp, q⟩ := h
  obtain ⟨u, rfl, rx⟩ := vals1 r
  cases rx
  obtain ⟨ps, kt, hl, at_⟩ := pairT_all J ts kvs hp
  have lk : kvs.length = ps.length := Paired.length kt
  have fin : ∀ (h' : Heap) (tk : Nat), ts.length ≤ sizeLine → h'.DictOfH (tupleKind (mixKind X.prog X.w)) s.heap.objs.size (storedAllH [] ps) → (∀ b o, b ∉ ([] : List Addr) → s.heap.get? b = some o → h'.get? b = some o) → EP X pins σ Q (.ref s.heap.objs.size) { s with heap := h', toks := tk } := fun h' tk hz hd hk => by
    obtain ⟨o, es, ep, ho, h2, h3, h4, _, h5⟩ := id hd
    have hf : H s.heap.objs.size = none := J.hok.fresh (Nat.le_refl _)
    have hm : (s.heap.objs.size == sysModules) = false := beq_eq_false_iff_ne.mpr (Nat.ne_of_gt J.big)
    refine ⟨.ref s.heap.objs.size, _, J.laid (t' := tk) (o := .dT (mergeT [] kvs)) (fun b o e => hk b o (by simp) e) (Nat.le_refl _) ⟨?_, hm, storedAllH [] ps, ?_, o, es, ep, ho, h2, h3, h4, h5⟩, rfl, q _ hf⟩
    · refine Nat.le_trans (mergeT_len kvs []) ?_
      rw [List.length_nil, Nat.zero_add, lk, hl]
      exact hz
    · exact (kt_merge kvs ps [] [] kt .nil).keeps fun c ys e => by
        rw [upd_ne (ne_of_none e hf)]
        exact e
  have prs : ∀ (items : Array Value), items = (ts.map Value.ref).toArray → PairItems s.heap items (fun j => (ts[j]?).getD 0) (ps.map fun p => (Value.ref p.2.1, p.2.2)) := fun items e => by
    subst e
    refine ⟨by rw [List.size_toArray, List.length_map, List.length_map, hl], fun j k v hj => ?_⟩
    rw [List.getElem?_map] at hj
    cases e : ps[j]? with
    | none => rw [e] at hj; cases hj
    | some p =>
      rw [e] at hj
      cases hj
      obtain ⟨_, t, e1, e2⟩ := at_ j p.1 p.2.1 p.2.2 e
      refine ⟨by simp [e1], .inl ?_⟩
      show s.heap.IsTuple ((ts[j]?).getD 0) _
      rw [e1]
      exact e2
  have have_ : PairsHaveH (tupleKind (mixKind X.prog X.w)) (ps.map fun p => (Value.ref p.2.1, p.2.2)).length (PairRel (ps.map fun p => (Value.ref p.2.1, p.2.2))) ps := by
    refine ⟨by rw [List.length_map], fun i key v hi => ?_⟩
    have hi' : (ps.map fun p => (Value.ref p.2.1, p.2.2))[i]? = some (key, v) := hi
    rw [List.getElem?_map] at hi'
    cases e : ps[i]? with
    | none => rw [e] at hi'; cases hi'
    | some p =>
      rw [e] at hi'
      cases hi'
      exact ⟨p.1, p.2.1, rfl, rfl⟩
  have stay : KeysStay (tupleKind (mixKind X.prog X.w)) s.heap s.heap.objs.size [] ps := fun h' hk x hx => by
    obtain ⟨j, hj⟩ := List.mem_iff_getElem?.mp hx
    have is : IsTupleKey (mixKind X.prog X.w) s.heap x.1 x.2.1 := (at_ j x.1 x.2.1 x.2.2 hj).1
    obtain ⟨ob, items, n, ho, r⟩ := is
    exact ⟨ob, items, n, hk _ _ (Nat.ne_of_lt (Heap.lt_size ho)) (by simp) ho, r⟩
  have refs : ∀ (its : List Value), Vals (ts.map V.ref) its → its = ts.map Value.ref := fun its rv => refs_at rv
  rcases ha with ha | ⟨ob, hb, ha⟩
  · obtain ⟨its, rv, pl, hz⟩ := J.list (.inl (.inl ha))
    obtain rfl := refs its rv
    rw [List.length_map] at hz
    obtain ⟨o, n, ho, hcl, hd, hdat⟩ := pl
    exact call_dict_pairsH (knd := tupleKind (mixKind X.prog X.w)) (PairArg.list a (ts.map Value.ref).toArray (fun j => (ts[j]?).getD 0) (ps.map fun p => (Value.ref p.2.1, p.2.2))) (J.ok.hd hc) (by show X.A.units + 2 < cLine; omega) ⟨⟨o, n, ho, hcl, hd, hdat⟩, prs _ rfl⟩ have_ stay (by rw [List.length_map, hl]; exact hz) fun h' tk hd hk => fin h' tk hz hd hk
  · obtain ⟨hg, hz, its, rv, o, ho, hcl, n, hdat⟩ := J.hok a _ ha
    rw [hg] at ho
    cases ho
    obtain rfl := refs its rv
    rw [List.length_map] at hz
    exact call_dict_pairsH (knd := tupleKind (mixKind X.prog X.w)) (PairArg.tuple a (ts.map Value.ref).toArray (fun j => (ts[j]?).getD 0) (ps.map fun p => (Value.ref p.2.1, p.2.2))) (J.ok.hd hc) (by show X.A.units + 2 < cLine; omega) ⟨⟨ob, n, hg, hcl, hb, hdat⟩, prs _ rfl⟩ have_ stay (by rw [List.length_map, hl]; exact hz) fun h' tk hd hk => fin h' tk hz hd hk
end
end Ws
set_option Elab.async false
set_option linter.all false
set_option maxRecDepth 100000
set_option maxHeartbeats 4000000
/-! Rules that were lacking: a staticmethod called through its class; sorted of pairs of a tuple of ints and a fraction; t * 1. -/
namespace Ws
open PySem PySem.Spec PyProof.Rows L2
/-! ### C.m(..), m a staticmethod -/
/-- what of the text is asked: the record at p, the def at g -/
structure SMet (K : PySem.W.Frag) (C : Addr) (m : Str) (p g : Addr) : Prop where
  rd : PySem.W.readsIn K C (.type "type") = true
  ga : PySem.W.specialIn K (.ref C) "__getattribute__" = some (some (.builtin "type.__getattribute__"))
  at_ : PySem.W.findCls K (.ref C) (.type "type") m = some (.get (.builtin "staticmethod.__get__") (.ref p) .none (.ref C))
  rc : ∃ rest, PySem.W.recIn K p "staticmethod" = some (.ref g :: rest)
  kp : PySem.W.keepIn K (.ref g) = true
def tSMeth (C : Addr) (sp : Sp) (E : XK) (ta : TE) (t : TA) : TE := fun σ H Q => ta σ H fun x H1 => x = .ref C ∧ t σ H1 fun vs H2 => sp vs H2 Q E
section
variable {X : Cx} {CX : CXT} {k : Nat} {C p g : Addr} {fd : FuncData} {ps : List Str} {sp : Sp} {E : XK} {o e : Expr} {es : List Expr} {m : Str} {pos apos : Pos} {ta : TE} {t : TA} {pl : Sem Bool}
theorem pe_smeth (he : PE X o ta) (c : SMet X.K C m p g) (F : FnOk X.prog X.w X.K X.mg X.base CX k g fd ps sp) (hb : Binds X.K fd ps []) (hr : Room k X.A) (hx : Passes CX X E) (ha : PA X (e :: es) t)
    (hst : starEach (e :: es) X.env = (false, eval e X.env) :: starEach es X.env := by rfl) (hpl : (backTo pos (starEach es X.env)).any (·.1) = false := by rfl)
    (ht : eval (.Call (.Attribute o m apos) (e :: es) [] pos) X.env = (do
      let ov ← eval o X.env
      standAt apos.atName
      let (f, first) ← holding [ov] (getMethod ov m pl)
      callWith pos f first (backTo pos (starEach (e :: es) X.env)) (backToKw pos (keywordEach [] X.env))) := by rfl) : PE X (.Call (.Attribute o m apos) (e :: es) [] pos) (tSMeth C sp E ta t) := by
  refine ⟨fun pins s σ H Q J h => ?_⟩
  refine PySem.W.methodCall_KW (pl := pl) (thn (he.run pins s σ H _ J h) fun u s1 ⟨x, H1, J1, rx, ex, q⟩ => ?_) ht
  subst ex
  obtain rfl : u = Value.ref C := rx
  obtain ⟨rest, hp⟩ := c.rc
  refine PySem.W.method_cls J1.kIn c.ga (PySem.W.cls_bind J1.kIn c.rd c.at_ (wpAny_call (PySem.W.sm_get (s := { s1 with toks := s1.toks + 1 }) J1.kIn hp (PySem.W.handed_on rfl ?_))))
  have J2 : Inv X pins σ H1 { s1 with toks := s1.toks + 1 } := J1.tok _
  refine PySem.W.callWith_K (h₀ := X.base) J2.ok.mod.kin c.kp (thn (ha.run pos pins _ σ H1 _ J2 q) fun us s2 ⟨vs, H2, J3, r, q2⟩ => ⟨J3.kIn, ?_⟩) hst hpl
  refine run_fn (dvs := []) F hr hb .nil hx J3 r ?_
  rw [List.append_nil]
  exact q2
end

/-! ### sorted(pairs) -/
/-- a key and a fraction, as data -/
def encP (c : List Int × Int × Int) : PyData := .tuple [.tuple (c.1.map PyData.int), .tuple [.int c.2.1, .int c.2.2]]
def lePair (x y : Addr × List Int × Int × Int) : Bool := PySem.W.dataLe false (fun b : Addr × List Int × Int × Int => encP b.2) x y
/-- the addresses of the pairs, sorted -/
def sortP (ts : List Addr) (cs : List (List Int × Int × Int)) : List (Addr × List Int × Int × Int) := (ts.zip cs).mergeSort lePair
theorem alike_ints : ∀ a b : List Int, PySem.W.alikeAll (a.map PyData.int) (b.map PyData.int) = true
  | [], _ => by simp [PySem.W.alikeAll]
  | _ :: _, [] => by simp [PySem.W.alikeAll]
  | x :: a, y :: b => by
    have ih := alike_ints a b
    simp only [List.map_cons, PySem.W.alikeAll, PySem.W.alike, ih, Bool.and_self]
theorem alike_P (c d : List Int × Int × Int) : PySem.W.alike (encP c) (encP d) = true := by
  simp only [encP, PySem.W.alike, PySem.W.alikeAll, alike_ints, Bool.and_self]
theorem lexLt_dec : ∀ a b : List Int, HT.lexLt a b = decide (a < b)
  | [], [] => by simp [HT.lexLt]
  | [], _ :: _ => by simp [HT.lexLt]
  | _ :: _, [] => by simp [HT.lexLt]
  | x :: a, y :: b => by
    rw [HT.lexLt_cons, lexLt_dec a b]
    by_cases h : x = y
    · rw [if_pos h]
      simp [h, List.cons_lt_cons_iff]
    · rw [if_neg h]
      simp [h, List.cons_lt_cons_iff]
theorem eqv_ints : ∀ a b : List Int, PyData.eqv (.tuple (a.map PyData.int)) (.tuple (b.map PyData.int)) = decide (a = b)
  | [], [] => by simp [PyData.eqv, PyData.eqvAll]
  | [], _ :: _ => by simp [PyData.eqv, PyData.eqvAll]
  | _ :: _, [] => by simp [PyData.eqv, PyData.eqvAll]
  | x :: a, y :: b => by
    have ih := eqv_ints a b
    simp only [PyData.eqv] at ih ⊢
    simp only [List.map_cons, PyData.eqvAll, PyData.eqv, ih]
    by_cases h : x = y <;> by_cases h2 : a = b <;> simp [h, h2]
/-- keys that differ are ordered as tuples of ints -/
theorem lePair_keys {x y : Addr × List Int × Int × Int} (h : x.2.1 ≠ y.2.1) : lePair x y = HT.lexLt x.2.1 y.2.1 := by
  have e : PySem.W.dataLt (encP y.2) (encP x.2) = HT.lexLt y.2.1 x.2.1 := by
    unfold encP
    rw [PySem.W.dataLt_pair (by simp only [PySem.W.alike, alike_ints]) (by simp [PySem.W.alike, PySem.W.alikeAll]), eqv_ints, decide_eq_false (fun z => h z.symm), if_neg Bool.false_ne_true, PySem.W.dataLt_tuple]
    show PySem.W.rowLt _ _ = _
    rw [PySem.W.dataLt_ints, lexLt_dec]
  show (!PySem.W.dataLt (encP y.2) (encP x.2)) = _
  rw [e, lexLt_dec, lexLt_dec]
  by_cases q : y.2.1 < x.2.1
  · have q2 : ¬ x.2.1 < y.2.1 := fun z => List.lt_irrefl _ (List.lt_trans q z)
    simp [q, q2]
  · have q2 : x.2.1 < y.2.1 := by
      rcases List.le_iff_lt_or_eq.mp (List.not_lt.mp q) with z | z
      · exact z
      · exact absurd z h
    simp [q, q2]
def rSortP (K : PySem.W.Frag) : List V → Hp → VK → Prop := fun vs H Q => ∃ (a : Addr) (ts : List Addr) (cs : List (List Int × Int × Int)), vs = [.ref a] ∧ SqL K H a (ts.map V.ref) ∧ Paired (fun t c => Dp K H (.ref t) (encP c)) ts cs ∧
  ∀ p, H p = none → Q (.ref p) (upd H p (.lst ((sortP ts cs).map fun z => V.ref z.1)))
theorem each_refs {H : Hp} {K : PySem.W.Frag} : ∀ (ts : List Addr) (cs : List (List Int × Int × Int)), Paired (fun t c => Dp K H (.ref t) (encP c)) ts cs → PySem.W.EachIs (fun v (b : Addr × List Int × Int × Int) => v = Value.ref b.1) (ts.map Value.ref) (ts.zip cs)
  | [], [], _ => .nil
  | [], _ :: _, h => by cases h
  | _ :: _, [], h => by cases h
  | _ :: ts, _ :: cs, h => by
    cases h with
    | cons h r => exact .cons rfl (each_refs ts cs r)
section
variable {X : Cx}
theorem each_reads {pins : List (Addr × Obj)} {σ : L2.St} {H : Hp} {s : Shared} (J : Inv X pins σ H s) : ∀ (ts : List Addr) (cs : List (List Int × Int × Int)), Paired (fun t c => Dp X.K H (.ref t) (encP c)) ts cs →
    PySem.W.EachIs (fun v (b : Addr × List Int × Int × Int) => ∃ as, Reads s.heap v (encP b.2) as) (ts.map Value.ref) (ts.zip cs)
  | [], [], _ => .nil
  | [], _ :: _, h => by cases h
  | _ :: _, [], h => by cases h
  | _ :: ts, _ :: cs, h => by
    cases h with
    | cons h r => exact .cons (Dp.reads J _ _ _ h rfl) (each_reads J ts cs r)
theorem each_refs_out : ∀ {out : List Value} {bs : List (Addr × List Int × Int × Int)}, PySem.W.EachIs (fun v (b : Addr × List Int × Int × Int) => v = Value.ref b.1) out bs → Vals (bs.map fun z => V.ref z.1) out
  | _, _, .nil => .nil
  | _, _, .cons h t => .cons h (each_refs_out t)
theorem depth_P (c : List Int × Int × Int) : (encP c).depth ≤ 8 := by
  have h : ∀ ns : List Int, PyData.depthAll (ns.map PyData.int) ≤ 2 := fun ns => by
    induction ns with
    | nil => simp [PyData.depthAll]
    | cons n ns ih => simp [PyData.depthAll, PyData.depth]; omega
  have := h c.1
  simp [encP, PyData.depth, PyData.depthAll]
  omega
theorem call_sortP (hu : X.A.units + 64 < cLine) : CallR X (.builtin "sorted") (rSortP X.K) := by
  intro pins s σ H vs us Q J r h
  obtain ⟨a, ts, cs, rfl, hs, hp, q⟩ := h
  obtain ⟨its, rv, hl, hz⟩ := J.list hs
  rw [Vals.ref1 r]
  have hlen : ts.length = cs.length := Paired.length hp
  have e : its = ts.map Value.ref := by
    clear q hl hz hs hp hlen r
    induction ts generalizing its with
    | nil => cases rv; rfl
    | cons t ts ih =>
      cases rv with
      | cons h1 h2 => rw [show _ = Value.ref t from h1, ih _ h2] <;> rfl
  subst e
  rw [List.length_map] at hz
  refine PySem.W.sorted_data (bs := ts.zip cs) (enc := fun b => encP b.2) (R := fun v b => v = Value.ref b.1) hl.isList (each_refs ts cs hp) (each_reads J ts cs hp) ?_ ?_ (by rw [List.length_zip]; omega) (fun b _ => by have := depth_P b.2; omega) fun out ho eo => ?_
  · intro d hd d' hd'
    obtain ⟨b, _, rfl⟩ := List.mem_map.mp hd
    obtain ⟨b', _, rfl⟩ := List.mem_map.mp hd'
    exact alike_P _ _
  · refine .inl fun d hd => ?_
    obtain ⟨b, _, rfl⟩ := List.mem_map.mp hd
    exact ⟨_, _, rfl⟩
  · obtain ⟨ep, he'⟩ := PyProof.Rows.sortedAll_at s.heap (ts.map Value.ref) (List.toArray out)
    have hv := each_refs_out eo
    have hl2 : ((sortP ts cs).map fun z => V.ref z.1).length ≤ sizeLine := by
      rw [List.length_map, sortP, List.length_mergeSort, List.length_zip]
      omega
    exact ⟨.ref _, upd H (s.heap.objs.size + 1) (.lst ((sortP ts cs).map fun z => V.ref z.1)), J.laid (t' := s.toks) (fun _ _ => PyProof.Rows.sortedAll_old) (Nat.le_succ _) ⟨hl2, out, ep, hv, he'⟩, rfl, q _ (J.hok.fresh (Nat.le_succ _))⟩
end
theorem sortP_perm (ts : List Addr) (cs : List (List Int × Int × Int)) : (sortP ts cs).Perm (ts.zip cs) := List.mergeSort_perm _ _
end Ws
set_option Elab.async false
set_option linter.all false
set_option maxRecDepth 100000
set_option maxHeartbeats 4000000
namespace Ws
open PySem PySem.Spec PyProof.Rows L2
theorem lePair_total : PySem.W.TotalLe lePair := by
  show PySem.W.TotalLe (PySem.W.dataLe false fun b : Addr × List Int × Int × Int => encP b.2)
  exact PySem.W.sortLe_total _ _ _
/-- keys that are all different stand ascending -/
theorem sortP_asc {ts : List Addr} {cs : List (List Int × Int × Int)} (hn : (cs.map (·.1)).Nodup) : (sortP ts cs).Pairwise fun x y => HT.lexLt x.2.1 y.2.1 = true := by
  have h1 : (sortP ts cs).Pairwise fun x y => lePair x y = true := PySem.W.sort_pairwise lePair_total _
  have h0 : ((ts.zip cs).map fun z => z.2.1).Nodup := by
    have e : (ts.zip cs).map (fun z => z.2.1) = ((ts.zip cs).map (·.2)).map (·.1) := by rw [List.map_map] <;> rfl
    have sub : ((ts.zip cs).map (·.2)).Sublist cs := by
      have : ∀ (a : List Addr) (b : List (List Int × Int × Int)), ((a.zip b).map (·.2)).Sublist b := fun a => by
        induction a with
        | nil => intro b; simp
        | cons x a ih =>
          intro b
          cases b with
          | nil => simp
          | cons y b => exact (ih b).cons₂ y
      exact this ts cs
    rw [e]
    exact hn.sublist (sub.map _)
  have h2 : ((sortP ts cs).map fun z => z.2.1).Nodup := ((sortP_perm ts cs).map _).nodup_iff.mpr h0
  have h3 : (sortP ts cs).Pairwise fun x y => x.2.1 ≠ y.2.1 := List.pairwise_map.mp h2
  refine (h1.and h3).imp fun {x y} h => ?_
  rw [← lePair_keys h.2]
  exact h.1
/-! ### t * 1 is t -/
theorem tuple_mul1 (l : Addr) (items : Array Value) (n : Nat) (dd : Option Addr) (sl : Array (Option Value)) (u : Tok) :
    Meets (Builtin.«tuple.__mul__» ⟨[.ref l, .int 1 u], []⟩) (fun _ R s => s.heap.get? l = some { cls := .type "tuple", dict := dd, data := .seq items n, slots := sl } ∧ R (.ok (.ret (Value.ref l))) s) :=
  .of_wp fun prog w A R s h => by
    obtain ⟨hp, g, d, tk, os⟩ := s
    obtain ⟨hl, h⟩ := h
    have f1 := AutoSeq1.idx_int
    have hT : Shared.TypeIs ⟨hp, g, d, tk, os⟩ (.ref l) "tuple" := ⟨_, hl, rfl⟩
    wp_walk using wpAny_loadPart' hl
    repeat (first
      | (refine wpAny_ite_false (by decide) ?_; wp_walk using wpAny_loadPart' hl)
      | (refine wpAny_ite_true (by simp) ?_; wp_walk using wpAny_loadPart' hl))
    exact ⟨_, rfl, h⟩
section
variable {X : Cx}
def rRep1 (K : PySem.W.Frag) : R2 := fun x y H Q => ∃ l xs, x = .ref l ∧ y = .int 1 ∧ SqT K H l xs ∧ Q (.ref l) H
theorem op_rep1 : OpR X (binaryOp .Mult) (rRep1 X.K) := by
  intro pins s σ H x y v u Q J rx ry h
  obtain ⟨l, xs, rfl, rfl, hT, q⟩ := h
  cases rx
  obtain ⟨t, rfl⟩ := ry
  obtain ⟨its, r, ⟨⟨cls, dd, data, sl⟩, ho, hc, n, hd⟩, hs⟩ := J.tuple hT
  simp only at hc hd
  subst hc hd
  exact wpAny_binaryOp_repeat_ref (T := "tuple") (U := "int") (by decide) ⟨_, ho, rfl⟩ (fun s' => typeIs_int s' 1 t) noFill_tuple_mul F.fills_int_mul F.slot_int_rmul repeat_tuple F.slot_int_index.lookup
    (call_meets F.slot_int_rmul (typeIs_int s 1 t) F.entry_int_rmul (F.args_int_rmul_2 _ _) (int_rmul_tuple 1 t l its.toArray n dd sl)
      ⟨ho, rfl, ⟨_, ho, rfl⟩, call_meets F.slot_tuple_mul ⟨_, ho, rfl⟩ F.entry_tuple_mul (F.args_tuple_mul_2 _ _) (tuple_mul1 l its.toArray n dd sl t) ⟨ho, .ref l, H, J, rfl, q⟩⟩)
end
end Ws
set_option Elab.async false
set_option linter.all false
set_option maxRecDepth 100000
set_option maxHeartbeats 4000000
/-! Part 1: cells, slots, environments, the judgements. -/
namespace Ws
open PySem PySem.Spec L2

/-! ### heaps that grow -/
/-- all that may be read stays: dicts may be locked or unlocked -/
structure Xt (B B' : Hp) : Prop where
  tup : ∀ a xs, B a = some (.tup xs) → B' a = some (.tup xs)
  lst : ∀ a xs, B a = some (.lst xs) → B' a = some (.lst xs)
  ins : ∀ a C dx fs, B a = some (.ins C dx fs) → B' a = some (.ins C dx fs)
  rd : ∀ a u, (∀ o w, u ≠ .frz o w) → Rd B a u → Rd B' a u
  fz : ∀ a o xs, B a = some (.frz o (.tup xs)) → B' a = some (.frz o (.tup xs))
theorem same_xt {B B' : Hp} (s : Same B B') : Xt B B' := by
  refine ⟨fun a xs h => s _ _ h, fun a xs h => s _ _ h, fun a C dx fs h => s _ _ h, fun a u _ h => ?_, fun a o xs h => s _ _ h⟩
  rcases h with h | ⟨o, h⟩
  · exact .inl (s _ _ h)
  · exact .inr ⟨o, s _ _ h⟩
theorem Xt.trans {A B C : Hp} (p : Xt A B) (q : Xt B C) : Xt A C :=
  ⟨fun a xs h => q.tup _ _ (p.tup _ _ h), fun a xs h => q.lst _ _ (p.lst _ _ h), fun a c dx fs h => q.ins _ _ _ _ (p.ins _ _ _ _ h), fun a u z h => q.rd _ _ z (p.rd _ _ z h), fun a o xs h => q.fz _ _ _ (p.fz _ _ _ h)⟩
theorem Xt.sqT {K : PySem.W.Frag} {B B' : Hp} {a : Addr} {xs : List V} (s : Xt B B') (h : SqT K B a xs) : SqT K B' a xs := by
  rcases h with h | h
  · exact .inl (s.rd _ _ (fun _ _ e => nomatch e) h)
  · exact .inr h
theorem Xt.sqL {K : PySem.W.Frag} {B B' : Hp} {a : Addr} {xs : List V} (s : Xt B B') (h : SqL K B a xs) : SqL K B' a xs := by
  rcases h with h | h
  · exact .inl (s.rd _ _ (fun _ _ e => nomatch e) h)
  · exact .inr h
theorem same_new {H : Hp} {p : Addr} {o : HO} (h : H p = none) : Same H (upd H p o) := fun b x e => by
  rw [upd_ne (ne_of_none e h)]
  exact e

/-! ### cells: what is known of a value, lastingly -/
structure Cell where
  sat : Hp → V → Prop
  mono : ∀ {B B' : Hp} {v : V}, Xt B B' → sat B v → sat B' v
abbrev Sats (B : Hp) : List V → List Cell → Prop := Paired fun v c => c.sat B v
theorem sats_mono {B B' : Hp} {vs : List V} {cs : List Cell} (x : Xt B B') (h : Sats B vs cs) : Sats B' vs cs := Paired.mapP h fun _ c s => c.mono x s
theorem sats_len {B : Hp} {vs : List V} {cs : List Cell} (h : Sats B vs cs) : vs.length = cs.length := Paired.length h
def cV (v : V) : Cell := ⟨fun _ w => w = v, fun _ h => h⟩
abbrev cI (n : Int) : Cell := cV (.int n)
abbrev cB (b : Bool) : Cell := cV (.bl b)
abbrev cN : Cell := cV .non
abbrev cZ (s : Str) : Cell := cV (.str s)
abbrev cR (a : Addr) : Cell := cV (.ref a)
/-- a tuple, a list that is read only -/
def cT (cs : List Cell) : Cell := ⟨fun B v => ∃ p xs, v = .ref p ∧ B p = some (.tup xs) ∧ Sats B xs cs, fun x ⟨p, xs, e, h, s⟩ => ⟨p, xs, e, x.tup _ _ h, sats_mono x s⟩⟩
def cL (cs : List Cell) : Cell := ⟨fun B v => ∃ p xs, v = .ref p ∧ B p = some (.lst xs) ∧ Sats B xs cs, fun x ⟨p, xs, e, h, s⟩ => ⟨p, xs, e, x.lst _ _ h, sats_mono x s⟩⟩
/-- a tuple whose object is known to have no dict -/
def cU (cs : List Cell) : Cell := ⟨fun B v => ∃ (p : Addr) (o : Obj) (xs : List V), v = .ref p ∧ o.dict = none ∧ B p = some (.frz o (.tup xs)) ∧ Sats B xs cs, fun x ⟨p, o, xs, e, d, h, s⟩ => ⟨p, o, xs, e, d, x.fz _ _ _ h, sats_mono x s⟩⟩
/-- a tuple of ints -/
abbrev cS (ns : List Int) : Cell := cT (ns.map cI)
/-- a fraction: it may stand in the written part -/
def cF (K : PySem.W.Frag) (n d : Int) : Cell := ⟨fun B v => ∃ p, v = .ref p ∧ SqT K B p [.int n, .int d], fun x ⟨p, e, h⟩ => ⟨p, e, x.sqT h⟩⟩
/-- the pairs of a dict whose keys are tuples of ints -/
abbrev Kvs := List (List Int × Cell)
def keyOf (k : List Int) : List Key := k.map Sum.inl
abbrev SatK (B : Hp) : List (List Key × V) → Kvs → Prop := Paired fun x c => x.1 = keyOf c.1 ∧ c.2.sat B x.2
theorem satk_mono {B B' : Hp} {xs : List (List Key × V)} {cs : Kvs} (x : Xt B B') (h : SatK B xs cs) : SatK B' xs cs := Paired.mapP h fun _ c s => ⟨s.1, c.2.mono x s.2⟩
def cD (kvs : Kvs) : Cell := ⟨fun B v => ∃ p xs, v = .ref p ∧ Rd B p (.dT xs) ∧ SatK B xs kvs, fun x ⟨p, xs, e, h, s⟩ => ⟨p, xs, e, x.rd _ _ (fun _ _ e => nomatch e) h, satk_mono x s⟩⟩

theorem sats_ints {B : Hp} : ∀ {xs : List V} {ns : List Int}, Sats B xs (ns.map cI) → xs = ns.map V.int
  | [], [], _ => rfl
  | _ :: _, [], h => by cases h
  | [], _ :: _, h => by cases h
  | x :: xs, n :: ns, h => by
    cases h with
    | cons a b =>
      have e : x = V.int n := a
      rw [e, sats_ints (ns := ns) b] <;> rfl
theorem ints_sats {B : Hp} : ∀ ns : List Int, Sats B (ns.map V.int) (ns.map cI)
  | [] => .nil
  | _ :: ns => .cons rfl (ints_sats ns)
theorem cS_at {B : Hp} {v : V} {ns : List Int} (h : (cS ns).sat B v) : ∃ p, v = .ref p ∧ B p = some (.tup (ns.map V.int)) := by
  obtain ⟨p, xs, e, hp, s⟩ := h
  rw [sats_ints s] at hp
  exact ⟨p, e, hp⟩
theorem cS_mk {B : Hp} {p : Addr} {ns : List Int} (h : B p = some (.tup (ns.map V.int))) : (cS ns).sat B (.ref p) := ⟨p, _, rfl, h, ints_sats ns⟩
theorem kV_keyOf : ∀ k : List Int, (keyOf k).map kV = k.map V.int
  | [] => rfl
  | _ :: k => congrArg (List.cons _) (kV_keyOf k)
theorem keyOf_inj : ∀ {a b : List Int}, keyOf a = keyOf b → a = b
  | [], [], _ => rfl
  | [], _ :: _, h => by cases h
  | _ :: _, [], h => by cases h
  | x :: a, y :: b, h => by
    have h1 : (Sum.inl x : Key) = Sum.inl y := (List.cons.inj h).1
    have h2 : keyOf a = keyOf b := (List.cons.inj h).2
    rw [Sum.inl.inj h1, keyOf_inj h2]

/-! ### slots -/
/-- im: read only; ml, md: a list, a dict of the def's own that it changes -/
inductive Slot where
  | im (c : Cell)
  | ml (l : List Cell)
  | md (kvs : Kvs)
  | pm (p : Addr) (l : List Cell)
def Slot.isMut : Slot → Bool
  | .im _ => false
  | _ => true
def Slot.ok (H0 B H : Hp) (v : V) : Slot → Prop
  | .im c => c.sat B v
  | .ml l => ∃ p xs, v = .ref p ∧ H0 p = none ∧ B p = none ∧ H p = some (.lst xs) ∧ Sats B xs l
  | .md kvs => ∃ p xs, v = .ref p ∧ H0 p = none ∧ B p = none ∧ H p = some (.dT xs) ∧ SatK B xs kvs
  | .pm p l => v = .ref p ∧ ∃ xs, H0 p = none ∧ B p = none ∧ H p = some (.lst xs) ∧ Sats B xs l
abbrev Cs := List (Option Slot)
/-- from (B, H) to (B', H'): both only grow, and what H had besides B does not come into B -/
structure Step (B H B' H' : Hp) : Prop where
  b : Same B B'
  h : Same H H'
  bh : Same B' H'
  nw : ∀ p o, B p = none → H p = some o → (∀ xs, o ≠ .tup xs) → B' p = none
theorem Step.refl {B H : Hp} (h : Same B H) : Step B H B H := ⟨Same.refl _, Same.refl _, h, fun _ _ e _ _ => e⟩
theorem Step.trans {B H B1 H1 B2 H2 : Hp} (p : Step B H B1 H1) (q : Step B1 H1 B2 H2) : Step B H B2 H2 :=
  ⟨p.b.trans q.b, p.h.trans q.h, q.bh, fun a o e f z => q.nw a o (p.nw a o e f z) (p.h a o f) z⟩
theorem same_none {B H : Hp} {p : Addr} (s : Same B H) (h : H p = none) : B p = none := s.free h
theorem upd_same2 {B H : Hp} {p : Addr} {o : HO} (s : Same B H) : Same (upd B p o) (upd H p o) := fun a u e => by
  by_cases q : a = p
  · subst q
    rw [upd_same] at e ⊢
    exact e
  · rw [upd_ne q] at e ⊢
    exact s _ _ e
theorem Step.new {B H : Hp} {p : Addr} {o : HO} (s : Same B H) (h : H p = none) : Step B H (upd B p o) (upd H p o) :=
  ⟨same_new (same_none s h), same_new h, upd_same2 s, fun a u e f _ => by rw [upd_ne (ne_of_none f h)]; exact e⟩
theorem Step.new' {B0 H0 B H : Hp} {p : Addr} {o : HO} (s : Step B0 H0 B H) (h : H p = none) : Step B0 H0 (upd B p o) (upd H p o) := s.trans (Step.new s.bh h)
structure Env (B0 H0 B H : Hp) (σ : St) (cs : Cs) : Prop where
  st : Step B0 H0 B H
  len : σ.length = cs.length
  sl : ∀ (i : Nat) (s : Slot), cs[i]? = some (some s) → ∃ v, σ[i]? = some (some v) ∧ s.ok H0 B H v
  ap : ∀ (i j : Nat) (s t : Slot) (p : Addr), cs[i]? = some (some s) → cs[j]? = some (some t) → s.isMut = true → t.isMut = true → σ[i]? = some (some (.ref p)) → σ[j]? = some (some (.ref p)) → i = j
theorem Slot.ok_step {H0 B H B' H' : Hp} {v : V} {s : Slot} (g : Step B H B' H') (h : s.ok H0 B H v) : s.ok H0 B' H' v := by
  cases s with
  | im c => exact c.mono (same_xt g.b) h
  | ml l =>
    obtain ⟨p, xs, e, h0, hb, hh, ss⟩ := h
    exact ⟨p, xs, e, h0, g.nw _ _ hb hh (fun _ e => nomatch e), g.h _ _ hh, sats_mono (same_xt g.b) ss⟩
  | md l =>
    obtain ⟨p, xs, e, h0, hb, hh, ss⟩ := h
    exact ⟨p, xs, e, h0, g.nw _ _ hb hh (fun _ e => nomatch e), g.h _ _ hh, satk_mono (same_xt g.b) ss⟩
  | pm p l =>
    obtain ⟨e, xs, h0, hb, hh, ss⟩ := h
    exact ⟨e, xs, h0, g.nw _ _ hb hh (fun _ e => nomatch e), g.h _ _ hh, sats_mono (same_xt g.b) ss⟩
theorem Env.go {B0 H0 B H B' H' : Hp} {σ : St} {cs : Cs} (e : Env B0 H0 B H σ cs) (g : Step B H B' H') : Env B0 H0 B' H' σ cs :=
  ⟨e.st.trans g, e.len, fun i s h => let ⟨v, a, b⟩ := e.sl i s h; ⟨v, a, Slot.ok_step g b⟩, e.ap⟩
theorem Env.bh {B0 H0 B H : Hp} {σ : St} {cs : Cs} (e : Env B0 H0 B H σ cs) : Same B H := e.st.bh
theorem Env.im {B0 H0 B H : Hp} {σ : St} {cs : Cs} {i : Nat} {c : Cell} (e : Env B0 H0 B H σ cs) (h : cs[i]? = some (some (.im c))) : ∃ v, σ[i]? = some (some v) ∧ c.sat B v := e.sl i _ h
/-- a value is stored in slot i -/
theorem Env.set {B0 H0 B H : Hp} {σ : St} {cs : Cs} {i : Nat} {v : V} {c : Cell} (e : Env B0 H0 B H σ cs) (h : c.sat B v) : Env B0 H0 B H (σ.set i (some v)) (cs.set i (some (.im c))) := by
  refine ⟨e.st, by rw [List.length_set, List.length_set]; exact e.len, fun j s hj => ?_, fun j k s t p hj hk ms mt vj vk => ?_⟩
  · by_cases q : i = j
    · subst q
      have hi : i < cs.length := by
        have := (List.getElem?_eq_some_iff.mp hj).1
        rw [List.length_set] at this
        exact this
      rw [List.getElem?_set_self hi] at hj
      cases hj
      exact ⟨v, by rw [List.getElem?_set_self (by rw [e.len]; exact hi)], h⟩
    · rw [List.getElem?_set_ne q] at hj ⊢
      exact e.sl j s hj
  · have nj : ∀ {l : Nat} {r : Slot}, (cs.set i (some (.im c)))[l]? = some (some r) → r.isMut = true → i ≠ l := fun {l r} hl m q => by
      subst q
      have hi : i < cs.length := by
        have := (List.getElem?_eq_some_iff.mp hl).1
        rw [List.length_set] at this
        exact this
      rw [List.getElem?_set_self hi] at hl
      cases hl
      cases m
    have n1 := nj hj ms
    have n2 := nj hk mt
    rw [List.getElem?_set_ne n1] at hj vj
    rw [List.getElem?_set_ne n2] at hk vk
    exact e.ap j k s t p hj hk ms mt vj vk
/-- less is known -/
def Le (cs' cs : Cs) : Prop := cs'.length = cs.length ∧ ∀ (i : Nat) (s : Slot), cs'[i]? = some (some s) → cs[i]? = some (some s)
theorem Env.le {B0 H0 B H : Hp} {σ : St} {cs cs' : Cs} (e : Env B0 H0 B H σ cs) (l : Le cs' cs) : Env B0 H0 B H σ cs' :=
  ⟨e.st, e.len.trans l.1.symm, fun i s h => e.sl i s (l.2 i s h), fun i j s t p hi hj => e.ap i j s t p (l.2 i s hi) (l.2 j t hj)⟩
/-- a cell is weakened -/
theorem Env.weak {B0 H0 B H : Hp} {σ : St} {cs : Cs} {i : Nat} {c c' : Cell} (e : Env B0 H0 B H σ cs) (h : cs[i]? = some (some (.im c))) (w : ∀ B v, c.sat B v → c'.sat B v) : Env B0 H0 B H σ (cs.set i (some (.im c'))) := by
  obtain ⟨v, a, b⟩ := e.im h
  have q := e.set (i := i) (w _ _ b)
  have hi := (List.getElem?_eq_some_iff.mp a).1
  have e2 : σ.set i (some v) = σ := by
    apply List.ext_getElem?
    intro j
    by_cases hj : i = j
    · subst hj
      rw [List.getElem?_set_self hi, a]
    · rw [List.getElem?_set_ne hj]
  rw [e2] at q
  exact q

/-! ### the judgements -/
def EvC (t : TE) (cs : Cs) (c : Cell) : Prop := ∀ (B0 H0 B H : Hp) (σ : St) (Q : VK), Env B0 H0 B H σ cs → (∀ v B' H', Step B H B' H' → c.sat B' v → Q v H') → t σ H Q
def EvT (t : TT) (cs : Cs) (b : Bool) : Prop := ∀ (B0 H0 B H : Hp) (σ : St) (Q : Bool → Hp → Prop), Env B0 H0 B H σ cs → (∀ B' H', Step B H B' H' → Q b H') → t σ H Q
def EvA (t : TA) (cs : Cs) (l : List Cell) : Prop := ∀ (B0 H0 B H : Hp) (σ : St) (Q : List V → Hp → Prop), Env B0 H0 B H σ cs → (∀ vs B' H', Step B H B' H' → Sats B' vs l → Q vs H') → t σ H Q
inductive Out where
  | nx (cs : Cs)
  | rt (c : Cell)
  | bk (cs : Cs)
  | ct (cs : Cs)
def Wants (B0 H0 : Hp) (D : Ends) : Out → Prop
  | .nx cs => ∀ B H σ, Env B0 H0 B H σ cs → D.nx σ H
  | .rt c => ∀ v B H, Step B0 H0 B H → c.sat B v → D.rt v H
  | .bk cs => ∀ B H σ, Env B0 H0 B H σ cs → D.bk σ H
  | .ct cs => ∀ B H σ, Env B0 H0 B H σ cs → D.ct σ H
def EvS (t : TS) (cs : Cs) (o : Out) : Prop := ∀ (B0 H0 B H : Hp) (σ : St) (D : Ends), Env B0 H0 B H σ cs → Wants B0 H0 D o → t D σ H
section
variable {I : Type}
def GE (X : I → Cx) (e : Expr) (cs : Cs) (c : Cell) : Prop := ∃ t, (∀ i, PE (X i) e t) ∧ EvC t cs c
def GT (X : I → Cx) (e : Expr) (cs : Cs) (b : Bool) : Prop := ∃ t, (∀ i, PT (X i) e t) ∧ EvT t cs b
def GW (X : I → Cx) (e : Expr) (cs : Cs) (b : Bool) : Prop := ∃ t, (∀ i, PW (X i) e t) ∧ EvT t cs b
def GA (X : I → Cx) (es : List Expr) (cs : Cs) (l : List Cell) : Prop := ∃ t, (∀ i, PA (X i) es t) ∧ EvA t cs l
def GS (X : I → Cx) (st : Stmt) (cs : Cs) (o : Out) : Prop := ∃ t, (∀ i, PS (X i) st t) ∧ EvS t cs o
def GB (X : I → Cx) (sts : List Stmt) (cs : Cs) (o : Out) : Prop := ∃ t, (∀ i, PSs (X i) sts t) ∧ EvS t cs o
/-- what all contexts of a family share -/
structure Cok (X : I → Cx) (K : PySem.W.Frag) (mg : Str → Option Value) (k : Nat) : Prop where
  K : ∀ i, (X i).K = K
  mg : ∀ i, (X i).mg = mg
  nd : ∀ i, (X i).N.Nodup
  calm : ∀ i, (X i).calm = true
  room : ∀ i, Room k (X i).A
  nox : ∀ i, (X i).xe = fun _ _ => False
end
end Ws
set_option Elab.async false
set_option linter.all false
set_option maxRecDepth 100000
set_option maxHeartbeats 4000000
/-! Part 2: expressions. -/
namespace Ws
open PySem PySem.Spec L2
section
variable {I : Type} {X : I → Cx} {K : PySem.W.Frag} {mg : Str → Option Value} {k : Nat} {cs : Cs} {a b d e : Expr} {es : List Expr} {pos p : Pos} {ca cb cc c c' : Cell} {l : List Cell} {x : Str}
theorem ge_sub (h : GE X e cs c) (w : ∀ B v, c.sat B v → c'.sat B v) : GE X e cs c' := by
  obtain ⟨t, ht, hv⟩ := h
  exact ⟨t, ht, fun B0 H0 B H σ Q E q => hv B0 H0 B H σ Q E fun v B' H' g s => q v B' H' g (w _ _ s)⟩
theorem ge_eq (h : GE X e cs c) (w : c = c') : GE X e cs c' := w ▸ h
theorem ge_le {cs' : Cs} (h : GE X e cs' c) (w : Le cs' cs) : GE X e cs c := by
  obtain ⟨t, ht, hv⟩ := h
  exact ⟨t, ht, fun B0 H0 B H σ Q E q => hv B0 H0 B H σ Q (E.le w) q⟩
theorem ge_var (i : Nat) (hc : cs[i]? = some (some (.im c)) := by rfl) (hN : ∀ j, (X j).N[i]? = some x := by intro _; rfl) (hv : ∀ j, Vis (X j).env.scope x := by intro _; first | exact Or.inl rfl | exact Or.inr (Or.inl rfl) | exact Or.inr (Or.inr rfl))
    (hd : (x == ("__debug__" : Str)) = false := by decide) (hcd : (x == ("__classdict__" : Str)) = false := by decide) : GE X (.Name x pos) cs c := by
  refine ⟨tVar i, fun j => pe_var (hN j) (hv j) hd hcd, fun B0 H0 B H σ Q E q => ?_⟩
  obtain ⟨v, h1, h2⟩ := E.im hc
  exact ⟨v, h1, q v B H (Step.refl E.bh) h2⟩
theorem ge_c {v : V} (h : ∀ j, PE (X j) e (tC v)) : GE X e cs (cV v) := ⟨tC v, h, fun B0 H0 B H σ Q E q => q v B H (Step.refl E.bh) rfl⟩
theorem ge_int {i : Int} {j : Nat} : GE X (.Constant (.int i) j pos) cs (cI i) := ge_c fun _ => pe_int
theorem ge_bl {i : Bool} {j : Nat} : GE X (.Constant (.bool i) j pos) cs (cB i) := ge_c fun _ => pe_bl
theorem ge_non {j : Nat} : GE X (.Constant .none j pos) cs cN := ge_c fun _ => pe_non
theorem ge_str {i : Str} {j : Nat} : GE X (.Constant (.str i) j pos) cs (cZ i) := ge_c fun _ => pe_str
/-- a name of the module -/
theorem ge_glob {v : V} {u : Value} (o : Cok X K mg k) (hm : mg x = some u) (r : RelV v u) (hg : ∀ j, Gl (X j) x := by intro _; rfl) (hd : (x == ("__debug__" : Str)) = false := by decide) : GE X (.Name x pos) cs (cV v) :=
  ge_c fun j => pe_glob (hg j) (by rw [o.mg j]; exact hm) r hd
/-- a built-in class as a value -/
theorem ge_ty {T : String} (o : Cok X K mg k) (hm : mg x = none) (hv : bootBuiltins x = some (.type T) := by decide +kernel) (hg : ∀ j, Gl (X j) x := by intro _; rfl) (hn : x ≠ "__name__" := by decide) (hd : (x == ("__debug__" : Str)) = false := by decide) : GE X (.Name x pos) cs (cV (.ty T)) :=
  ge_c fun j => pe_bltn (hg j) (by rw [o.mg j]; exact hm) hv rfl hn hd

/-! ### operators -/
def RO (r : R2) (ca cb c : Cell) : Prop := ∀ (B H : Hp) (x y : V) (Q : VK), Same B H → ca.sat B x → cb.sat B y → (∀ v B' H', Step B H B' H' → c.sat B' v → Q v H') → r x y H Q
theorem ev_op {r : R2} {ta tb : TE} (ha : EvC ta cs ca) (hb : EvC tb cs cb) (hr : RO r ca cb c) : EvC (tOp r ta tb) cs c := fun B0 H0 B H σ Q E q =>
  ha B0 H0 B H σ _ E fun x B1 H1 g1 s1 => hb B0 H0 B1 H1 σ _ (E.go g1) fun y B2 H2 g2 s2 =>
    hr B2 H2 x y Q g2.bh (ca.mono (same_xt g2.b) s1) s2 fun v B3 H3 g3 s3 => q v B3 H3 ((g1.trans g2).trans g3) s3
theorem ge_op {op : Operator} {r : R2} (ho : ∀ j, OpR (X j) (binaryOp op) r) (hr : RO r ca cb c) (ha : GE X a cs ca) (hb : GE X b cs cb) : GE X (.BinOp a op b pos) cs c := by
  obtain ⟨ta, pa, va⟩ := ha
  obtain ⟨tb, pb, vb⟩ := hb
  exact ⟨tOp r ta tb, fun j => pe_op (ho j) (pa j) (pb j), ev_op va vb hr⟩
theorem ge_cmp {op : CmpOp} {r : R2} (ho : ∀ j, OpR (X j) (compareOp op) r) (hr : RO r ca cb c) (hm : behindInMarks op b = false) (ha : GE X a cs ca) (hb : GE X b cs cb) : GE X (.Compare a [op] [b] pos) cs c := by
  obtain ⟨ta, pa, va⟩ := ha
  obtain ⟨tb, pb, vb⟩ := hb
  exact ⟨tOp r ta tb, fun j => pe_cmpR (ho j) (pa j) (pb j) hm, ev_op va vb hr⟩
theorem ro_I0 {f : Int → Int → V} {i j : Int} : RO (rI0 f) (cI i) (cI j) (cV (f i j)) := fun B H x y Q s hx hy q => ⟨i, j, hx, hy, q _ B H (Step.refl s) rfl⟩
theorem ro_I {C : Int → Int → Prop} {f : Int → Int → V} {i j : Int} (h : C i j) : RO (rI C f) (cI i) (cI j) (cV (f i j)) := fun B H x y Q s hx hy q => ⟨i, j, hx, hy, h, q _ B H (Step.refl s) rfl⟩
section
variable {i j : Int} (ha : GE X a cs (cI i)) (hb : GE X b cs (cI j))
include ha hb
theorem ge_add : GE X (.BinOp a .Add b pos) cs (cI (i + j)) := ge_op (fun _ => op_add) ro_I0 ha hb
theorem ge_subt : GE X (.BinOp a .Sub b pos) cs (cI (i - j)) := ge_op (fun _ => op_sub) ro_I0 ha hb
theorem ge_mul (h : CMul i j) : GE X (.BinOp a .Mult b pos) cs (cI (i * j)) := ge_op (fun _ => op_mul) (ro_I h) ha hb
theorem ge_mod (h : 0 < j) : GE X (.BinOp a .Mod b pos) cs (cI (i % j)) := ge_op (fun _ => op_mod) (ro_I h) ha hb
theorem ge_fdiv (h : CDiv i j) : GE X (.BinOp a .FloorDiv b pos) cs (cI (i / j)) := ge_op (fun _ => op_fdiv) (ro_I h) ha hb
theorem ge_pow (h : CPow i j) : GE X (.BinOp a .Pow b pos) cs (cI (i ^ j.toNat)) := ge_op (fun _ => op_pow) (ro_I h) ha hb
theorem ge_lt : GE X (.Compare a [.Lt] [b] pos) cs (cB (decide (i < j))) := ge_cmp (fun _ => op_lt) ro_I0 (nomark _) ha hb
theorem ge_leq : GE X (.Compare a [.LtE] [b] pos) cs (cB (decide (i ≤ j))) := ge_cmp (fun _ => op_le) ro_I0 (nomark _) ha hb
theorem ge_gt : GE X (.Compare a [.Gt] [b] pos) cs (cB (decide (j < i))) := ge_cmp (fun _ => op_gt) ro_I0 (nomark _) ha hb
theorem ge_ge : GE X (.Compare a [.GtE] [b] pos) cs (cB (decide (j ≤ i))) := ge_cmp (fun _ => op_ge) ro_I0 (nomark _) ha hb
end
theorem ge_neg {i : Int} (ha : GE X a cs (cI i)) : GE X (.UnaryOp .USub a pos) cs (cI (-i)) := by
  obtain ⟨ta, pa, va⟩ := ha
  exact ⟨_, fun j => pe_un un_neg (pa j), fun B0 H0 B H σ Q E q => va B0 H0 B H σ _ E fun x B1 H1 g1 s1 => ⟨i, s1, q _ B1 H1 g1 rfl⟩⟩
/-- == and != of scalars -/
theorem ro_eq {v w : V} (h : scal v w = true) : RO rEq (cV v) (cV w) (cB (decide (v = w))) := fun B H x y Q s hx hy q => by
  cases hx
  cases hy
  exact ⟨h, q _ B H (Step.refl s) rfl⟩
theorem ro_ne {v w : V} (h : scal v w = true) : RO rNe (cV v) (cV w) (cB (!decide (v = w))) := fun B H x y Q s hx hy q => by
  cases hx
  cases hy
  exact ⟨h, q _ B H (Step.refl s) rfl⟩
theorem dec_vi (i j : Int) : decide (V.int i = V.int j) = decide (i = j) := by
  by_cases h : i = j
  · rw [h, decide_eq_true rfl, decide_eq_true rfl]
  · rw [decide_eq_false h, decide_eq_false fun q => h (V.int.inj q)]
theorem dec_vb (i j : Bool) : decide (V.bl i = V.bl j) = decide (i = j) := by
  by_cases h : i = j
  · rw [h, decide_eq_true rfl, decide_eq_true rfl]
  · rw [decide_eq_false h, decide_eq_false fun q => h (V.bl.inj q)]
section
variable {i j : Int} (ha : GE X a cs (cI i)) (hb : GE X b cs (cI j))
include ha hb
theorem ge_eqI : GE X (.Compare a [.Eq] [b] pos) cs (cB (decide (i = j))) := ge_eq (ge_cmp (fun _ => op_eq) (ro_eq rfl) (nomark _) ha hb) (by rw [dec_vi])
theorem ge_neI : GE X (.Compare a [.NotEq] [b] pos) cs (cB (!decide (i = j))) := ge_eq (ge_cmp (fun _ => op_ne) (ro_ne rfl) (nomark _) ha hb) (by rw [dec_vi])
end
theorem ge_neB {i j : Bool} (ha : GE X a cs (cB i)) (hb : GE X b cs (cB j)) : GE X (.Compare a [.NotEq] [b] pos) cs (cB (!decide (i = j))) := ge_eq (ge_cmp (fun _ => op_ne) (ro_ne rfl) (nomark _) ha hb) (by rw [dec_vb])
theorem ge_eqZ {i j : Str} (ha : GE X a cs (cZ i)) (hb : GE X b cs (cZ j)) : GE X (.Compare a [.Eq] [b] pos) cs (cB (decide (V.str i = V.str j))) := ge_cmp (fun _ => op_eq) (ro_eq rfl) (nomark _) ha hb
theorem ge_isN {v : V} (ha : GE X a cs (cV v)) (hb : GE X b cs cN) : GE X (.Compare a [.Is] [b] pos) cs (cB (decide (v = .non))) :=
  ge_cmp (fun _ => op_isN) (fun B H x y Q s hx hy q => by
    cases hx
    cases hy
    exact ⟨rfl, q _ B H (Step.refl s) rfl⟩) (nomark _) ha hb
theorem ge_notN {v : V} (ha : GE X a cs (cV v)) (hb : GE X b cs cN) : GE X (.Compare a [.IsNot] [b] pos) cs (cB (!decide (v = .non))) :=
  ge_cmp (fun _ => op_notN) (fun B H x y Q s hx hy q => by
    cases hx
    cases hy
    exact ⟨rfl, q _ B H (Step.refl s) rfl⟩) (nomark _) ha hb
/-- low <= v <= high -/
theorem ge_chain {i j m : Int} (ha : GE X a cs (cI i)) (hb : GE X b cs (cI j)) (hd : GE X d cs (cI m)) (hm : lastMarks [.LtE, .LtE] [b, d] = false := by with_unfolding_all rfl) :
    GE X (.Compare a [.LtE, .LtE] [b, d] pos) cs (cB (decide (i ≤ j) && decide (j ≤ m))) := by
  obtain ⟨ta, pa, va⟩ := ha
  obtain ⟨tb, pb, vb⟩ := hb
  obtain ⟨td, pd, vd⟩ := hd
  refine ⟨_, fun n => pe_chain op_le op_le (pa n) (pb n) (pd n) hm, fun B0 H0 B H σ Q E q => ?_⟩
  refine va B0 H0 B H σ _ E fun x B1 H1 g1 s1 => vb B0 H0 B1 H1 σ _ (E.go g1) fun y B2 H2 g2 s2 => ?_
  refine ⟨i, j, s1, s2, decide (i ≤ j), rfl, ?_⟩
  generalize decide (i ≤ j) = z at q ⊢
  cases z with
  | false => exact iteF (q _ B2 H2 (g1.trans g2) rfl)
  | true => exact iteT (vd B0 H0 B2 H2 σ _ (E.go (g1.trans g2)) fun z B3 H3 g3 s3 => ⟨j, m, s2, s3, q _ B3 H3 ((g1.trans g2).trans g3) rfl⟩)

/-! ### and, or, not as values -/
theorem ge_one {op : BoolOp} (h : GE X a cs c) : GE X (.BoolOp op [a] pos) cs c := by
  obtain ⟨t, p, v⟩ := h
  exact ⟨t, fun j => pe_one (p j), v⟩
theorem pe_nev {Y : Cx} : PE Y e (fun _ _ _ => False) := ⟨fun _ _ _ _ _ _ h => h.elim⟩
theorem ge_andT (h1 : GE X a cs (cB true)) (h2 : GE X (.BoolOp .And (b :: es) pos) cs c) : GE X (.BoolOp .And (a :: b :: es) pos) cs c := by
  obtain ⟨t, p, v⟩ := h1
  obtain ⟨u, p2, w⟩ := h2
  refine ⟨tAndV t u, fun j => pe_and (p j) (p2 j), fun B0 H0 B H σ Q E q => v B0 H0 B H σ _ E fun x B1 H1 g1 s1 => ⟨true, s1, iteT ?_⟩⟩
  exact w B0 H0 B1 H1 σ _ (E.go g1) fun y B2 H2 g2 s2 => q y B2 H2 (g1.trans g2) s2
theorem ge_andF (h1 : GE X a cs (cB false)) : GE X (.BoolOp .And (a :: b :: es) pos) cs (cB false) := by
  obtain ⟨t, p, v⟩ := h1
  exact ⟨tAndV t (fun _ _ _ => False), fun j => pe_and (p j) pe_nev, fun B0 H0 B H σ Q E q => v B0 H0 B H σ _ E fun x B1 H1 g1 s1 => ⟨false, s1, iteF (q _ B1 H1 g1 rfl)⟩⟩
theorem ge_and {i j : Bool} (h1 : GE X a cs (cB i)) (h2 : i = true → GE X (.BoolOp .And (b :: es) pos) cs (cB j)) : GE X (.BoolOp .And (a :: b :: es) pos) cs (cB (i && j)) := by
  cases i with
  | true => exact ge_andT h1 (h2 rfl)
  | false => exact ge_andF h1
theorem ge_orT (h1 : GE X a cs (cB true)) : GE X (.BoolOp .Or (a :: b :: es) pos) cs (cB true) := by
  obtain ⟨t, p, v⟩ := h1
  exact ⟨tOrV t (fun _ _ _ => False), fun j => pe_or (p j) pe_nev, fun B0 H0 B H σ Q E q => v B0 H0 B H σ _ E fun x B1 H1 g1 s1 => ⟨true, s1, iteT (q _ B1 H1 g1 rfl)⟩⟩
theorem ge_orF (h1 : GE X a cs (cB false)) (h2 : GE X (.BoolOp .Or (b :: es) pos) cs c) : GE X (.BoolOp .Or (a :: b :: es) pos) cs c := by
  obtain ⟨t, p, v⟩ := h1
  obtain ⟨u, p2, w⟩ := h2
  refine ⟨tOrV t u, fun j => pe_or (p j) (p2 j), fun B0 H0 B H σ Q E q => v B0 H0 B H σ _ E fun x B1 H1 g1 s1 => ⟨false, s1, iteF ?_⟩⟩
  exact w B0 H0 B1 H1 σ _ (E.go g1) fun y B2 H2 g2 s2 => q y B2 H2 (g1.trans g2) s2
theorem ge_not {i : Bool} (h : GE X a cs (cB i)) : GE X (.UnaryOp .Not a pos) cs (cB (!i)) := by
  obtain ⟨t, p, v⟩ := h
  exact ⟨_, fun j => pe_not (p j), fun B0 H0 B H σ Q E q => v B0 H0 B H σ _ E fun x B1 H1 g1 s1 => ⟨i, s1, q _ B1 H1 g1 rfl⟩⟩

/-! ### tests -/
theorem gt_val {i : Bool} (h : GE X a cs (cB i)) (he : ∀ j whole, isTrue a (X j).env whole = (do let v ← whole; standAt a.pos; holding [v] (truthy v)) := by intro _ _; rfl) : GT X a cs i := by
  obtain ⟨t, p, v⟩ := h
  exact ⟨tB t, fun j => pt_val (p j) (he j), fun B0 H0 B H σ Q E q => v B0 H0 B H σ _ E fun x B1 H1 g1 s1 => ⟨i, s1, q B1 H1 g1⟩⟩
/-- one comparison as a test -/
theorem gt_cmp {op : CmpOp} {r : R2} {i : Bool} (ho : ∀ j, OpR (X j) (compareOp op) r) (hr : RO r ca cb (cB i)) (hm : behindInMarks op b = false) (ha : GE X a cs ca) (hb : GE X b cs cb) : GT X (.Compare a [op] [b] pos) cs i := by
  obtain ⟨ta, pa, va⟩ := ha
  obtain ⟨tb, pb, vb⟩ := hb
  exact ⟨tTest (tOp r ta tb), fun j => pt_cmpR (ho j) (pa j) (pb j) hm, fun B0 H0 B H σ Q E q => ev_op va vb hr B0 H0 B H σ _ E fun x B1 H1 g1 s1 => ⟨i, s1, q B1 H1 g1⟩⟩
section
variable {i j : Int} (ha : GE X a cs (cI i)) (hb : GE X b cs (cI j))
include ha hb
theorem gt_lt : GT X (.Compare a [.Lt] [b] pos) cs (decide (i < j)) := gt_cmp (fun _ => op_lt) ro_I0 (nomark _) ha hb
theorem gt_leq : GT X (.Compare a [.LtE] [b] pos) cs (decide (i ≤ j)) := gt_cmp (fun _ => op_le) ro_I0 (nomark _) ha hb
theorem gt_gt : GT X (.Compare a [.Gt] [b] pos) cs (decide (j < i)) := gt_cmp (fun _ => op_gt) ro_I0 (nomark _) ha hb
theorem gt_ge : GT X (.Compare a [.GtE] [b] pos) cs (decide (j ≤ i)) := gt_cmp (fun _ => op_ge) ro_I0 (nomark _) ha hb
theorem gt_eqI : GT X (.Compare a [.Eq] [b] pos) cs (decide (i = j)) := by
  have h : GT X (.Compare a [.Eq] [b] pos) cs (decide (V.int i = V.int j)) := gt_cmp (fun _ => op_eq) (ro_eq rfl) (nomark _) ha hb
  rw [dec_vi] at h
  exact h
theorem gt_neI : GT X (.Compare a [.NotEq] [b] pos) cs (!decide (i = j)) := by
  have h : GT X (.Compare a [.NotEq] [b] pos) cs (!decide (V.int i = V.int j)) := gt_cmp (fun _ => op_ne) (ro_ne rfl) (nomark _) ha hb
  rw [dec_vi] at h
  exact h
end
theorem gt_neB {i j : Bool} (ha : GE X a cs (cB i)) (hb : GE X b cs (cB j)) : GT X (.Compare a [.NotEq] [b] pos) cs (!decide (i = j)) := by
  have h : GT X (.Compare a [.NotEq] [b] pos) cs (!decide (V.bl i = V.bl j)) := gt_cmp (fun _ => op_ne) (ro_ne rfl) (nomark _) ha hb
  rw [dec_vb] at h
  exact h
theorem gt_eqZ {i j : Str} (ha : GE X a cs (cZ i)) (hb : GE X b cs (cZ j)) : GT X (.Compare a [.Eq] [b] pos) cs (decide (V.str i = V.str j)) := gt_cmp (fun _ => op_eq) (ro_eq rfl) (nomark _) ha hb
theorem gt_w {i : Bool} (h : GW X a cs i) : GT X a cs i := by
  obtain ⟨t, p, v⟩ := h
  exact ⟨t, fun j => (p j).pt, v⟩
theorem gt_not {i : Bool} (h : GT X a cs i) : GT X (.UnaryOp .Not a pos) cs (!i) := by
  obtain ⟨t, p, v⟩ := h
  exact ⟨_, fun j => pt_not (p j), fun B0 H0 B H σ Q E q => v B0 H0 B H σ _ E fun B1 H1 g1 => q B1 H1 g1⟩
theorem pw_nev {Y : Cx} : PW Y e (fun _ _ _ => False) := ⟨fun _ _ _ _ _ _ _ h => h.elim⟩
theorem gw_or1 {i : Bool} (h : GT X a cs i) : GW X (.BoolOp .Or [a] pos) cs i := by
  obtain ⟨t, p, v⟩ := h
  exact ⟨t, fun j => pw_or1 (p j), v⟩
theorem gw_and1 {i : Bool} (h : GT X a cs i) : GW X (.BoolOp .And [a] pos) cs i := by
  obtain ⟨t, p, v⟩ := h
  exact ⟨t, fun j => pw_and1 (p j), v⟩
theorem gw_or {i j : Bool} (h : GT X a cs i) (h2 : i = false → GW X (.BoolOp .Or (b :: es) pos) cs j) : GW X (.BoolOp .Or (a :: b :: es) pos) cs (i || j) := by
  obtain ⟨t, p, v⟩ := h
  cases i with
  | true => exact ⟨tOr t (fun _ _ _ => False), fun n => pw_or (p n) pw_nev, fun B0 H0 B H σ Q E q => v B0 H0 B H σ _ E fun B1 H1 g1 => iteT (q B1 H1 g1)⟩
  | false =>
    obtain ⟨u, p2, w⟩ := h2 rfl
    exact ⟨tOr t u, fun n => pw_or (p n) (p2 n), fun B0 H0 B H σ Q E q => v B0 H0 B H σ _ E fun B1 H1 g1 => iteF (w B0 H0 B1 H1 σ _ (E.go g1) fun B2 H2 g2 => q B2 H2 (g1.trans g2))⟩
theorem gw_and {i j : Bool} (h : GT X a cs i) (h2 : i = true → GW X (.BoolOp .And (b :: es) pos) cs j) : GW X (.BoolOp .And (a :: b :: es) pos) cs (i && j) := by
  obtain ⟨t, p, v⟩ := h
  cases i with
  | false => exact ⟨tAnd t (fun _ _ _ => False), fun n => pw_and (p n) pw_nev, fun B0 H0 B H σ Q E q => v B0 H0 B H σ _ E fun B1 H1 g1 => iteF (q B1 H1 g1)⟩
  | true =>
    obtain ⟨u, p2, w⟩ := h2 rfl
    exact ⟨tAnd t u, fun n => pw_and (p n) (p2 n), fun B0 H0 B H σ Q E q => v B0 H0 B H σ _ E fun B1 H1 g1 => iteT (w B0 H0 B1 H1 σ _ (E.go g1) fun B2 H2 g2 => q B2 H2 (g1.trans g2))⟩
theorem gt_is {i j : Bool} (h : GT X a cs i) (w : i = j) : GT X a cs j := w ▸ h
/-- a if t else b -/
theorem ge_if {i : Bool} (h : GT X d cs i) (h1 : i = true → GE X a cs c) (h2 : i = false → GE X b cs c) : GE X (.IfExp d a b pos) cs c := by
  obtain ⟨t, p, v⟩ := h
  cases i with
  | true =>
    obtain ⟨u, p2, w⟩ := h1 rfl
    exact ⟨tIf t u (fun _ _ _ => False), fun n => pe_ifExp (p n) (p2 n) pe_nev, fun B0 H0 B H σ Q E q => v B0 H0 B H σ _ E fun B1 H1 g1 => iteT (w B0 H0 B1 H1 σ _ (E.go g1) fun y B2 H2 g2 s2 => q y B2 H2 (g1.trans g2) s2)⟩
  | false =>
    obtain ⟨u, p2, w⟩ := h2 rfl
    exact ⟨tIf t (fun _ _ _ => False) u, fun n => pe_ifExp (p n) pe_nev (p2 n), fun B0 H0 B H σ Q E q => v B0 H0 B H σ _ E fun B1 H1 g1 => iteF (w B0 H0 B1 H1 σ _ (E.go g1) fun y B2 H2 g2 s2 => q y B2 H2 (g1.trans g2) s2)⟩

/-! ### arguments, displays -/
theorem ga_nil : GA X [] cs [] := ⟨tNil, fun _ => pa_nil, fun B0 H0 B H σ Q E q => q [] B H (Step.refl E.bh) .nil⟩
theorem ga_cons (h : GE X e cs c) (hr : GA X es cs l) (hs : ∀ j, starEach (e :: es) (X j).env = (false, eval e (X j).env) :: starEach es (X j).env := by intro _; rfl) : GA X (e :: es) cs (c :: l) := by
  obtain ⟨t, p, v⟩ := h
  obtain ⟨u, p2, w⟩ := hr
  exact ⟨tCons t u, fun j => pa_cons (p j) (p2 j) (hs j), fun B0 H0 B H σ Q E q => v B0 H0 B H σ _ E fun x B1 H1 g1 s1 => w B0 H0 B1 H1 σ _ (E.go g1) fun vs B2 H2 g2 s2 => q _ B2 H2 (g1.trans g2) (.cons (c.mono (same_xt g2.b) s1) s2)⟩
theorem ga_one (h : GE X e cs c) (hs : ∀ j, starEach (e :: []) (X j).env = (false, eval e (X j).env) :: starEach [] (X j).env := by intro _; rfl) : GA X [e] cs [c] := ga_cons h ga_nil hs
/-- one new object -/
theorem new_step {B H : Hp} {p : Addr} {o : HO} (s : Same B H) (h : H p = none) : Step B H (upd B p o) (upd H p o) ∧ (upd B p o) p = some o := ⟨Step.new s h, upd_same⟩
theorem ge_tup {kk : Nat} (h : GA X es cs l) (hl : l.length ≤ 1000 := by exact Nat.le_of_ble_eq_true rfl) : GE X (.Tuple es kk pos) cs (cT l) := by
  obtain ⟨t, p, v⟩ := h
  refine ⟨tTup t, fun j => pe_tup (p j), fun B0 H0 B H σ Q E q => v B0 H0 B H σ _ E fun vs B1 H1 g1 s1 => ⟨?_, fun a ha => ?_⟩⟩
  · rw [sats_len s1]
    exact Nat.le_of_lt (small1000 hl)
  · have g2 := Step.new (o := .tup vs) g1.bh ha
    exact q _ _ _ (g1.trans g2) ⟨a, vs, rfl, upd_same, sats_mono (same_xt g2.b) s1⟩
theorem ge_lst (h : GA X es cs l) (hl : l.length ≤ 1000 := by exact Nat.le_of_ble_eq_true rfl) : GE X (.List es pos) cs (cL l) := by
  obtain ⟨t, p, v⟩ := h
  refine ⟨tLst t, fun j => pe_lst (p j), fun B0 H0 B H σ Q E q => v B0 H0 B H σ _ E fun vs B1 H1 g1 s1 => ⟨?_, fun a ha => ?_⟩⟩
  · rw [sats_len s1]
    exact Nat.le_of_lt (small1000 hl)
  · have g2 := Step.new (o := .lst vs) g1.bh ha
    exact q _ _ _ (g1.trans g2) ⟨a, vs, rfl, upd_same, sats_mono (same_xt g2.b) s1⟩

/-! ### calls -/
/-- a built-in's answer on cells -/
def RC (r : List V → Hp → VK → Prop) (l : List Cell) (c : Cell) : Prop := ∀ (B H : Hp) (vs : List V) (Q : VK), Same B H → Sats B vs l → (∀ v B' H', Step B H B' H' → c.sat B' v → Q v H') → r vs H Q
theorem ge_cB {id : String} {r : List V → Hp → VK → Prop} (o : Cok X K mg k) (hc : ∀ j, CallR (X j) (.builtin id) r) (hr : RC r l c) (hm : mg x = none) (ha : GA X (e :: es) cs l) (hv : bootBuiltins x = some (.builtin id) := by decide +kernel) (hg : ∀ j, Gl (X j) x := by intro _; rfl)
    (hn : x ≠ "__name__" := by decide) (hdb : (x == ("__debug__" : Str)) = false := by decide) (he : ∀ j, starEach (e :: es) (X j).env = (false, eval e (X j).env) :: starEach es (X j).env := by intro _; rfl)
    (hpl : ∀ j, (backTo pos (starEach es (X j).env)).any (·.1) = false := by intro _; rfl) : GE X (.Call (.Name x p) (e :: es) [] pos) cs c := by
  obtain ⟨t, pt, v⟩ := ha
  exact ⟨tCB r t, fun j => pe_callB (hc j) (hg j) (by rw [o.mg j]; exact hm) hv (pt j) hn hdb (he j) (hpl j), fun B0 H0 B H σ Q E q => v B0 H0 B H σ _ E fun vs B1 H1 g1 s1 => hr B1 H1 vs Q g1.bh s1 fun w B2 H2 g2 s2 => q w B2 H2 (g1.trans g2) s2⟩
theorem ge_cT {T : String} {r : List V → Hp → VK → Prop} (o : Cok X K mg k) (hc : ∀ j, CallR (X j) (.type T) r) (hr : RC r l c) (hm : mg x = none) (ha : GA X (e :: es) cs l) (hv : bootBuiltins x = some (.type T) := by decide +kernel) (hg : ∀ j, Gl (X j) x := by intro _; rfl)
    (hn : x ≠ "__name__" := by decide) (hdb : (x == ("__debug__" : Str)) = false := by decide) (he : ∀ j, starEach (e :: es) (X j).env = (false, eval e (X j).env) :: starEach es (X j).env := by intro _; rfl)
    (hpl : ∀ j, (backTo pos (starEach es (X j).env)).any (·.1) = false := by intro _; rfl) : GE X (.Call (.Name x p) (e :: es) [] pos) cs c := by
  obtain ⟨t, pt, v⟩ := ha
  exact ⟨tCB r t, fun j => pe_callTy (hc j) (hg j) (by rw [o.mg j]; exact hm) hv (pt j) hn hdb (he j) (hpl j), fun B0 H0 B H σ Q E q => v B0 H0 B H σ _ E fun vs B1 H1 g1 s1 => hr B1 H1 vs Q g1.bh s1 fun w B2 H2 g2 s2 => q w B2 H2 (g1.trans g2) s2⟩
/-- the promise of a def of the text: G says what comes of which arguments -/
def spC (n : Nat) (G : List Cell → Cell → Prop) : Sp := fun vs H Q _ => vs.length = n ∧ ∃ (l : List Cell) (c : Cell) (B : Hp), G l c ∧ Same B H ∧ Sats B vs l ∧ ∀ v B' H', Step B H B' H' → c.sat B' v → Q v H'
/-- a def of the text, known by its name -/
def FnK (K : PySem.W.Frag) (mg : Str → Option Value) (x : Str) (k n : Nat) (G : List Cell → Cell → Prop) : Prop := ∃ (f : Addr) (fd : FuncData) (ps : List Str), mg x = some (.ref f) ∧ PySem.W.keepIn K (.ref f) = true ∧ Binds K fd ps [] ∧ ps.length = n ∧
  ∀ (P : Program) (w : World) (base : Heap), FnOk P w K mg base CX0 k f fd ps (spC n G)
theorem ge_call {n m : Nat} {G : List Cell → Cell → Prop} (o : Cok X K mg m) (F : FnK K mg x k n G) (ha : GA X (e :: es) cs l) (g : G l c) (hk : k ≤ m := by decide) (hl : l.length = n := by rfl) (hg : ∀ j, Gl (X j) x := by intro _; rfl)
    (hdb : (x == ("__debug__" : Str)) = false := by decide) (he : ∀ j, starEach (e :: es) (X j).env = (false, eval e (X j).env) :: starEach es (X j).env := by intro _; rfl)
    (hpl : ∀ j, (backTo pos (starEach es (X j).env)).any (·.1) = false := by intro _; rfl) : GE X (.Call (.Name x p) (e :: es) [] pos) cs c := by
  obtain ⟨f, fd, ps, hm, hkp, hb, hn, hF⟩ := F
  obtain ⟨t, pt, v⟩ := ha
  refine ⟨tCall (spC n G) [] E0 t, fun j => ?_, fun B0 H0 B H σ Q E q => v B0 H0 B H σ _ E fun vs B1 H1 g1 s1 => ?_⟩
  · exact pe_call (k := k) (fd := fd) (ps := ps) (ds := []) (by rw [o.K j, o.mg j]; exact hF _ _ _) ((o.room j).mono hk) (hg j) (by rw [o.mg j]; exact hm) (by rw [o.K j]; exact hkp) (by rw [o.K j]; exact hb) .nil pass0 (pt j) hdb (he j) (hpl j)
  · show spC n G (vs ++ []) H1 Q E0
    rw [List.append_nil]
    exact ⟨(sats_len s1).trans hl, l, c, B1, g, g1.bh, s1, fun w B2 H2 g2 s2 => q w B2 H2 (g1.trans g2) s2⟩
end
end Ws
set_option Elab.async false
set_option linter.all false
set_option maxRecDepth 100000
set_option maxHeartbeats 4000000
/-! Part 3: built-ins, subscripts, slices, displays with stars, on cells. -/
namespace Ws
open PySem PySem.Spec L2
section
variable {I : Type} {X : I → Cx} {K : PySem.W.Frag} {mg : Str → Option Value} {k : Nat} {cs : Cs} {a b d e : Expr} {es : List Expr} {pos p : Pos} {ca cb cc c c' : Cell} {l l2 : List Cell} {x : Str}
/-- an answer that makes nothing -/
theorem rc_pure {r : List V → Hp → VK → Prop} (h : ∀ (B H : Hp) (vs : List V), Same B H → Sats B vs l → ∃ v, c.sat B v ∧ ∀ Q : VK, Q v H → r vs H Q) : RC r l c := fun B H vs Q s hs q => by
  obtain ⟨v, hv, g⟩ := h B H vs s hs
  exact g Q (q v B H (Step.refl s) hv)
theorem sats1 {B : Hp} {vs : List V} (h : Sats B vs [c]) : ∃ v, vs = [v] ∧ c.sat B v := by
  cases h with
  | cons h t => cases t; exact ⟨_, rfl, h⟩
theorem sats2 {B : Hp} {vs : List V} (h : Sats B vs [c, c']) : ∃ v w, vs = [v, w] ∧ c.sat B v ∧ c'.sat B w := by
  cases h with
  | cons h t =>
    obtain ⟨w, e, hw⟩ := sats1 t
    exact ⟨_, w, by rw [e], h, hw⟩
theorem sats3 {B : Hp} {vs : List V} (h : Sats B vs [c, c', cc]) : ∃ v w z, vs = [v, w, z] ∧ c.sat B v ∧ c'.sat B w ∧ cc.sat B z := by
  cases h with
  | cons h t =>
    obtain ⟨w, z, e, hw, hz⟩ := sats2 t
    exact ⟨_, w, z, by rw [e], h, hw, hz⟩
theorem same_at {B H : Hp} {q : Addr} {o : HO} (s : Same B H) (h : B q = some o) : H q = some o := s _ _ h

/-! ### len, tuple, min, max, abs, int -/
theorem rc_lenT : RC (fun xs H Q => ∃ p ys, xs = [.ref p] ∧ (SqL K H p ys ∨ SqT K H p ys) ∧ Q (.int ys.length) H) [cT l] (cI l.length) := rc_pure fun B H vs s hs => by
  obtain ⟨v, rfl, q, xs, rfl, hp, ss⟩ := sats1 hs
  exact ⟨.int l.length, rfl, fun Q h => ⟨q, xs, rfl, .inr (SqT.of (s _ _ hp)), by rw [sats_len ss]; exact h⟩⟩
theorem rc_lenU : RC (fun xs H Q => ∃ p ys, xs = [.ref p] ∧ (SqL K H p ys ∨ SqT K H p ys) ∧ Q (.int ys.length) H) [cU l] (cI l.length) := rc_pure fun B H vs s hs => by
  obtain ⟨v, rfl, q, o, xs, rfl, hd, hp, ss⟩ := sats1 hs
  exact ⟨.int l.length, rfl, fun Q h => ⟨q, xs, rfl, .inr (.inl (.inr ⟨o, s _ _ hp⟩)), by rw [sats_len ss]; exact h⟩⟩
theorem rc_lenL : RC (fun xs H Q => ∃ p ys, xs = [.ref p] ∧ (SqL K H p ys ∨ SqT K H p ys) ∧ Q (.int ys.length) H) [cL l] (cI l.length) := rc_pure fun B H vs s hs => by
  obtain ⟨v, rfl, q, xs, rfl, hp, ss⟩ := sats1 hs
  exact ⟨.int l.length, rfl, fun Q h => ⟨q, xs, rfl, .inl (SqL.of (s _ _ hp)), by rw [sats_len ss]; exact h⟩⟩
section
variable (o : Cok X K mg k)
include o
theorem cr_len (j : I) : CallR (X j) (.builtin "len") (fun xs H Q => ∃ p ys, xs = [.ref p] ∧ (SqL K H p ys ∨ SqT K H p ys) ∧ Q (.int ys.length) H) := by
  have h := call_len_seq (X := X j)
  rw [o.K j] at h
  exact h
theorem ge_len (hm : mg "len" = none) (ha : GE X e cs (cT l)) (hs : ∀ j, starEach [e] (X j).env = (false, eval e (X j).env) :: starEach [] (X j).env := by intro _; rfl) (hg : ∀ j, Gl (X j) "len" := by intro _; rfl) : GE X (.Call (.Name "len" p) [e] [] pos) cs (cI l.length) :=
  ge_cB o (cr_len o) rc_lenT hm (ga_one ha hs) (PySem.boot_len) hg (by decide) (by decide) hs (fun _ => rfl)
theorem ge_lenU (hm : mg "len" = none) (ha : GE X e cs (cU l)) (hs : ∀ j, starEach [e] (X j).env = (false, eval e (X j).env) :: starEach [] (X j).env := by intro _; rfl) (hg : ∀ j, Gl (X j) "len" := by intro _; rfl) : GE X (.Call (.Name "len" p) [e] [] pos) cs (cI l.length) :=
  ge_cB o (cr_len o) rc_lenU hm (ga_one ha hs) (PySem.boot_len) hg (by decide) (by decide) hs (fun _ => rfl)
theorem ge_lenL (hm : mg "len" = none) (ha : GE X e cs (cL l)) (hs : ∀ j, starEach [e] (X j).env = (false, eval e (X j).env) :: starEach [] (X j).env := by intro _; rfl) (hg : ∀ j, Gl (X j) "len" := by intro _; rfl) : GE X (.Call (.Name "len" p) [e] [] pos) cs (cI l.length) :=
  ge_cB o (cr_len o) rc_lenL hm (ga_one ha hs) (PySem.boot_len) hg (by decide) (by decide) hs (fun _ => rfl)
/-- tuple(a list) -/
theorem ge_tupL (hm : mg "tuple" = none) (ha : GE X e cs (cL l)) (hs : ∀ j, starEach [e] (X j).env = (false, eval e (X j).env) :: starEach [] (X j).env := by intro _; rfl) (hg : ∀ j, Gl (X j) "tuple" := by intro _; rfl) : GE X (.Call (.Name "tuple" p) [e] [] pos) cs (cT l) :=
  ge_cT o (fun j => by have h := call_tuple_of (X := X j); rw [o.K j] at h; exact h) (fun B H vs Q s hs q => by
    obtain ⟨v, rfl, a, xs, rfl, hp, ss⟩ := sats1 hs
    refine ⟨a, xs, rfl, .inl ⟨SqL.of (s _ _ hp), fun t ht => ?_⟩⟩
    have g := Step.new (o := .tup xs) s ht
    exact q _ _ _ g ⟨t, xs, rfl, upd_same, sats_mono (same_xt g.b) ss⟩) hm (ga_one ha hs) PyProof.Rows.boot_tuple hg (by decide) (by decide) hs (fun _ => rfl)
/-- .. as an exact object -/
theorem ge_tupU (hm : mg "tuple" = none) (ha : GE X e cs (cL l)) (hs : ∀ j, starEach [e] (X j).env = (false, eval e (X j).env) :: starEach [] (X j).env := by intro _; rfl) (hg : ∀ j, Gl (X j) "tuple" := by intro _; rfl) : GE X (.Call (.Name "tuple" p) [e] [] pos) cs (cU l) :=
  ge_cT o (fun j => by have h := call_tupF (X := X j); rw [o.K j] at h; exact h) (fun B H vs Q s hs q => by
    obtain ⟨v, rfl, a, xs, rfl, hp, ss⟩ := sats1 hs
    refine ⟨a, xs, rfl, SqL.of (s _ _ hp), fun t ob hd ht => ?_⟩
    have g := Step.new (o := .frz ob (.tup xs)) s ht
    exact q _ _ _ g ⟨t, ob, xs, rfl, hd, upd_same, sats_mono (same_xt g.b) ss⟩) hm (ga_one ha hs) PyProof.Rows.boot_tuple hg (by decide) (by decide) hs (fun _ => rfl)
theorem ge_abs {i : Int} (hm : mg "abs" = none) (ha : GE X e cs (cI i)) (hs : ∀ j, starEach [e] (X j).env = (false, eval e (X j).env) :: starEach [] (X j).env := by intro _; rfl) (hg : ∀ j, Gl (X j) "abs" := by intro _; rfl) : GE X (.Call (.Name "abs" p) [e] [] pos) cs (cI (if i < 0 then -i else i)) :=
  ge_cB o (fun j => call_abs) (rc_pure fun B H vs s hs => by
    obtain ⟨v, rfl, rfl⟩ := sats1 hs
    exact ⟨_, rfl, fun Q h => ⟨i, rfl, h⟩⟩) hm (ga_one ha hs) (by decide +kernel) hg (by decide) (by decide) hs (fun _ => rfl)
theorem ge_intI {i : Int} (hm : mg "int" = none) (ha : GE X e cs (cI i)) (hs : ∀ j, starEach [e] (X j).env = (false, eval e (X j).env) :: starEach [] (X j).env := by intro _; rfl) (hg : ∀ j, Gl (X j) "int" := by intro _; rfl) : GE X (.Call (.Name "int" p) [e] [] pos) cs (cI i) :=
  ge_cT o (fun j => call_int1) (rc_pure fun B H vs s hs => by
    obtain ⟨v, rfl, rfl⟩ := sats1 hs
    exact ⟨_, rfl, fun Q h => .inl ⟨i, rfl, h⟩⟩) hm (ga_one ha hs) PyProof.Rows.boot_int hg (by decide) (by decide) hs (fun _ => rfl)
theorem ge_intB {i : Bool} (hm : mg "int" = none) (ha : GE X e cs (cB i)) (hs : ∀ j, starEach [e] (X j).env = (false, eval e (X j).env) :: starEach [] (X j).env := by intro _; rfl) (hg : ∀ j, Gl (X j) "int" := by intro _; rfl) : GE X (.Call (.Name "int" p) [e] [] pos) cs (cI (if i then 1 else 0)) :=
  ge_cT o (fun j => call_int1) (rc_pure fun B H vs s hs => by
    obtain ⟨v, rfl, rfl⟩ := sats1 hs
    exact ⟨_, rfl, fun Q h => .inr ⟨i, rfl, h⟩⟩) hm (ga_one ha hs) PyProof.Rows.boot_int hg (by decide) (by decide) hs (fun _ => rfl)
theorem ge_min2 {i j : Int} (hm : mg "min" = none) (ha : GE X a cs (cI i)) (hb : GE X b cs (cI j)) (h1 : ∀ n, starEach [a, b] (X n).env = (false, eval a (X n).env) :: starEach [b] (X n).env := by intro _; rfl) (h2 : ∀ n, starEach [b] (X n).env = (false, eval b (X n).env) :: starEach [] (X n).env := by intro _; rfl)
    (h3 : ∀ n, (backTo pos (starEach [b] (X n).env)).any (·.1) = false := by intro _; rfl) (hg : ∀ n, Gl (X n) "min" := by intro _; rfl) : GE X (.Call (.Name "min" p) [a, b] [] pos) cs (cI (min i j)) :=
  ge_cB o (fun n => call_min2 (o.calm n)) (rc_pure fun B H vs s hs => by
    obtain ⟨v, w, rfl, rfl, rfl⟩ := sats2 hs
    exact ⟨_, rfl, fun Q h => ⟨i, j, rfl, by rw [show (if j < i then j else i) = min i j from by omega]; exact h⟩⟩) hm (ga_cons ha (ga_one hb h2) h1) PyProof.Rows.boot_min hg (by decide) (by decide) h1 h3
theorem ge_max2 {i j : Int} (hm : mg "max" = none) (ha : GE X a cs (cI i)) (hb : GE X b cs (cI j)) (h1 : ∀ n, starEach [a, b] (X n).env = (false, eval a (X n).env) :: starEach [b] (X n).env := by intro _; rfl) (h2 : ∀ n, starEach [b] (X n).env = (false, eval b (X n).env) :: starEach [] (X n).env := by intro _; rfl)
    (h3 : ∀ n, (backTo pos (starEach [b] (X n).env)).any (·.1) = false := by intro _; rfl) (hg : ∀ n, Gl (X n) "max" := by intro _; rfl) : GE X (.Call (.Name "max" p) [a, b] [] pos) cs (cI (max i j)) :=
  ge_cB o (fun n => call_max2 (o.calm n)) (rc_pure fun B H vs s hs => by
    obtain ⟨v, w, rfl, rfl, rfl⟩ := sats2 hs
    exact ⟨_, rfl, fun Q h => ⟨i, j, rfl, by rw [show (if j > i then j else i) = max i j from by omega]; exact h⟩⟩) hm (ga_cons ha (ga_one hb h2) h1) PyProof.Rows.boot_max hg (by decide) (by decide) h1 h3
theorem ge_min3 {i j m : Int} (hm : mg "min" = none) (ha : GE X a cs (cI i)) (hb : GE X b cs (cI j)) (hd : GE X d cs (cI m)) (h1 : ∀ n, starEach [a, b, d] (X n).env = (false, eval a (X n).env) :: starEach [b, d] (X n).env := by intro _; rfl)
    (h2 : ∀ n, starEach [b, d] (X n).env = (false, eval b (X n).env) :: starEach [d] (X n).env := by intro _; rfl) (h4 : ∀ n, starEach [d] (X n).env = (false, eval d (X n).env) :: starEach [] (X n).env := by intro _; rfl)
    (h3 : ∀ n, (backTo pos (starEach [b, d] (X n).env)).any (·.1) = false := by intro _; rfl) (hg : ∀ n, Gl (X n) "min" := by intro _; rfl) : GE X (.Call (.Name "min" p) [a, b, d] [] pos) cs (cI (min (min i j) m)) :=
  ge_cB o (fun n => call_min3Nu (o.calm n)) (rc_pure fun B H vs s hs => by
    obtain ⟨v, w, z, rfl, rfl, rfl, rfl⟩ := sats3 hs
    refine ⟨_, rfl, fun Q h => ⟨_, _, _, _, rfl, ?_, h⟩⟩
    show (some (if decide (j < i) = true then V.int j else V.int i)).bind (fun m' => nuMin2 m' (V.int m)) = some (V.int (min (min i j) m))
    by_cases q : j < i
    · rw [if_pos (decide_eq_true q)]
      show some (if decide (m < j) = true then V.int m else V.int j) = _
      by_cases q2 : m < j
      · rw [if_pos (decide_eq_true q2)]
        exact congrArg some (congrArg V.int (by omega))
      · rw [if_neg (by simp [q2])]
        exact congrArg some (congrArg V.int (by omega))
    · rw [if_neg (by simp [q])]
      show some (if decide (m < i) = true then V.int m else V.int i) = _
      by_cases q2 : m < i
      · rw [if_pos (decide_eq_true q2)]
        exact congrArg some (congrArg V.int (by omega))
      · rw [if_neg (by simp [q2])]
        exact congrArg some (congrArg V.int (by omega))) hm (ga_cons ha (ga_cons hb (ga_one hd h4) h2) h1) PyProof.Rows.boot_min hg (by decide) (by decide) h1 h3
/-! ### sum, all, sorted -/
theorem ge_sumT {ns : List Int} (hm : mg "sum" = none) (ha : GE X e cs (cS ns)) (hs : ∀ j, starEach [e] (X j).env = (false, eval e (X j).env) :: starEach [] (X j).env := by intro _; rfl) (hg : ∀ j, Gl (X j) "sum" := by intro _; rfl) : GE X (.Call (.Name "sum" p) [e] [] pos) cs (cI ns.sum) :=
  ge_cB o (fun j => by have h := cr_sumT (X := X j) (o.calm j); rw [o.K j] at h; exact h) (rc_pure fun B H vs s hs => by
    obtain ⟨v, rfl, hv⟩ := sats1 hs
    obtain ⟨q, rfl, hp⟩ := cS_at hv
    exact ⟨_, rfl, fun Q h => ⟨q, ns, rfl, SqT.of (s _ _ hp), h⟩⟩) hm (ga_one ha hs) PyProof.Rows.boot_sum hg (by decide) (by decide) hs (fun _ => rfl)
theorem ge_sumL {ns : List Int} (hm : mg "sum" = none) (ha : GE X e cs (cL (ns.map cI))) (hs : ∀ j, starEach [e] (X j).env = (false, eval e (X j).env) :: starEach [] (X j).env := by intro _; rfl) (hg : ∀ j, Gl (X j) "sum" := by intro _; rfl) : GE X (.Call (.Name "sum" p) [e] [] pos) cs (cI ns.sum) :=
  ge_cB o (fun j => by have h := cr_sum (X := X j) (o.calm j); rw [o.K j] at h; exact h) (rc_pure fun B H vs s hs => by
    obtain ⟨v, rfl, q, xs, rfl, hp, ss⟩ := sats1 hs
    rw [sats_ints ss] at hp
    exact ⟨_, rfl, fun Q h => ⟨q, ns, rfl, SqL.of (s _ _ hp), h⟩⟩) hm (ga_one ha hs) PyProof.Rows.boot_sum hg (by decide) (by decide) hs (fun _ => rfl)
theorem ge_all {bs : List Bool} (hm : mg "all" = none) (ha : GE X e cs (cL (bs.map cB))) (hs : ∀ j, starEach [e] (X j).env = (false, eval e (X j).env) :: starEach [] (X j).env := by intro _; rfl) (hg : ∀ j, Gl (X j) "all" := by intro _; rfl) : GE X (.Call (.Name "all" p) [e] [] pos) cs (cB (bs.all id)) :=
  ge_cB o (fun j => by have h := cr_all (X := X j) (o.calm j); rw [o.K j] at h; exact h) (rc_pure fun B H vs s hs => by
    obtain ⟨v, rfl, q, xs, rfl, hp, ss⟩ := sats1 hs
    have ex : ∀ (xs : List V) (bs : List Bool), Sats B xs (bs.map cB) → xs = bs.map V.bl := by
      intro xs
      induction xs with
      | nil => intro bs h; cases bs with
        | nil => rfl
        | cons => cases h
      | cons x xs ih => intro bs h; cases bs with
        | nil => cases h
        | cons b bs =>
          cases h with
          | cons h t => rw [show x = V.bl b from h, ih bs t] <;> rfl
    rw [ex xs bs ss] at hp
    exact ⟨_, rfl, fun Q h => ⟨q, bs, rfl, SqL.of (s _ _ hp), h⟩⟩) hm (ga_one ha hs) PyProof.Rows.boot_all hg (by decide) (by decide) hs (fun _ => rfl)
/-- the ints ascending -/
theorem ge_sortI {ns : List Int} (hm : mg "sorted" = none) (ha : GE X e cs (cL (ns.map cI))) (hs : ∀ j, starEach [e] (X j).env = (false, eval e (X j).env) :: starEach [] (X j).env := by intro _; rfl) (hg : ∀ j, Gl (X j) "sorted" := by intro _; rfl) :
    GE X (.Call (.Name "sorted" p) [e] [] pos) cs (cL ((ns.mergeSort fun a b => decide (a ≤ b)).map cI)) :=
  ge_cB o (fun j => by have h := cr_sortedI (X := X j); rw [o.K j] at h; exact h) (fun B H vs Q s hs q => by
    obtain ⟨v, rfl, a, xs, rfl, hp, ss⟩ := sats1 hs
    rw [sats_ints ss] at hp
    refine ⟨a, ns, rfl, SqL.of (s _ _ hp), fun ns' t hperm hord ht => ?_⟩
    have e1 : (ns.mergeSort fun a b => decide (a ≤ b)).Pairwise (· ≤ ·) := (List.pairwise_mergeSort (le := fun a b : Int => decide (a ≤ b)) (by intro x y z h1 h2; simp only [decide_eq_true_eq] at *; omega) (by intro x y; simp only [Bool.or_eq_true, decide_eq_true_eq]; omega) ns).imp fun h => of_decide_eq_true h
    have e2 : ns' = ns.mergeSort fun a b => decide (a ≤ b) := PySem.W.ksm_same (hperm.trans (List.mergeSort_perm ns _).symm) hord e1
    have g := Step.new (o := .lst (ns'.map V.int)) s ht
    exact q _ _ _ g ⟨t, _, rfl, upd_same, by rw [← e2]; exact ints_sats ns'⟩) hm (ga_one ha hs) PyProof.Rows.boot_sorted hg (by decide) (by decide) hs (fun _ => rfl)
end

/-! ### isinstance -/
def TyC (K : PySem.W.Frag) (c : Cell) (t : Value) : Prop := ∀ (B H : Hp) (v : V), Same B H → c.sat B v → TyX K H v t
theorem ty_I {i : Int} : TyC K (cI i) (.type "int") := fun B H v s h => by
  cases h
  exact .base (.int i)
theorem ty_Z {i : Str} : TyC K (cZ i) (.type "str") := fun B H v s h => by
  cases h
  exact .base (.str i)
theorem ty_T : TyC K (cT l) (.type "tuple") := fun B H v s ⟨q, xs, e, hp, _⟩ => by
  subst e
  exact .base (.tup (s _ _ hp))
theorem ty_U : TyC K (cU l) (.type "tuple") := fun B H v s ⟨q, o, xs, e, _, hp, _⟩ => by
  subst e
  exact .fTuple (s _ _ hp)
theorem ty_F {n m : Int} : TyC K (cF K n m) (.type "tuple") := fun B H v s ⟨q, e, hp⟩ => by
  subst e
  rcases hp with (hp | ⟨o, hp⟩) | ⟨o, its, z, h1, h2, _⟩
  · exact .base (.tup (s _ _ hp))
  · exact .fTuple (s _ _ hp)
  · exact .kTuple h1 h2
theorem kit_ii : kitB "int" "int" = some true := by decide +kernel
theorem kit_ib : kitB "int" "bool" = some false := by decide +kernel
theorem kit_tt : kitB "tuple" "tuple" = some true := by decide +kernel
theorem kit_ss : kitB "str" "str" = some true := by decide +kernel
theorem ge_isi {T T' : String} {r : Bool} (o : Cok X K mg k) (hm : mg "isinstance" = none) (ty : TyC K c (.type T)) (hk : kitB T T' = some r) (ha : GE X a cs c) (hb : GE X b cs (cV (.ty T'))) (h1 : ∀ n, starEach [a, b] (X n).env = (false, eval a (X n).env) :: starEach [b] (X n).env := by intro _; rfl)
    (h2 : ∀ n, starEach [b] (X n).env = (false, eval b (X n).env) :: starEach [] (X n).env := by intro _; rfl) (h3 : ∀ n, (backTo pos (starEach [b] (X n).env)).any (·.1) = false := by intro _; rfl) (hg : ∀ n, Gl (X n) "isinstance" := by intro _; rfl) :
    GE X (.Call (.Name "isinstance" p) [a, b] [] pos) cs (cB r) :=
  ge_cB o (fun j => by have h := call_isi (X := X j); rw [o.K j] at h; exact h) (rc_pure fun B H vs s hs => by
    obtain ⟨v, w, rfl, hv, rfl⟩ := sats2 hs
    exact ⟨_, rfl, fun Q h => ⟨v, .ty T', .type T, .type T', r, rfl, .ty T', ty B H v s hv, kit_ty hk, h⟩⟩) hm (ga_cons ha (ga_one hb h2) h1) PyProof.Rows.boot_isinstance hg (by decide) (by decide) h1 h3

/-! ### subscripts -/
theorem sats_get {B : Hp} : ∀ {xs : List V} {l : List Cell} {n : Nat} {c : Cell}, Sats B xs l → l[n]? = some c → ∃ v, xs[n]? = some v ∧ c.sat B v
  | _, _, _, _, .nil, h => by cases h
  | _, _, 0, _, .cons h _, e => by
    cases e
    exact ⟨_, rfl, h⟩
  | _, _, n + 1, _, .cons _ t, e => sats_get (n := n) t e
theorem at_int {α : Type} {xs : List α} {i : Int} {v : α} (h0 : 0 ≤ i) (h : xs[i.toNat]? = some v) : atI xs i = some v := by
  have e := atI_nat h
  rw [Int.toNat_of_nonneg h0] at e
  exact e
theorem ge_ixR {r : R2} {ix : ∀ j, IxR (X j) r} (hr : RO r ca cb c) (ha : GE X a cs ca) (hb : GE X b cs cb) (hp : PlainIx b) : GE X (.Subscript a b pos) cs c := by
  obtain ⟨ta, pa, va⟩ := ha
  obtain ⟨tb, pb, vb⟩ := hb
  exact ⟨_, fun j => pe_ix (ix j) (pa j) (pb j) hp, ev_op va vb hr⟩
theorem ge_ixT {i : Int} (o : Cok X K mg k) (ha : GE X a cs (cT l)) (hb : GE X b cs (cI i)) (h0 : 0 ≤ i) (h : l[i.toNat]? = some c) (hp : PlainIx b := by intro _ _; rfl) : GE X (.Subscript a b pos) cs c :=
  ge_ixR (ix := fun j => by have h := ix_tup (X := X j); rw [o.K j] at h; exact h) (fun B H x y Q s hx hy q => by
    obtain ⟨z, xs, rfl, hz, ss⟩ := hx
    obtain rfl : y = V.int i := hy
    obtain ⟨v, e1, e2⟩ := sats_get ss h
    exact ⟨z, xs, i, v, rfl, rfl, SqT.of (s _ _ hz), at_int h0 e1, q v B H (Step.refl s) e2⟩) ha hb hp
theorem ge_ixU {i : Int} (o : Cok X K mg k) (ha : GE X a cs (cU l)) (hb : GE X b cs (cI i)) (h0 : 0 ≤ i) (h : l[i.toNat]? = some c) (hp : PlainIx b := by intro _ _; rfl) : GE X (.Subscript a b pos) cs c :=
  ge_ixR (ix := fun j => by have h := ix_tup (X := X j); rw [o.K j] at h; exact h) (fun B H x y Q s hx hy q => by
    obtain ⟨z, ob, xs, rfl, _, hz, ss⟩ := hx
    obtain rfl : y = V.int i := hy
    obtain ⟨v, e1, e2⟩ := sats_get ss h
    exact ⟨z, xs, i, v, rfl, rfl, .inl (.inr ⟨ob, s _ _ hz⟩), at_int h0 e1, q v B H (Step.refl s) e2⟩) ha hb hp
theorem ge_ixL {i : Int} (o : Cok X K mg k) (ha : GE X a cs (cL l)) (hb : GE X b cs (cI i)) (h0 : 0 ≤ i) (h : l[i.toNat]? = some c) (hp : PlainIx b := by intro _ _; rfl) : GE X (.Subscript a b pos) cs c :=
  ge_ixR (ix := fun j => by have h := ix_list (X := X j); rw [o.K j] at h; exact h) (fun B H x y Q s hx hy q => by
    obtain ⟨z, xs, rfl, hz, ss⟩ := hx
    obtain rfl : y = V.int i := hy
    obtain ⟨v, e1, e2⟩ := sats_get ss h
    exact ⟨z, xs, i, v, rfl, rfl, SqL.of (s _ _ hz), at_int h0 e1, q v B H (Step.refl s) e2⟩) ha hb hp
theorem ge_ixF {n m i : Int} {z : Int} (o : Cok X K mg k) (ha : GE X a cs (cF K n m)) (hb : GE X b cs (cI i)) (h0 : 0 ≤ i) (h : [n, m][i.toNat]? = some z) (hp : PlainIx b := by intro _ _; rfl) : GE X (.Subscript a b pos) cs (cI z) :=
  ge_ixR (ix := fun j => by have h := ix_tup (X := X j); rw [o.K j] at h; exact h) (fun B H x y Q s hx hy q => by
    obtain ⟨w, rfl, hz⟩ := hx
    obtain rfl : y = V.int i := hy
    refine ⟨w, [.int n, .int m], i, .int z, rfl, rfl, (same_xt s).sqT hz, at_int h0 ?_, q _ B H (Step.refl s) rfl⟩
    have e : ([V.int n, V.int m] : List V) = [n, m].map V.int := rfl
    rw [e, List.getElem?_map, h] <;> rfl) ha hb hp
/-! ### slices -/
theorem sats_rev {B : Hp} {xs : List V} {l : List Cell} (h : Sats B xs l) : Sats B xs.reverse l.reverse := by
  induction h with
  | nil => exact .nil
  | cons h t ih =>
    rw [List.reverse_cons, List.reverse_cons]
    exact Paired.snoc ih h
theorem ge_revL {kk : Nat} {p1 p2 p3 : Pos} (o : Cok X K mg k) (ha : GE X e cs (cL l)) : GE X (.Subscript e (.Slice none none (some (.UnaryOp .USub (.Constant (.int 1) kk p1) p2)) p3) pos) cs (cL l.reverse) := by
  obtain ⟨t, pt, v⟩ := ha
  refine ⟨tRevL K t, fun j => by have h := pe_revL (X := X j) (k := kk) (p1 := p1) (p2 := p2) (p3 := p3) (pos := pos) (pt j); rw [o.K j] at h; exact h, fun B0 H0 B H σ Q E q => v B0 H0 B H σ _ E fun w B1 H1 g1 s1 => ?_⟩
  obtain ⟨z, xs, rfl, hz, ss⟩ := s1
  refine ⟨z, xs, rfl, SqL.of (g1.bh _ _ hz), fun t ht => ?_⟩
  have g := Step.new (o := .lst xs.reverse) g1.bh ht
  exact q _ _ _ (g1.trans g) ⟨t, _, rfl, upd_same, sats_mono (same_xt g.b) (sats_rev ss)⟩
theorem ge_revT {kk : Nat} {p1 p2 p3 : Pos} (o : Cok X K mg k) (ha : GE X e cs (cT l)) : GE X (.Subscript e (.Slice none none (some (.UnaryOp .USub (.Constant (.int 1) kk p1) p2)) p3) pos) cs (cT l.reverse) := by
  obtain ⟨t, pt, v⟩ := ha
  refine ⟨tRevT K t, fun j => by have h := pe_revT (X := X j) (k := kk) (p1 := p1) (p2 := p2) (p3 := p3) (pos := pos) (pt j); rw [o.K j] at h; exact h, fun B0 H0 B H σ Q E q => v B0 H0 B H σ _ E fun w B1 H1 g1 s1 => ?_⟩
  obtain ⟨z, xs, rfl, hz, ss⟩ := s1
  refine ⟨z, xs, rfl, SqT.of (g1.bh _ _ hz), fun t ht => ?_⟩
  have g := Step.new (o := .tup xs.reverse) g1.bh ht
  exact q _ _ _ (g1.trans g) ⟨t, _, rfl, upd_same, sats_mono (same_xt g.b) (sats_rev ss)⟩
/-- t[1:] of a tuple that is not empty -/
theorem ge_tail {kk : Nat} {p1 p3 : Pos} (o : Cok X K mg k) (ha : GE X e cs (cT (c :: l))) : GE X (.Subscript e (.Slice (some (.Constant (.int 1) kk p1)) none none p3) pos) cs (cT l) := by
  obtain ⟨t, pt, v⟩ := ha
  refine ⟨tSl (rSlT K) t (tPart (tC (.int 1))) tNoPart, fun j => by have h := pe_slice (X := X j) (p2 := p3) (pos := pos) sl_tup (pt j) (po_some (pe_int (j := kk) (pos := p1) (i := 1))) po_none; rw [o.K j] at h; exact h, fun B0 H0 B H σ Q E q => v B0 H0 B H σ _ E fun w B1 H1 g1 s1 => ?_⟩
  obtain ⟨z, xs, rfl, hz, ss⟩ := s1
  cases ss with
  | @cons x y xs' l' hx ht =>
    refine ⟨1, rfl, z, x :: xs', rfl, SqT.of (g1.bh _ _ hz), fun h => ?_, fun t ht' => ?_⟩
    · have e := h.1
      rw [show HT.sIx (x :: xs').length 0 (some 1) = min 1 (x :: xs').length from HT.sIx_nat _ 0 1, List.length_cons] at e
      omega
    · have ec : cutV (x :: xs') (some 1) none = xs' := by
        unfold cutV
        rw [show HT.sIx (x :: xs').length 0 (some 1) = min 1 (x :: xs').length from HT.sIx_nat _ 0 1, HT.sIx_none, List.length_cons, show min 1 (xs'.length + 1) = 1 from by omega]
        show List.take (xs'.length + 1 - 1) xs' = xs'
        rw [Nat.add_sub_cancel, List.take_length]
      rw [ec]
      have g := Step.new (o := .tup xs') g1.bh ht'
      exact q _ _ _ (g1.trans g) ⟨t, xs', rfl, upd_same, sats_mono (same_xt g.b) ht⟩
/-! ### joins -/
theorem sats_app {B : Hp} : ∀ {xs ys : List V} {l l2 : List Cell}, Sats B xs l → Sats B ys l2 → Sats B (xs ++ ys) (l ++ l2)
  | _, _, _, _, .nil, h => h
  | _, _, _, _, .cons h t, h2 => .cons h (sats_app t h2)
theorem ge_catT (o : Cok X K mg k) (ha : GE X a cs (cT l)) (hb : GE X b cs (cT l2)) (hz : l.length + l2.length ≤ 1000) : GE X (.BinOp a .Add b pos) cs (cT (l ++ l2)) :=
  ge_op (fun j => by have h := op_catA (X := X j); rw [o.K j] at h; exact h) (fun B H x y Q s hx hy q => by
    obtain ⟨z, xs, rfl, hz1, s1⟩ := hx
    obtain ⟨w, ys, rfl, hz2, s2⟩ := hy
    have l1 := sats_len s1
    have l2' := sats_len s2
    refine ⟨z, w, xs, ys, rfl, rfl, SqT.of (s _ _ hz1), SqT.of (s _ _ hz2), Nat.le_of_lt (small1000 (by omega)), fun e => ?_, fun _ e => ?_, fun _ _ t ht => ?_⟩
    · subst e
      exact q _ B H (Step.refl s) ⟨w, ys, rfl, hz2, by have := sats_app s1 s2; exact this⟩
    · subst e
      exact q _ B H (Step.refl s) ⟨z, xs, rfl, hz1, by have := sats_app s1 s2; rw [List.append_nil] at this; exact this⟩
    · have g := Step.new (o := .tup (xs ++ ys)) s ht
      exact q _ _ _ g ⟨t, _, rfl, upd_same, sats_mono (same_xt g.b) (sats_app s1 s2)⟩) ha hb
theorem ge_catL (ha : GE X a cs (cL l)) (hb : GE X b cs (cL l2)) (hz : l.length + l2.length ≤ 16000000) : GE X (.BinOp a .Add b pos) cs (cL (l ++ l2)) :=
  ge_op (fun j => op_cat) (fun B H x y Q s hx hy q => by
    obtain ⟨z, xs, rfl, hz1, s1⟩ := hx
    obtain ⟨w, ys, rfl, hz2, s2⟩ := hy
    have l1 := sats_len s1
    have l2' := sats_len s2
    refine ⟨z, w, xs, ys, rfl, rfl, s _ _ hz1, s _ _ hz2, by rw [sizeLine_eq]; omega, fun t ht => ?_⟩
    have g := Step.new (o := .lst (xs ++ ys)) s ht
    exact q _ _ _ g ⟨t, _, rfl, upd_same, sats_mono (same_xt g.b) (sats_app s1 s2)⟩) ha hb
/-- < of tuples of ints -/
theorem ge_ltT {ns ms : List Int} (o : Cok X K mg k) (ha : GE X a cs (cS ns)) (hb : GE X b cs (cS ms)) : GE X (.Compare a [.Lt] [b] pos) cs (cB (HT.lexLt ns ms)) :=
  ge_cmp (fun j => by have h := op_ltT (X := X j) (o.room j).units0; rw [o.K j] at h; exact h) (fun B H x y Q s hx hy q => by
    obtain ⟨z, rfl, hz1⟩ := cS_at hx
    obtain ⟨w, rfl, hz2⟩ := cS_at hy
    exact ⟨z, w, ns, ms, rfl, rfl, SqT.of (s _ _ hz1), SqT.of (s _ _ hz2), q _ B H (Step.refl s) rfl⟩) (nomark _) ha hb
/-- (0,) * n -/
theorem ge_rep {i : Int} {n : Nat} (o : Cok X K mg k) (ha : GE X a cs (cS [i])) (hb : GE X b cs (cI (n : Int))) (h1 : 1 ≤ n) (h2 : n ≤ 1000) : GE X (.BinOp a .Mult b pos) cs (cS (List.replicate n i)) := by
  by_cases e : n = 1
  · subst e
    exact ge_op (fun j => by have h := op_rep1 (X := X j); rw [o.K j] at h; exact h) (fun B H x y Q s hx hy q => by
      obtain ⟨z, rfl, hz1⟩ := cS_at hx
      obtain rfl : y = V.int 1 := hy
      exact ⟨z, _, rfl, rfl, SqT.of (s _ _ hz1), q _ B H (Step.refl s) (cS_mk hz1)⟩) ha hb
  · exact ge_op (fun j => by have h := op_repT (X := X j); rw [o.K j] at h; exact h) (fun B H x y Q s hx hy q => by
      obtain ⟨z, rfl, hz1⟩ := cS_at hx
      obtain rfl : y = V.int (n : Int) := hy
      refine ⟨z, (n : Int), [V.int i], rfl, rfl, SqT.of (s _ _ hz1), by simp, by omega, by omega, by simp, fun t ht => ?_⟩
      have ef : (List.replicate ((n : Int).toNat) [V.int i]).flatten = (List.replicate n i).map V.int := by
        rw [Int.toNat_natCast, List.map_replicate]
        clear hz1 ha hb h1 h2 e q
        induction n with
        | zero => rfl
        | succ n ih => rw [List.replicate_succ, List.flatten_cons, ih, List.replicate_succ] <;> rfl
      rw [ef]
      have g := Step.new (o := .tup ((List.replicate n i).map V.int)) s ht
      exact q _ _ _ g (cS_mk upd_same)) ha hb
/-- *e in a display -/
theorem ga_star (o : Cok X K mg k) (h : GE X e cs (cT l)) (hr : GA X es cs l2) (hs : ∀ j, starEach (.Starred e p :: es) (X j).env = (true, eval e (X j).env) :: starEach es (X j).env := by intro _; rfl) : GA X (.Starred e p :: es) cs (l ++ l2) := by
  obtain ⟨t, pt, v⟩ := h
  obtain ⟨u, pu, w⟩ := hr
  refine ⟨StX.tStar K t u, fun j => by have h := StX.pa_star (X := X j) (pt j) (pu j) (hs j); rw [o.K j] at h; exact h, fun B0 H0 B H σ Q E q => v B0 H0 B H σ _ E fun y B1 H1 g1 s1 => ?_⟩
  obtain ⟨z, xs, rfl, hz, ss⟩ := s1
  exact ⟨z, xs, rfl, .inl (SqT.of (g1.bh _ _ hz)), w B0 H0 B1 H1 σ _ (E.go g1) fun vs B2 H2 g2 s2 => q _ B2 H2 (g1.trans g2) (sats_app (sats_mono (same_xt g2.b) ss) s2)⟩
/-! ### == and != of data -/
def DC (K : PySem.W.Frag) (c : Cell) (d : PyData) : Prop := ∀ (B : Hp) (v : V), c.sat B v → Dp K B v d
theorem dc_I {i : Int} : DC K (cI i) (.int i) := fun B v h => by
  cases h
  exact .int i
inductive DCs (K : PySem.W.Frag) : List Cell → List PyData → Prop
  | nil : DCs K [] []
  | cons {c : Cell} {l : List Cell} {d : PyData} {ds : List PyData} : DC K c d → DCs K l ds → DCs K (c :: l) (d :: ds)
theorem DCs.all {l : List Cell} {ds : List PyData} (h : DCs K l ds) : ∀ {B : Hp} {vs : List V}, Sats B vs l → DpAll K B vs ds := by
  induction h with
  | nil => intro B vs s; cases s; exact .nil
  | cons h t ih => intro B vs s; cases s with
    | cons s1 s2 => exact .cons (h _ _ s1) (ih s2)
theorem dcs_ints : ∀ ns : List Int, DCs K (ns.map cI) (ns.map PyData.int)
  | [] => .nil
  | _ :: ns => .cons dc_I (dcs_ints ns)
theorem dc_T {ds : List PyData} (h : DCs K l ds) : DC K (cT l) (.tuple ds) := fun B v ⟨q, xs, e, hp, ss⟩ => by
  subst e
  exact .tup (SqT.of hp) (h.all ss)
theorem dc_L {ds : List PyData} (h : DCs K l ds) : DC K (cL l) (.list ds) := fun B v ⟨q, xs, e, hp, ss⟩ => by
  subst e
  exact .lst (SqL.of hp) (h.all ss)
theorem dc_F {n m : Int} : DC K (cF K n m) (.tuple [.int n, .int m]) := fun B v ⟨q, e, hp⟩ => by
  subst e
  exact .tup hp (.cons (.int _) (.cons (.int _) .nil))
section
variable {d1 d2 : PyData} (o : Cok X K mg k) (h1 : DC K ca d1) (h2 : DC K cb d2) (s1 : SeqAt.shaped d1 = true) (s2 : SeqAt.shaped d2 = true) (ha : GE X a cs ca) (hb : GE X b cs cb)
include o h1 h2 s1 s2 ha hb
theorem ge_neD : GE X (.Compare a [.NotEq] [b] pos) cs (cB (!PyData.eqv d1 d2)) :=
  ge_cmp (r := rNeD K) (fun j => by have h := op_neD (X := X j) (o.room j).units; rw [o.K j] at h; exact h) (fun B H x y Q s hx hy q => ⟨d1, d2, h1 H x (ca.mono (same_xt s) hx), h2 H y (cb.mono (same_xt s) hy), s1, s2, q _ B H (Step.refl s) rfl⟩) (nomark _) ha hb
theorem ge_eqD : GE X (.Compare a [.Eq] [b] pos) cs (cB (PyData.eqv d1 d2)) :=
  ge_cmp (r := rEqD K) (fun j => by have h := op_eqD (X := X j) (o.room j).units; rw [o.K j] at h; exact h) (fun B H x y Q s hx hy q => ⟨d1, d2, h1 H x (ca.mono (same_xt s) hx), h2 H y (cb.mono (same_xt s) hy), s1, s2, q _ B H (Step.refl s) rfl⟩) (nomark _) ha hb
theorem gt_neD : GT X (.Compare a [.NotEq] [b] pos) cs (!PyData.eqv d1 d2) :=
  gt_cmp (r := rNeD K) (fun j => by have h := op_neD (X := X j) (o.room j).units; rw [o.K j] at h; exact h) (fun B H x y Q s hx hy q => ⟨d1, d2, h1 H x (ca.mono (same_xt s) hx), h2 H y (cb.mono (same_xt s) hy), s1, s2, q _ B H (Step.refl s) rfl⟩) (nomark _) ha hb
theorem gt_eqD : GT X (.Compare a [.Eq] [b] pos) cs (PyData.eqv d1 d2) :=
  gt_cmp (r := rEqD K) (fun j => by have h := op_eqD (X := X j) (o.room j).units; rw [o.K j] at h; exact h) (fun B H x y Q s hx hy q => ⟨d1, d2, h1 H x (ca.mono (same_xt s) hx), h2 H y (cb.mono (same_xt s) hy), s1, s2, q _ B H (Step.refl s) rfl⟩) (nomark _) ha hb
end
/-- a text that is among a tuple's texts -/
theorem gt_notInT {v : V} {q : Addr} {xs : List V} (o : Cok X K mg k) (hx : flatV v = true) (ht : ∀ H, SqT K H q xs) (hf : xs.all flatV = true) (ha : GE X a cs (cV v)) (hb : GE X b cs (cR q)) (hm : behindInMarks .NotIn b = false := by rfl) : GT X (.Compare a [.NotIn] [b] pos) cs (!inV v xs) :=
  gt_cmp (fun j => by have h := op_notIn_seq (X := X j); rw [o.K j] at h; exact h) (fun B H x y Q s hx' hy q' => by
    obtain rfl : x = v := hx'
    obtain rfl : y = V.ref q := hy
    exact ⟨q, xs, rfl, .inr (ht H), hx, hf, q' _ B H (Step.refl s) rfl⟩) hm ha hb
end
end Ws
set_option Elab.async false
set_option linter.all false
set_option maxRecDepth 100000
set_option maxHeartbeats 4000000
/-! Part 4: locks, what is walked, for, while, comprehensions. -/
namespace Ws
open PySem PySem.Spec L2
section
variable {B0 H0 B H B' H' : Hp} {σ : St} {cs : Cs} {D : Ends} {o : Out}
theorem Step.base (g : Step B0 H0 B H) : Step B H0 B H := ⟨Same.refl _, g.h, g.bh, fun _ _ e _ _ => e⟩
theorem Step.unbase (g : Step B0 H0 B H) (g2 : Step B H0 B' H') : Step B0 H0 B' H' := ⟨g.b.trans g2.b, g2.h, g2.bh, fun p o e f z => g2.nw p o (g.nw p o e f z) f z⟩
theorem Env.base (e : Env B0 H0 B H σ cs) : Env B H0 B H σ cs := ⟨e.st.base, e.len, e.sl, e.ap⟩
theorem Env.unbase (g : Step B0 H0 B H) (e : Env B H0 B' H' σ cs) : Env B0 H0 B' H' σ cs := ⟨g.unbase e.st, e.len, e.sl, e.ap⟩
theorem Wants.base (g : Step B0 H0 B H) (w : Wants B0 H0 D o) : Wants B H0 D o := by
  cases o with
  | nx cs => exact fun B' H' σ' e => w B' H' σ' (e.unbase g)
  | rt c => exact fun v B' H' e s => w v B' H' (g.unbase e) s
  | bk cs => exact fun B' H' σ' e => w B' H' σ' (e.unbase g)
  | ct cs => exact fun B' H' σ' e => w B' H' σ' (e.unbase g)
/-- only what is read -/
def imC (cs : Cs) : Cs := cs.map fun s => match s with | some (.im c) => some (.im c) | _ => none
theorem imC_at {i : Nat} {s : Slot} (h : (imC cs)[i]? = some (some s)) : ∃ c, s = .im c ∧ cs[i]? = some (some (.im c)) := by
  unfold imC at h
  rw [List.getElem?_map] at h
  cases e : cs[i]? with
  | none => rw [e] at h; cases h
  | some y =>
    rw [e] at h
    cases y with
    | none => cases h
    | some t => cases t with
      | im c => cases h; exact ⟨c, rfl, rfl⟩
      | ml l => cases h
      | md l => cases h
      | pm p l => cases h
theorem Env.still (e : Env B0 H0 B H σ cs) (g : Step B H B' H') : Env B' H' B' H' σ (imC cs) := by
  refine ⟨Step.refl g.bh, by rw [imC, List.length_map]; exact e.len, fun i s h => ?_, fun i j s t p hi hj ms => ?_⟩
  · obtain ⟨c, rfl, hc⟩ := imC_at h
    obtain ⟨v, h1, h2⟩ := e.im hc
    exact ⟨v, h1, c.mono (same_xt g.b) h2⟩
  · obtain ⟨c, rfl, hc⟩ := imC_at hi
    cases ms
/-! ### several slots -/
def setV : St → List Nat → List V → St
  | σ, i :: sl, v :: vs => setV (σ.set i (some v)) sl vs
  | σ, [], _ => σ
  | σ, _ :: _, [] => σ
def setC : Cs → List Nat → List Cell → Cs
  | cs, i :: sl, c :: l => setC (cs.set i (some (.im c))) sl l
  | cs, [], _ => cs
  | cs, _ :: _, [] => cs
theorem Env.sets : ∀ {sl : List Nat} {vs : List V} {l : List Cell} {σ : St} {cs : Cs}, Env B0 H0 B H σ cs → Sats B vs l → Env B0 H0 B H (setV σ sl vs) (setC cs sl l)
  | [], vs, l, σ, cs, e, h => by unfold setV setC; exact e
  | i :: sl, _, _, σ, cs, e, .nil => by unfold setV setC; exact e
  | i :: sl, _, _, σ, cs, e, .cons a b => by
    unfold setV setC
    exact Env.sets (e.set a) b
theorem setV_len : ∀ {sl : List Nat} {vs : List V} {σ : St}, (setV σ sl vs).length = σ.length
  | [], _, _ => by unfold setV; rfl
  | _ :: _, [], _ => by unfold setV; rfl
  | i :: sl, v :: vs, σ => by unfold setV; rw [setV_len, List.length_set]
theorem setV_out {j : Nat} : ∀ {sl : List Nat} {vs : List V} {σ : St}, j ∉ sl → (setV σ sl vs)[j]? = σ[j]?
  | [], _, _, _ => by unfold setV; rfl
  | _ :: _, [], _, _ => by unfold setV; rfl
  | i :: sl, v :: vs, σ, h => by
    unfold setV
    rw [setV_out fun m => h (List.mem_cons_of_mem _ m), List.getElem?_set_ne fun e => h (by rw [← e]; exact List.mem_cons_self)]
def wipeC (cs : Cs) : List Nat → Cs
  | [] => cs
  | v :: vs => (wipeC cs vs).set v none
theorem wipeC_len : ∀ vs : List Nat, (wipeC cs vs).length = cs.length
  | [] => rfl
  | v :: vs => by unfold wipeC; rw [List.length_set, wipeC_len vs]
theorem wipeC_at {i : Nat} {s : Slot} : ∀ {vs : List Nat}, (wipeC cs vs)[i]? = some (some s) → cs[i]? = some (some s) ∧ i ∉ vs
  | [], h => ⟨h, by simp⟩
  | v :: vs, h => by
    unfold wipeC at h
    by_cases q : v = i
    · subst q
      rw [List.getElem?_set] at h
      simp only [if_true] at h
      split at h <;> cases h
    · rw [List.getElem?_set_ne q] at h
      obtain ⟨h1, h2⟩ := wipeC_at h
      exact ⟨h1, fun m => (List.mem_cons.mp m).elim (fun e => q e.symm) h2⟩
theorem Env.wipe (e : Env B0 H0 B H σ cs) (vs : List Nat) : Env B0 H0 B H (L2.wipe σ vs) (wipeC cs vs) := by
  refine ⟨e.st, by rw [wipe_length, wipeC_len]; exact e.len, fun i s h => ?_, fun i j s t p hi hj ms mt vi vj => ?_⟩
  · obtain ⟨h1, h2⟩ := wipeC_at h
    rw [wipe_out h2]
    exact e.sl i s h1
  · exact e.ap i j s t p (wipeC_at hi).1 (wipeC_at hj).1 ms mt (wipe_some vi).1 (wipe_some vj).1
theorem wipe_in {j : Nat} : ∀ {vs : List Nat}, j ∈ vs → (L2.wipe σ vs)[j]? = σ[j]?.map fun _ => none
  | v :: vs, h => by
    unfold L2.wipe
    by_cases q : v = j
    · subst q
      rw [List.getElem?_set, if_pos rfl, wipe_length]
      by_cases l : v < σ.length
      · rw [if_pos l, List.getElem?_eq_getElem l] <;> rfl
      · rw [if_neg l, List.getElem?_eq_none (Nat.le_of_not_lt l)] <;> rfl
    · rw [List.getElem?_set_ne q]
      rcases List.mem_cons.mp h with e | m
      · exact absurd e.symm q
      · exact wipe_in m
theorem map_none {σ τ : St} (h : σ.length = τ.length) (j : Nat) : (σ[j]?.map fun _ => (none : Option V)) = τ[j]?.map fun _ => none := by
  by_cases l : j < σ.length
  · rw [List.getElem?_eq_getElem l, List.getElem?_eq_getElem (h ▸ l)] <;> rfl
  · rw [List.getElem?_eq_none (Nat.le_of_not_lt l), List.getElem?_eq_none (by omega)]
theorem wipe_setV {sl vs : List Nat} {xs : List V} (h : ∀ i ∈ sl, i ∈ vs) : L2.wipe (setV σ sl xs) vs = L2.wipe σ vs := by
  apply List.ext_getElem?
  intro j
  by_cases q : j ∈ vs
  · rw [wipe_in q, wipe_in q]
    exact map_none setV_len j
  · rw [wipe_out q, wipe_out q, setV_out fun m => q (h j m)]
theorem wipe_wipe {vs : List Nat} : L2.wipe (L2.wipe σ vs) vs = L2.wipe σ vs := by
  apply List.ext_getElem?
  intro j
  by_cases q : j ∈ vs
  · rw [wipe_in (σ := L2.wipe σ vs) q, wipe_in (σ := σ) q]
    rw [← wipe_in (σ := σ) q]
    exact (map_none (wipe_length σ vs) j).trans (wipe_in q).symm
  · rw [wipe_out q]
end
/-! ### targets -/
def itemCell : List Cell → Cell
  | [c] => c
  | l => cT l
def EvG (g : TG) (sl : List Nat) : Prop := ∀ (B H : Hp) (σ : St) (l : List Cell) (v : V) (Q : St → Hp → Prop), Same B H → l.length = sl.length → (itemCell l).sat B v → (∀ vs, Sats B vs l → Q (setV σ sl vs) H) → g v σ H Q
section
variable {I : Type} {X : I → Cx} {K : PySem.W.Frag} {mg : Str → Option Value} {k : Nat} {cs : Cs} {a b d e tg iter : Expr} {es : List Expr} {pos p : Pos} {ca cb cc c c' : Cell} {l l2 : List Cell} {x y : Str} {sl : List Nat}
def GG (X : I → Cx) (tg : Expr) (sl : List Nat) : Prop := ∃ g, (∀ i, PG (X i) tg g) ∧ EvG g sl
theorem gg_name (o : Cok X K mg k) (i : Nat) (hN : ∀ j, (X j).N[i]? = some x := by intro _; rfl) (hx : ∀ j, Loc (X j).env.scope x := by intro _; first | exact Or.inl rfl | exact Or.inr rfl)
    (hf : ∀ j, (X j).fn x = true ∨ (X j).env.scope.names.lookup x = some .local := by intro _; first | exact Or.inl rfl | exact Or.inr rfl) : GG X (.Name x pos) [i] :=
  ⟨gName i, fun j => pg_name (o.nd j) (hN j) (hx j) (hf j), fun B H σ l v Q s hl hv q => by
    match l, hl with
    | [c], _ => exact q [v] (.cons hv .nil)⟩
theorem gg_two (o : Cok X K mg k) (i j : Nat) {kk : Nat} {p1 p2 : Pos} (hN : ∀ n, (X n).N[i]? = some x := by intro _; rfl) (hx : ∀ n, Loc (X n).env.scope x := by intro _; first | exact Or.inl rfl | exact Or.inr rfl)
    (hf : ∀ n, (X n).fn x = true ∨ (X n).env.scope.names.lookup x = some .local := by intro _; first | exact Or.inl rfl | exact Or.inr rfl)
    (hN2 : ∀ n, (X n).N[j]? = some y := by intro _; rfl) (hx2 : ∀ n, Loc (X n).env.scope y := by intro _; first | exact Or.inl rfl | exact Or.inr rfl)
    (hf2 : ∀ n, (X n).fn y = true ∨ (X n).env.scope.names.lookup y = some .local := by intro _; first | exact Or.inl rfl | exact Or.inr rfl) : GG X (.Tuple [.Name x p1, .Name y p2] kk pos) [i, j] :=
  ⟨gTup K 2 (gCons (gName i) (gCons (gName j) gNil)), fun n => by
    have h := pg_tup (X := X n) (pos := pos) (k := kk) (o.calm n) (pgs_cons (pg_name (pos := p1) (o.nd n) (hN n) (hx n) (hf n)) (pgs_cons (pg_name (pos := p2) (o.nd n) (hN2 n) (hx2 n) (hf2 n)) pgs_nil))
    rw [o.K n] at h
    exact h, fun B H σ l v Q s hl hv q => by
    match l, hl with
    | [c, c'], _ =>
      obtain ⟨a, xs, rfl, ha, ss⟩ := hv
      obtain ⟨v, w, rfl, h1, h2⟩ := sats2 ss
      exact ⟨a, _, rfl, SqT.of (s _ _ ha), rfl, v, [w], rfl, w, [], rfl, rfl, q [v, w] ss⟩⟩

/-! ### what is walked -/
structure Walk (J : It) (B : Hp) (l : List Cell) : Prop where
  go : ∀ i B' H', Same B B' → Same B' H' → i < l.length → J.go i H'
  yld : ∀ i c B' H' x H'', Same B B' → Same B' H' → l[i]? = some c → J.yld i H' x H'' → ∃ B'', Step B' H' B'' H'' ∧ c.sat B'' x
  stop : ∀ B' H', Same B B' → Same B' H' → J.stop l.length H'
def Any : Hp → St → Prop := fun _ _ => True
def EvI (P : Hp → St → Prop) (wi : TI) (cs : Cs) (l : List Cell) : Prop := ∀ (B0 H0 B H : Hp) (σ : St) (R : It → Hp → Prop), Env B0 H0 B H σ cs → P B σ → (∀ J B' H', Step B H B' H' → Walk J B' l → R J H') → wi σ H R
def GI (P : Hp → St → Prop) (X : I → Cx) (tg iter : Expr) (cs : Cs) (l : List Cell) : Prop := ∃ wi, (∀ i, PI (X i) tg iter wi) ∧ EvI P wi cs l
theorem gi_eq {P : Hp → St → Prop} (h : GI P X tg iter cs l) (e : l = l2) : GI P X tg iter cs l2 := e ▸ h
theorem walk_seq {S : Hp → List V → Prop} {J : It} {B : Hp} {xs : List V} (hs : ∀ B' H', Same B B' → Same B' H' → S H' xs) (ss : Sats B xs l) (g : ∀ i H, J.go i H ↔ ∃ xs x, S H xs ∧ xs[i]? = some x) (y : ∀ i H x H', J.yld i H x H' → H' = H ∧ ∀ xs, S H xs → xs[i]? = some x)
    (st : ∀ i H, J.stop i H ↔ ∃ xs, S H xs ∧ xs.length ≤ i) : Walk J B l where
  go := fun i B' H' s1 s2 hi => (g i H').mpr ⟨xs, xs[i]'(by rw [sats_len ss]; exact hi), hs B' H' s1 s2, List.getElem?_eq_getElem _⟩
  yld := fun i c B' H' x H'' s1 s2 hc hy => by
    obtain ⟨rfl, h⟩ := y _ _ _ _ hy
    have e := h xs (hs B' H'' s1 s2)
    obtain ⟨v, e1, e2⟩ := sats_get ss hc
    rw [e] at e1
    cases e1
    exact ⟨B', Step.refl s2, c.mono (same_xt s1) e2⟩
  stop := fun B' H' s1 s2 => (st _ H').mpr ⟨xs, hs B' H' s1 s2, by rw [sats_len ss]; exact Nat.le_refl _⟩
theorem gi_list {P : Hp → St → Prop} (o : Cok X K mg k) (h : GE X iter cs (cL l)) : GI P X tg iter cs l := by
  obtain ⟨t, pt, v⟩ := h
  refine ⟨iList K t, fun j => by have h := pi_list (tg := tg) (pt j); rw [o.K j] at h; exact h, fun B0 H0 B H σ R E _ q => v B0 H0 B H σ _ E fun w B1 H1 g s => ?_⟩
  obtain ⟨a, xs, rfl, ha, ss⟩ := s
  exact ⟨a, rfl, ⟨xs, SqL.of (g.bh _ _ ha)⟩, q _ B1 H1 g (walk_seq (S := fun H xs => SqL K H a xs) (fun B' H' s1 s2 => SqL.of (s2 _ _ (s1 _ _ ha))) ss (fun _ _ => Iff.rfl) (fun _ _ _ _ h => h) (fun _ _ => Iff.rfl))⟩
theorem gi_tup {P : Hp → St → Prop} (o : Cok X K mg k) (h : GE X iter cs (cT l)) : GI P X tg iter cs l := by
  obtain ⟨t, pt, v⟩ := h
  refine ⟨iTup K t, fun j => by have h := pi_tup (tg := tg) (pt j); rw [o.K j] at h; exact h, fun B0 H0 B H σ R E _ q => v B0 H0 B H σ _ E fun w B1 H1 g s => ?_⟩
  obtain ⟨a, xs, rfl, ha, ss⟩ := s
  exact ⟨a, rfl, ⟨xs, SqT.of (g.bh _ _ ha)⟩, q _ B1 H1 g (walk_seq (S := fun H xs => SqT K H a xs) (fun B' H' s1 s2 => SqT.of (s2 _ _ (s1 _ _ ha))) ss (fun _ _ => Iff.rfl) (fun _ _ _ _ h => h) (fun _ _ => Iff.rfl))⟩
theorem gi_tupU {P : Hp → St → Prop} (o : Cok X K mg k) (h : GE X iter cs (cU l)) : GI P X tg iter cs l := by
  obtain ⟨t, pt, v⟩ := h
  refine ⟨iTup K t, fun j => by have h := pi_tup (tg := tg) (pt j); rw [o.K j] at h; exact h, fun B0 H0 B H σ R E _ q => v B0 H0 B H σ _ E fun w B1 H1 g s => ?_⟩
  obtain ⟨a, ob, xs, rfl, _, ha, ss⟩ := s
  exact ⟨a, rfl, ⟨xs, .inl (.inr ⟨ob, g.bh _ _ ha⟩)⟩, q _ B1 H1 g (walk_seq (S := fun H xs => SqT K H a xs) (fun B' H' s1 s2 => .inl (.inr ⟨ob, s2 _ _ (s1 _ _ ha)⟩)) ss (fun _ _ => Iff.rfl) (fun _ _ _ _ h => h) (fun _ _ => Iff.rfl))⟩
theorem walk_rng {B : Hp} {lo : Int} {n : Nat} : Walk (Itr lo n) B ((List.range n).map fun i => cI (lo + (i : Nat))) where
  go := fun i B' H' _ _ hi => by rw [List.length_map, List.length_range] at hi; exact hi
  yld := fun i c B' H' x H'' s1 s2 hc hy => by
    obtain ⟨rfl, rfl⟩ := hy
    rw [List.getElem?_map] at hc
    by_cases q : i < n
    · rw [List.getElem?_range q] at hc
      cases hc
      exact ⟨B', Step.refl s2, rfl⟩
    · rw [List.getElem?_eq_none (by rw [List.length_range]; omega)] at hc
      cases hc
  stop := fun B' H' _ _ => by
    rw [List.length_map, List.length_range]
    exact Nat.le_refl _
theorem gi_rng1 {P : Hp → St → Prop} {n : Int} (o : Cok X K mg k) (hm : mg "range" = none) (h : GE X a cs (cI n)) (h1 : -(2 ^ 62) ≤ n) (h2 : n < 2 ^ 62) (hs : ∀ j, starEach [a] (X j).env = (false, eval a (X j).env) :: starEach [] (X j).env := by intro _; rfl) (hg : ∀ j, Gl (X j) "range" := by intro _; rfl) :
    GI P X tg (.Call (.Name "range" p) [a] [] pos) cs ((List.range n.toNat).map fun i => cI (i : Nat)) := by
  obtain ⟨t, pt, v⟩ := ga_one h hs
  refine ⟨iRng1 t, fun j => pi_range1 (hg j) (by rw [o.mg j]; exact hm) (pt j) (hs j), fun B0 H0 B H σ R E _ q => v B0 H0 B H σ _ E fun w B1 H1 g s => ?_⟩
  obtain ⟨z, rfl, rfl⟩ := sats1 s
  refine ⟨n, rfl, h1, h2, q _ B1 H1 g ?_⟩
  have := walk_rng (B := B1) (lo := 0) (n := n.toNat)
  simp only [Int.zero_add] at this
  exact this
theorem gi_rng2 {P : Hp → St → Prop} {n m : Int} (o : Cok X K mg k) (hm : mg "range" = none) (ha : GE X a cs (cI n)) (hb : GE X b cs (cI m)) (h1 : -(2 ^ 62) ≤ n ∧ n < 2 ^ 62 ∧ -(2 ^ 62) ≤ m ∧ m < 2 ^ 62) (hs : ∀ j, starEach [a, b] (X j).env = [(false, eval a (X j).env), (false, eval b (X j).env)] := by intro _; rfl)
    (hs1 : ∀ j, starEach [a, b] (X j).env = (false, eval a (X j).env) :: starEach [b] (X j).env := by intro _; rfl) (hs2 : ∀ j, starEach [b] (X j).env = (false, eval b (X j).env) :: starEach [] (X j).env := by intro _; rfl) (hg : ∀ j, Gl (X j) "range" := by intro _; rfl) :
    GI P X tg (.Call (.Name "range" p) [a, b] [] pos) cs ((List.range (m - n).toNat).map fun i => cI (n + (i : Nat))) := by
  obtain ⟨t, pt, v⟩ := ga_cons ha (ga_one hb hs2) hs1
  refine ⟨iRng2 t, fun j => pi_range2 (hg j) (by rw [o.mg j]; exact hm) (pt j) (hs j) (hs2 j), fun B0 H0 B H σ R E _ q => v B0 H0 B H σ _ E fun w B1 H1 g s => ?_⟩
  obtain ⟨z, z2, rfl, rfl, rfl⟩ := sats2 s
  exact ⟨n, m, rfl, h1, q _ B1 H1 g walk_rng⟩
/-- a new pair at each turn -/
theorem walk_pair {J : It} {B : Hp} (hl : ∀ i c B' H' v H'', Same B B' → Same B' H' → l[i]? = some c → J.yld i H' v H'' → ∃ T x y c1 c2, v = .ref T ∧ H' T = none ∧ H'' = upd H' T (.tup [x, y]) ∧ c = cT [c1, c2] ∧ c1.sat B' x ∧ c2.sat B' y)
    (g : ∀ i B' H', Same B B' → Same B' H' → i < l.length → J.go i H') (st : ∀ B' H', Same B B' → Same B' H' → J.stop l.length H') : Walk J B l where
  go := g
  yld := fun i c B' H' x H'' s1 s2 hc hy => by
    obtain ⟨T, u, w, c1, c2, rfl, hT, rfl, rfl, h1, h2⟩ := hl i c B' H' x H'' s1 s2 hc hy
    have gg := Step.new (o := .tup [u, w]) s2 hT
    exact ⟨_, gg, T, [u, w], rfl, upd_same, .cons (c1.mono (same_xt gg.b) h1) (.cons (c2.mono (same_xt gg.b) h2) .nil)⟩
  stop := st
theorem gi_enumT {P : Hp → St → Prop} {ns : List Int} {kk : Nat} {tpos : Pos} (o : Cok X K mg k) (hm : mg "enumerate" = none) (h : GE X a cs (cS ns)) (hs : ∀ j, starEach [a] (X j).env = (false, eval a (X j).env) :: starEach [] (X j).env := by intro _; rfl) (hg : ∀ j, Gl (X j) "enumerate" := by intro _; rfl) :
    GI P X (.Tuple es kk tpos) (.Call (.Name "enumerate" p) [a] [] pos) cs (ns.zipIdx.map fun q => cT [cI (q.2 : Nat), cI q.1]) := by
  obtain ⟨t, pt, v⟩ := ga_one h hs
  refine ⟨iEnumT K t, fun j => by have h := pi_enumT (X := X j) (p := p) (pos := pos) (tpos := tpos) (elts := es) (kk := kk) (hg j) (by rw [o.mg j]; exact hm) (pt j) (hs j); rw [o.K j] at h; exact h, fun B0 H0 B H σ R E _ q => v B0 H0 B H σ _ E fun w B1 H1 g s => ?_⟩
  obtain ⟨z, rfl, hz⟩ := sats1 s
  obtain ⟨z, rfl, hp⟩ := cS_at hz
  have at_ : ∀ B' H', Same B1 B' → Same B' H' → SqT K H' z (ns.map V.int) := fun B' H' s1 s2 => SqT.of (s2 _ _ (s1 _ _ hp))
  refine ⟨z, _, rfl, SqT.of (g.bh _ _ hp), q _ B1 H1 g (walk_pair (fun i c B' H' v H'' s1 s2 hc hy => ?_) (fun i B' H' s1 s2 hi => ?_) fun B' H' s1 s2 => ?_)⟩
  · obtain ⟨T, x, rfl, hT, rfl, hx⟩ := hy
    have e := hx _ (at_ B' H' s1 s2)
    rw [List.getElem?_map, List.getElem?_zipIdx] at hc
    rw [List.getElem?_map] at e
    cases q : ns[i]? with
    | none => rw [q] at hc; cases hc
    | some n =>
      rw [q] at e hc
      cases e
      cases hc
      exact ⟨T, _, _, _, _, rfl, hT, rfl, rfl, by show _ = _; rw [Nat.zero_add], rfl⟩
  · rw [List.length_map, List.length_zipIdx] at hi
    exact ⟨_, _, at_ B' H' s1 s2, by rw [List.getElem?_map, List.getElem?_eq_getElem hi] <;> rfl⟩
  · refine ⟨_, at_ B' H' s1 s2, ?_⟩
    rw [List.length_map, List.length_map, List.length_zipIdx]
    exact Nat.le_refl _
theorem gi_enumL {P : Hp → St → Prop} {ns : List Int} {kk : Nat} {tpos : Pos} (o : Cok X K mg k) (hm : mg "enumerate" = none) (h : GE X a cs (cL (ns.map cI))) (hs : ∀ j, starEach [a] (X j).env = (false, eval a (X j).env) :: starEach [] (X j).env := by intro _; rfl) (hg : ∀ j, Gl (X j) "enumerate" := by intro _; rfl) :
    GI P X (.Tuple es kk tpos) (.Call (.Name "enumerate" p) [a] [] pos) cs (ns.zipIdx.map fun q => cT [cI (q.2 : Nat), cI q.1]) := by
  obtain ⟨t, pt, v⟩ := ga_one h hs
  refine ⟨iEnum K t, fun j => by have h := pi_enum (X := X j) (p := p) (pos := pos) (tpos := tpos) (elts := es) (kk := kk) (hg j) (by rw [o.mg j]; exact hm) (pt j) (hs j); rw [o.K j] at h; exact h, fun B0 H0 B H σ R E _ q => v B0 H0 B H σ _ E fun w B1 H1 g s => ?_⟩
  obtain ⟨z, rfl, z, xs, rfl, hp, ss⟩ := sats1 s
  rw [sats_ints ss] at hp
  have at_ : ∀ B' H', Same B1 B' → Same B' H' → SqL K H' z (ns.map V.int) := fun B' H' s1 s2 => SqL.of (s2 _ _ (s1 _ _ hp))
  refine ⟨z, _, rfl, SqL.of (g.bh _ _ hp), q _ B1 H1 g (walk_pair (fun i c B' H' v H'' s1 s2 hc hy => ?_) (fun i B' H' s1 s2 hi => ?_) fun B' H' s1 s2 => ?_)⟩
  · obtain ⟨T, x, rfl, hT, rfl, hx⟩ := hy
    have e := hx _ (at_ B' H' s1 s2)
    rw [List.getElem?_map, List.getElem?_zipIdx] at hc
    rw [List.getElem?_map] at e
    cases q : ns[i]? with
    | none => rw [q] at hc; cases hc
    | some n =>
      rw [q] at e hc
      cases e
      cases hc
      exact ⟨T, _, _, _, _, rfl, hT, rfl, rfl, by show _ = _; rw [Nat.zero_add], rfl⟩
  · rw [List.length_map, List.length_zipIdx] at hi
    exact ⟨_, _, at_ B' H' s1 s2, by rw [List.getElem?_map, List.getElem?_eq_getElem hi] <;> rfl⟩
  · refine ⟨_, at_ B' H' s1 s2, ?_⟩
    rw [List.length_map, List.length_map, List.length_zipIdx]
    exact Nat.le_refl _
theorem gi_zipT {P : Hp → St → Prop} {ns ms : List Int} {kk : Nat} {tpos : Pos} (o : Cok X K mg k) (hm : mg "zip" = none) (ha : GE X a cs (cS ns)) (hb : GE X b cs (cS ms)) (hs : ∀ j, starEach [a, b] (X j).env = (false, eval a (X j).env) :: starEach [b] (X j).env := by intro _; rfl)
    (hs2 : ∀ j, starEach [b] (X j).env = (false, eval b (X j).env) :: starEach [] (X j).env := by intro _; rfl) (hpl : ∀ j, (backTo pos (starEach [b] (X j).env)).any (·.1) = false := by intro _; rfl) (hg : ∀ j, Gl (X j) "zip" := by intro _; rfl) :
    GI P X (.Tuple es kk tpos) (.Call (.Name "zip" p) [a, b] [] pos) cs ((ns.zip ms).map fun q => cT [cI q.1, cI q.2]) := by
  obtain ⟨t, pt, v⟩ := ga_cons ha (ga_one hb hs2) hs
  refine ⟨RZ.iZipA K t, fun j => by have h := RZ.pi_zipA (X := X j) (p := p) (pos := pos) (tpos := tpos) (elts := es) (kk := kk) (hg j) (by rw [o.mg j]; exact hm) (pt j) (hs j) (hpl j); rw [o.K j] at h; exact h, fun B0 H0 B H σ R E _ q => v B0 H0 B H σ _ E fun w B1 H1 g s => ?_⟩
  obtain ⟨z, z2, rfl, hz, hz2⟩ := sats2 s
  obtain ⟨z, rfl, hp⟩ := cS_at hz
  obtain ⟨z2, rfl, hp2⟩ := cS_at hz2
  have at1 : ∀ B' H', Same B1 B' → Same B' H' → SqT K H' z (ns.map V.int) := fun B' H' s1 s2 => SqT.of (s2 _ _ (s1 _ _ hp))
  have at2 : ∀ B' H', Same B1 B' → Same B' H' → SqT K H' z2 (ms.map V.int) := fun B' H' s1 s2 => SqT.of (s2 _ _ (s1 _ _ hp2))
  refine ⟨z, z2, _, _, rfl, .inr ⟨SqT.of (g.bh _ _ hp), SqT.of (g.bh _ _ hp2), q _ B1 H1 g (walk_pair (fun i c B' H' v H'' s1 s2 hc hy => ?_) (fun i B' H' s1 s2 hi => ?_) fun B' H' s1 s2 => ?_)⟩⟩
  · obtain ⟨T, x, y, rfl, hT, rfl, hx, hy⟩ := hy
    have e1 := hx _ (at1 B' H' s1 s2)
    have e2 := hy _ (at2 B' H' s1 s2)
    rw [List.getElem?_map] at e1 e2 hc
    cases q : ns[i]? with
    | none => rw [q] at e1; cases e1
    | some n =>
      cases q2 : ms[i]? with
      | none => rw [q2] at e2; cases e2
      | some m =>
        rw [q] at e1
        rw [q2] at e2
        have e3 : (ns.zip ms)[i]? = some (n, m) := by
          rw [List.getElem?_zip_eq_some]
          exact ⟨q, q2⟩
        rw [e3] at hc
        cases e1
        cases e2
        cases hc
        exact ⟨T, _, _, _, _, rfl, hT, rfl, rfl, rfl, rfl⟩
  · rw [List.length_map, List.length_zip] at hi
    have h1 : i < ns.length := by omega
    have h2 : i < ms.length := by omega
    exact ⟨_, _, _, _, at1 B' H' s1 s2, at2 B' H' s1 s2, by rw [List.getElem?_map, List.getElem?_eq_getElem h1] <;> rfl, by rw [List.getElem?_map, List.getElem?_eq_getElem h2] <;> rfl⟩
  · refine ⟨_, _, at1 B' H' s1 s2, at2 B' H' s1 s2, ?_⟩
    rw [List.length_map, List.length_map, List.length_map, List.length_zip]
    omega
/-- a tuple that stands is learned -/
theorem learn {B H : Hp} {q : Addr} {xs : List V} (s : Same B H) (h : H q = some (.tup xs)) : Step B H (upd B q (.tup xs)) H := by
  refine ⟨fun a u e => ?_, Same.refl _, fun a u e => ?_, fun a u e f z => ?_⟩
  · by_cases c : a = q
    · subst c
      rw [s _ _ e] at h
      cases h
      exact upd_same
    · rw [upd_ne c]
      exact e
  · by_cases c : a = q
    · subst c
      rw [upd_same] at e
      cases e
      exact h
    · rw [upd_ne c] at e
      exact s _ _ e
  · by_cases c : a = q
    · subst c
      rw [h] at f
      cases f
      exact absurd rfl (z xs)
    · rw [upd_ne c]
      exact e
end
/-! ### a dict while it is walked -/
def PD (te : TE) (kvs : Kvs) (B : Hp) (σ : St) : Prop := ∃ d od xs, B d = some (.frz od (.dT xs)) ∧ SatK B xs kvs ∧ ∀ (B' H' : Hp) (Q : VK), Same B B' → Same B' H' → Q (.ref d) H' → te σ H' Q
def EvD (te : TE) (cs : Cs) (kvs : Kvs) : Prop := ∀ (B0 H0 B H : Hp) (σ : St), Env B0 H0 B H σ cs → ∃ d xs, Rd B d (.dT xs) ∧ SatK B xs kvs ∧ ∀ (B' H' : Hp) (Q : VK), Xt B B' → Same B' H' → Q (.ref d) H' → te σ H' Q
def EvCP (P : Hp → St → Prop) (t : TE) (cs : Cs) (c : Cell) : Prop := ∀ (B0 H0 B H : Hp) (σ : St) (Q : VK), Env B0 H0 B H σ cs → P B σ → (∀ v B' H', Step B H B' H' → c.sat B' v → Q v H') → t σ H Q
def EvSP (P : Hp → St → Prop) (t : TS) (cs : Cs) (o : Out) : Prop := ∀ (B0 H0 B H : Hp) (σ : St) (D : Ends), Env B0 H0 B H σ cs → P B σ → Wants B0 H0 D o → t D σ H
theorem satk_get {B : Hp} : ∀ {xs : List (List Key × V)} {kvs : Kvs} {n : Nat} {p : List Int × Cell}, SatK B xs kvs → kvs[n]? = some p → ∃ v, xs[n]? = some (keyOf p.1, v) ∧ p.2.sat B v
  | _, _, _, _, .nil, h => by cases h
  | x :: _, _, 0, _, .cons h _, e => by
    cases e
    obtain ⟨k, v⟩ := x
    obtain ⟨h1, h2⟩ := h
    exact ⟨v, by show some (k, v) = _; rw [show k = _ from h1], h2⟩
  | _, _, n + 1, _, .cons _ t, e => satk_get (n := n) t e
theorem satk_len {B : Hp} {xs : List (List Key × V)} {kvs : Kvs} (h : SatK B xs kvs) : xs.length = kvs.length := Paired.length h
theorem ev_items {te : TE} {cs : Cs} {kvs : Kvs} : EvI (PD te kvs) (iItemsT te) cs (kvs.map fun p => cT [cS p.1, p.2]) := fun B0 H0 B H σ R E ⟨d, od, xs, hd, ss, run⟩ q => by
  refine run B H _ (Same.refl _) E.bh ⟨d, od, xs, rfl, E.bh _ _ hd, q _ B H (Step.refl E.bh) ⟨fun i B' H' s1 s2 hi => ?_, fun i c B' H' x H'' s1 s2 hc hy => ?_, fun B' H' s1 s2 => ?_⟩⟩
  · rw [List.length_map] at hi
    exact ⟨s2 _ _ (s1 _ _ hd), by rw [satk_len ss]; exact hi⟩
  · obtain ⟨T, w, k, v, hk, rfl, hw, hT, rfl⟩ := hy
    rw [List.getElem?_map] at hc
    cases e : kvs[i]? with
    | none => rw [e] at hc; cases hc
    | some p =>
      rw [e] at hc
      cases hc
      obtain ⟨v', h1, h2⟩ := satk_get ss e
      rw [hk] at h1
      cases h1
      rw [kV_keyOf] at hw
      have g1 := learn s2 hw
      have g2 := Step.new (o := .tup [.ref w, v]) g1.bh hT
      refine ⟨_, g1.trans g2, T, _, rfl, upd_same, .cons (cS_mk (g2.b _ _ upd_same)) (.cons (p.2.mono (same_xt ((s1.trans g1.b).trans g2.b)) h2) .nil)⟩
  · rw [List.length_map]
    exact ⟨s2 _ _ (s1 _ _ hd), by rw [satk_len ss]; exact Nat.le_refl _⟩
/-! ### locks -/
def lk (d : Addr) (w : HO) (B : Hp) : Hp := fun a => if a = d then (B a).map (fun _ => w) else B a
section
variable {d a : Addr} {w : HO} {B H B0 H0 B' H' : Hp} {od : Obj} {xs : List (List Key × V)} {σ : St} {cs : Cs}
theorem lk_ne (h : a ≠ d) : lk d w B a = B a := if_neg h
theorem lk_eq : lk d w B d = (B d).map fun _ => w := if_pos rfl
theorem lk_at {x : HO} (h : B d = some x) : lk d w B d = some w := by rw [lk_eq, h] <;> rfl
theorem lk_none (h : B a = none) : lk d w B a = none := by
  by_cases q : a = d
  · subst q
    rw [lk_eq, h] <;> rfl
  · rw [lk_ne q, h]
theorem lk_of_none (h : lk d w B a = none) : B a = none := by
  by_cases q : a = d
  · subst q
    rw [lk_eq] at h
    cases e : B a with
    | none => rfl
    | some x => rw [e] at h; cases h
  · rw [lk_ne q] at h
    exact h
theorem lk_upd {x : HO} (h : B d = some x) : upd B d w = lk d w B := by
  funext b
  by_cases q : b = d
  · subst q
    rw [upd_same, lk_at h]
  · rw [upd_ne q, lk_ne q]
theorem same_lk (s : Same B B') : Same (lk d w B) (lk d w B') := fun b x e => by
  by_cases q : b = d
  · subst q
    rw [lk_eq] at e ⊢
    cases hB : B b with
    | none => rw [hB] at e; cases e
    | some y =>
      rw [hB] at e
      rw [s _ _ hB]
      exact e
  · rw [lk_ne q] at e ⊢
    exact s _ _ e
theorem xt_lk (h : B d = some (.dT xs)) : Xt B (lk d (.frz od (.dT xs)) B) := by
  have ne : ∀ {b : Addr} {u : HO}, B b = some u → (∀ ys, u ≠ .dT ys) → lk d (.frz od (.dT xs)) B b = some u := fun {b u} e z => by
    rw [lk_ne]
    · exact e
    · rintro rfl
      rw [h] at e
      cases e
      exact z _ rfl
  refine ⟨fun b ys e => ne e (fun _ q => nomatch q), fun b ys e => ne e (fun _ q => nomatch q), fun b C dx fs e => ne e (fun _ q => nomatch q), fun b u z e => ?_, fun b ob ys e => ne e (fun _ q => nomatch q)⟩
  rcases e with e | ⟨ob, e⟩
  · by_cases q : b = d
    · subst q
      rw [h] at e
      cases e
      exact .inr ⟨od, lk_at h⟩
    · exact .inl (by rw [lk_ne q]; exact e)
  · exact .inr ⟨ob, ne e (fun _ q => nomatch q)⟩
theorem xt_unlk (h : B d = some (.frz od (.dT xs))) : Xt B (lk d (.dT xs) B) := by
  have ne : ∀ {b : Addr} {u : HO}, B b = some u → u ≠ .frz od (.dT xs) → lk d (.dT xs) B b = some u := fun {b u} e z => by
    rw [lk_ne]
    · exact e
    · rintro rfl
      rw [h] at e
      cases e
      exact z rfl
  refine ⟨fun b ys e => ne e (fun q => nomatch q), fun b ys e => ne e (fun q => nomatch q), fun b C dx fs e => ne e (fun q => nomatch q), fun b u z e => ?_, fun b ob ys e => ne e (fun q => nomatch q)⟩
  rcases e with e | ⟨ob, e⟩
  · exact .inl (ne e (z _ _))
  · by_cases q : b = d
    · subst q
      rw [h] at e
      cases e
      exact .inl (lk_at h)
    · exact .inr ⟨ob, by rw [lk_ne q]; exact e⟩
theorem step_lk (g : Step B0 H0 B H) (h : H d = some (.dT xs)) : Step (lk d w B0) (lk d w H0) (lk d w B) (lk d w H) :=
  ⟨same_lk g.b, same_lk g.h, same_lk g.bh, fun p o e f z => by
    by_cases q : p = d
    · subst q
      have e' := lk_of_none e
      cases hh : H0 p with
      | none => rw [lk_none hh] at f; cases f
      | some y =>
        have := g.h _ _ hh
        rw [h] at this
        cases this
        exact lk_none (g.nw p _ e' hh fun _ q => nomatch q)
    · rw [lk_ne q] at e f ⊢
      exact g.nw p o e f z⟩
theorem env_lk (e : Env B0 H0 B H σ cs) (h : B d = some (.dT xs)) : Env (lk d (.frz od (.dT xs)) B0) (lk d (.frz od (.dT xs)) H0) (lk d (.frz od (.dT xs)) B) (lk d (.frz od (.dT xs)) H) σ cs := by
  have x := xt_lk (od := od) h
  have ne : ∀ {p : Addr}, B p = none → p ≠ d := fun {p} e q => by subst q; rw [h] at e; cases e
  refine ⟨step_lk e.st (e.bh _ _ h), e.len, fun i s hi => ?_, e.ap⟩
  obtain ⟨v, h1, h2⟩ := e.sl i s hi
  refine ⟨v, h1, ?_⟩
  cases s with
  | im c => exact c.mono x h2
  | ml l =>
    obtain ⟨p, ys, rfl, hp, hb, hh, ss⟩ := h2
    exact ⟨p, ys, rfl, lk_none hp, lk_none hb, by rw [lk_ne (ne hb)]; exact hh, sats_mono x ss⟩
  | md l =>
    obtain ⟨p, ys, rfl, hp, hb, hh, ss⟩ := h2
    exact ⟨p, ys, rfl, lk_none hp, lk_none hb, by rw [lk_ne (ne hb)]; exact hh, satk_mono x ss⟩
  | pm p l =>
    obtain ⟨e1, ys, hp, hb, hh, ss⟩ := h2
    exact ⟨e1, ys, lk_none hp, lk_none hb, by rw [lk_ne (ne hb)]; exact hh, sats_mono x ss⟩
/-- back -/
theorem step_unlk (g0 : Step B H0 B H) (h : B d = some (.dT xs)) (g : Step (lk d (.frz od (.dT xs)) B) (lk d (.frz od (.dT xs)) H0) B' H') : B' d = some (.frz od (.dT xs)) ∧ H' d = some (.frz od (.dT xs)) ∧ Step B H0 (lk d (.dT xs) B') (lk d (.dT xs) H') := by
  have hB' : B' d = some (.frz od (.dT xs)) := g.b _ _ (lk_at h)
  have hH' := g.bh _ _ hB'
  refine ⟨hB', hH', fun b u e => ?_, fun b u e => ?_, same_lk g.bh, fun p u e f z => ?_⟩
  · by_cases q : b = d
    · subst q
      rw [h] at e
      cases e
      exact lk_at hB'
    · rw [lk_ne q]
      exact g.b _ _ (by rw [lk_ne q]; exact e)
  · by_cases q : b = d
    · subst q
      have := g0.h _ _ e
      rw [g0.bh _ _ h] at this
      cases this
      exact lk_at hH'
    · rw [lk_ne q]
      exact g.h _ _ (by rw [lk_ne q]; exact e)
  · by_cases q : p = d
    · subst q
      rw [h] at e
      cases e
    · exact lk_none (g.nw p u (lk_none e) (by rw [lk_ne q]; exact f) z)
theorem env_unlk (g0 : Step B H0 B H) (h : B d = some (.dT xs)) (e : Env (lk d (.frz od (.dT xs)) B) (lk d (.frz od (.dT xs)) H0) B' H' σ cs) : H' d = some (.frz od (.dT xs)) ∧ Env B H0 (lk d (.dT xs) B') (lk d (.dT xs) H') σ cs := by
  obtain ⟨hB', hH', g⟩ := step_unlk g0 h e.st
  have x := xt_unlk hB'
  refine ⟨hH', g, e.len, fun i s hi => ?_, e.ap⟩
  obtain ⟨v, h1, h2⟩ := e.sl i s hi
  have ne : ∀ {p : Addr} {u : HO}, H' p = some u → u ≠ .frz od (.dT xs) → p ≠ d := fun {p u} e1 z q => by subst q; rw [hH'] at e1; cases e1; exact z rfl
  refine ⟨v, h1, ?_⟩
  cases s with
  | im c => exact c.mono x h2
  | ml l =>
    obtain ⟨p, ys, rfl, hp, hb, hh, ss⟩ := h2
    exact ⟨p, ys, rfl, lk_of_none hp, lk_none hb, by rw [lk_ne (ne hh (fun q => nomatch q))]; exact hh, sats_mono x ss⟩
  | md l =>
    obtain ⟨p, ys, rfl, hp, hb, hh, ss⟩ := h2
    exact ⟨p, ys, rfl, lk_of_none hp, lk_none hb, by rw [lk_ne (ne hh (fun q => nomatch q))]; exact hh, satk_mono x ss⟩
  | pm p l =>
    obtain ⟨e1, ys, hp, hb, hh, ss⟩ := h2
    exact ⟨e1, ys, lk_of_none hp, lk_none hb, by rw [lk_ne (ne hh (fun q => nomatch q))]; exact hh, sats_mono x ss⟩
end
section
variable {te t : TE} {ts : TS} {cs : Cs} {kvs : Kvs} {c : Cell} {o : Out}
theorem ev_lockE (hd : EvD te cs kvs) (h : EvCP (PD te kvs) t cs c) : EvC (fun σ H Q => tLockE t σ H Q ∨ t σ H Q) cs c := fun B0 H0 B H σ Q E q => by
  obtain ⟨d, xs, hr, ss, run⟩ := hd B0 H0 B H σ E
  rcases hr with hd | ⟨od, hd⟩
  · refine .inl ⟨d, .dT xs, E.bh _ _ hd, trivial, fun od => ?_⟩
    rw [lk_upd (E.bh _ _ hd)]
    refine h _ _ _ _ σ _ (env_lk E hd) ⟨d, od, xs, lk_at hd, satk_mono (xt_lk hd) ss, fun B' H' Q s1 s2 q => run B' H' Q ((xt_lk hd).trans (same_xt s1)) s2 q⟩ fun v B' H' g hv => ?_
    obtain ⟨h1, h2, g2⟩ := step_unlk (Step.refl E.bh) hd g
    exact ⟨h2, by rw [lk_upd h2]; exact q _ _ _ g2 (c.mono (xt_unlk h1) hv)⟩
  · exact .inr (h _ _ _ _ σ Q E ⟨d, od, xs, hd, ss, fun B' H' Q s1 s2 q => run B' H' Q (same_xt s1) s2 q⟩ q)
theorem ev_lockS (hd : EvD te cs kvs) (h : EvSP (PD te kvs) ts cs o) : EvS (fun D σ H => tLock ts D σ H ∨ ts D σ H) cs o := fun B0 H0 B H σ D E W => by
  obtain ⟨d, xs, hr, ss, run⟩ := hd B0 H0 B H σ E
  rcases hr with hd | ⟨od, hd⟩
  · refine .inl ⟨d, .dT xs, E.bh _ _ hd, trivial, fun od => ?_⟩
    rw [lk_upd (E.bh _ _ hd)]
    refine h _ _ _ _ σ _ (env_lk E.base hd) ⟨d, od, xs, lk_at hd, satk_mono (xt_lk hd) ss, fun B' H' Q s1 s2 q => run B' H' Q ((xt_lk hd).trans (same_xt s1)) s2 q⟩ ?_
    have W' := W.base E.st
    cases o with
    | nx cs' =>
      intro B' H' σ' E'
      obtain ⟨h2, E2⟩ := env_unlk E.st.base hd E'
      exact ⟨h2, by rw [lk_upd h2]; exact W' _ _ _ E2⟩
    | bk cs' =>
      intro B' H' σ' E'
      obtain ⟨h2, E2⟩ := env_unlk E.st.base hd E'
      exact ⟨h2, by rw [lk_upd h2]; exact W' _ _ _ E2⟩
    | ct cs' =>
      intro B' H' σ' E'
      obtain ⟨h2, E2⟩ := env_unlk E.st.base hd E'
      exact ⟨h2, by rw [lk_upd h2]; exact W' _ _ _ E2⟩
    | rt c =>
      intro v B' H' g hv
      obtain ⟨h1, h2, g2⟩ := step_unlk E.st.base hd g
      exact ⟨h2, by rw [lk_upd h2]; exact W' _ _ _ g2 (c.mono (xt_unlk h1) hv)⟩
  · exact .inr (h _ _ _ _ σ D E ⟨d, od, xs, hd, ss, fun B' H' Q s1 s2 q => run B' H' Q (same_xt s1) s2 q⟩ W)
end
theorem ps_lk {X : Cx} {st : Stmt} {t : TS} (h : PS X st t) : PS X st (fun D σ H => tLock t D σ H ∨ t D σ H) := ⟨fun pins s σ H D J q => q.elim ((ps_lock h).run pins s σ H D J) (h.run pins s σ H D J)⟩
theorem pe_lk {X : Cx} {e : Expr} {t : TE} (h : PE X e t) : PE X e (fun σ H Q => tLockE t σ H Q ∨ t σ H Q) := ⟨fun pins s σ H Q J q => q.elim ((pe_lock h).run pins s σ H Q J) (h.run pins s σ H Q J)⟩
end Ws
set_option Elab.async false
set_option linter.all false
set_option maxRecDepth 100000
set_option maxHeartbeats 4000000
/-! Part 5: for, while, comprehensions, statements. -/
namespace Ws
open PySem PySem.Spec L2
section
variable {I : Type} {X : I → Cx} {K : PySem.W.Frag} {mg : Str → Option Value} {k : Nat} {cs cs' : Cs} {a b d e tg iter : Expr} {es : List Expr} {pos p : Pos} {ca cb cc c c' : Cell} {l l2 : List Cell} {x y : Str} {sl : List Nat} {o : Out} {st : Stmt} {sts sts2 : List Stmt} {P : Hp → St → Prop}
/-! ### weaker knowledge -/
theorem le_nil : Le [] [] := ⟨rfl, fun _ _ h => h⟩
theorem le_same {s : Option Slot} (h : Le cs' cs) : Le (s :: cs') (s :: cs) := ⟨congrArg Nat.succ h.1, fun i t e => by
  cases i with
  | zero => exact e
  | succ i => exact h.2 i t e⟩
theorem le_none {s : Option Slot} (h : Le cs' cs) : Le (none :: cs') (s :: cs) := ⟨congrArg Nat.succ h.1, fun i t e => by
  cases i with
  | zero => cases e
  | succ i => exact h.2 i t e⟩
theorem gs_pre (h : GS X st cs' o) (w : Le cs' cs) : GS X st cs o := by
  obtain ⟨t, ht, hv⟩ := h
  exact ⟨t, ht, fun B0 H0 B H σ D E q => hv B0 H0 B H σ D (E.le w) q⟩
theorem gb_pre (h : GB X sts cs' o) (w : Le cs' cs) : GB X sts cs o := by
  obtain ⟨t, ht, hv⟩ := h
  exact ⟨t, ht, fun B0 H0 B H σ D E q => hv B0 H0 B H σ D (E.le w) q⟩
theorem gs_post {cs2 : Cs} (h : GS X st cs (.nx cs2)) (w : Le cs' cs2) : GS X st cs (.nx cs') := by
  obtain ⟨t, ht, hv⟩ := h
  exact ⟨t, ht, fun B0 H0 B H σ D E q => hv B0 H0 B H σ D E fun B' H' σ' E' => q B' H' σ' (E'.le w)⟩
theorem gb_post {cs2 : Cs} (h : GB X sts cs (.nx cs2)) (w : Le cs' cs2) : GB X sts cs (.nx cs') := by
  obtain ⟨t, ht, hv⟩ := h
  exact ⟨t, ht, fun B0 H0 B H σ D E q => hv B0 H0 B H σ D E fun B' H' σ' E' => q B' H' σ' (E'.le w)⟩
theorem gs_out {o' : Out} (h : GS X st cs o) (w : o = o') : GS X st cs o' := w ▸ h
theorem gb_out {o' : Out} (h : GB X sts cs o) (w : o = o') : GB X sts cs o' := w ▸ h
theorem gb_sub (h : GB X sts cs (.rt c)) (w : ∀ B v, c.sat B v → c'.sat B v) : GB X sts cs (.rt c') := by
  obtain ⟨t, ht, hv⟩ := h
  exact ⟨t, ht, fun B0 H0 B H σ D E q => hv B0 H0 B H σ D E fun v B' H' g s => q v B' H' g (w _ _ s)⟩
/-- a slot's cell is weakened -/
theorem gb_weak {i : Nat} (h : GB X sts (cs.set i (some (.im c'))) o) (hc : cs[i]? = some (some (.im c))) (w : ∀ B v, c.sat B v → c'.sat B v) : GB X sts cs o := by
  obtain ⟨t, ht, hv⟩ := h
  exact ⟨t, ht, fun B0 H0 B H σ D E q => hv B0 H0 B H σ D (E.weak hc w) q⟩
/-! ### own lists and dicts come to rest -/
theorem upd_same_in {B H : Hp} {p : Addr} {u : HO} (s : Same B H) (h : H p = some u) : Same (upd B p u) H := fun b w e => by
  by_cases q : b = p
  · subst q
    rw [upd_same] at e
    cases e
    exact h
  · rw [upd_ne q] at e
    exact s _ _ e
theorem Env.rest {B0 H0 B H : Hp} {σ : St} {i : Nat} {s : Slot} (E : Env B0 H0 B H σ cs) (hs : cs[i]? = some (some s)) {p : Addr} {u : HO} (hv : σ[i]? = some (some (.ref p))) (m : s.isMut = true) (h0 : H0 p = none) (hb : B p = none) (hh : H p = some u)
    (hc : c.sat (upd B p u) (.ref p)) : Env B0 H0 (upd B p u) H σ (cs.set i (some (.im c))) := by
  have sb : Same B (upd B p u) := same_new hb
  have x := same_xt sb
  refine ⟨⟨E.st.b.trans sb, E.st.h, upd_same_in E.st.bh hh, fun a w e f z => ?_⟩, by rw [List.length_set]; exact E.len, fun j t hj => ?_, fun j n t r q hj hn mt mr vj vn => ?_⟩
  · rw [upd_ne]
    · exact E.st.nw a w e f z
    · rintro rfl
      rw [h0] at f
      cases f
  · by_cases q : i = j
    · subst q
      rw [List.getElem?_set_self (List.getElem?_eq_some_iff.mp hs).1] at hj
      cases hj
      exact ⟨.ref p, hv, hc⟩
    · rw [List.getElem?_set_ne q] at hj
      obtain ⟨v, h1, h2⟩ := E.sl j t hj
      refine ⟨v, h1, ?_⟩
      cases t with
      | im c2 => exact c2.mono x h2
      | ml l =>
        obtain ⟨w, ys, rfl, e0, eb, eh, ss⟩ := h2
        refine ⟨w, ys, rfl, e0, ?_, eh, sats_mono x ss⟩
        rw [upd_ne]
        · exact eb
        · rintro rfl
          exact q (E.ap i j s _ w hs hj m rfl hv h1)
      | md l =>
        obtain ⟨w, ys, rfl, e0, eb, eh, ss⟩ := h2
        refine ⟨w, ys, rfl, e0, ?_, eh, satk_mono x ss⟩
        rw [upd_ne]
        · exact eb
        · rintro rfl
          exact q (E.ap i j s _ w hs hj m rfl hv h1)
      | pm w l =>
        obtain ⟨rfl, ys, e0, eb, eh, ss⟩ := h2
        refine ⟨rfl, ys, e0, ?_, eh, sats_mono x ss⟩
        rw [upd_ne]
        · exact eb
        · rintro rfl
          exact q (E.ap i j s _ w hs hj m rfl hv h1)
  · have ne : ∀ {j : Nat} {t : Slot}, (cs.set i (some (.im c)))[j]? = some (some t) → t.isMut = true → i ≠ j := fun {j t} e mt q => by
      subst q
      rw [List.getElem?_set_self (List.getElem?_eq_some_iff.mp hs).1] at e
      cases e
      cases mt
    have n1 := ne hj mt
    have n2 := ne hn mr
    rw [List.getElem?_set_ne n1] at hj
    rw [List.getElem?_set_ne n2] at hn
    exact E.ap j n t r q hj hn mt mr vj vn
theorem gb_rest (i : Nat) (h : GB X sts (cs.set i (some (.im (cL l)))) o) (hs : cs[i]? = some (some (.ml l)) := by rfl) : GB X sts cs o := by
  obtain ⟨t, ht, hv⟩ := h
  refine ⟨t, ht, fun B0 H0 B H σ D E q => ?_⟩
  obtain ⟨v, h1, p, xs, rfl, e0, eb, eh, ss⟩ := E.sl i _ hs
  exact hv B0 H0 _ H σ D (E.rest hs h1 rfl e0 eb eh ⟨p, xs, rfl, upd_same, sats_mono (same_xt (same_new eb)) ss⟩) q
theorem gb_restD (i : Nat) {kvs : Kvs} (h : GB X sts (cs.set i (some (.im (cD kvs)))) o) (hs : cs[i]? = some (some (.md kvs)) := by rfl) : GB X sts cs o := by
  obtain ⟨t, ht, hv⟩ := h
  refine ⟨t, ht, fun B0 H0 B H σ D E q => ?_⟩
  obtain ⟨v, h1, p, xs, rfl, e0, eb, eh, ss⟩ := E.sl i _ hs
  exact hv B0 H0 _ H σ D (E.rest hs h1 rfl e0 eb eh ⟨p, xs, rfl, .inl upd_same, satk_mono (same_xt (same_new eb)) ss⟩) q
/-! ### for -/
def foldE {S α : Type} (f : S → α → S ⊕ Cell) : S → List α → S ⊕ Cell
  | s, [] => .inl s
  | s, a :: as => match f s a with
    | .inl s' => foldE f s' as
    | .inr c => .inr c
def outE {S : Type} (env : S → Cs) : S ⊕ Cell → Out
  | .inl s => .nx (env s)
  | .inr c => .rt c
theorem foldE_app {S α : Type} {f : S → α → S ⊕ Cell} : ∀ {pre post : List α} {s s' : S}, foldE f s pre = .inl s' → foldE f s (pre ++ post) = foldE f s' post
  | [], _, _, _, h => by cases h; rfl
  | a :: pre, post, s, s', h => by
    show (match f s a with | .inl s' => foldE f s' (pre ++ post) | .inr c => .inr c) = _
    have h : (match f s a with | .inl s' => foldE f s' pre | .inr c => .inr c) = Sum.inl s' := h
    cases e : f s a with
    | inl s2 =>
      rw [e] at h
      exact foldE_app h
    | inr c =>
      rw [e] at h
      cases h
theorem ev_for {S α : Type} {wi : TI} {g : TG} {tb : TS} {env : S → Cs} {f : S → α → S ⊕ Cell} {its : List α} {ic : α → List Cell} {s0 : S} (hi : EvI P wi (env s0) (its.map fun a => itemCell (ic a))) (hg : EvG g sl) (hl : ∀ a ∈ its, (ic a).length = sl.length)
    (hb : ∀ pre a post s, its = pre ++ a :: post → foldE f s0 pre = .inl s → EvS tb (setC (env s) sl (ic a)) (outE env (f s a))) : EvSP P (tFor wi g tb) (env s0) (outE env (foldE f s0 its)) := fun B0 H0 B H σ D E p W => by
  refine hi B0 H0 B H σ _ E p fun J B1 H1 g1 wk => ?_
  refine ⟨fun i m σ H => ∃ B pre post s, its = pre ++ post ∧ pre.length = i ∧ post.length = m ∧ foldE f s0 pre = .inl s ∧ Same B1 B ∧ Env B0 H0 B H σ (env s), ⟨its.length, B1, [], its, s0, rfl, rfl, rfl, rfl, Same.refl _, E.go g1⟩, ?_⟩
  rintro i m σ H ⟨B, pre, post, s, e1, e2, e3, e4, sb, E1⟩
  cases post with
  | nil =>
    rw [List.append_nil] at e1
    subst e1
    refine .inl ⟨?_, ?_⟩
    · have := wk.stop B H sb E1.bh
      rw [List.length_map, e2] at this
      exact this
    · rw [e4] at W
      exact W B H σ E1
  | cons a post =>
    have hi' : its[i]? = some a := by rw [e1, List.getElem?_append_right (by omega), e2, Nat.sub_self] <;> rfl
    refine .inr ⟨wk.go i B H sb E1.bh (by rw [List.length_map]; exact (List.getElem?_eq_some_iff.mp hi').1), fun σ H => ∃ B' s', Same B1 B' ∧ f s a = .inl s' ∧ Env B0 H0 B' H σ (env s'), ?_, ?_⟩
    · rintro σ' H' ⟨B', s', sb', hf, E'⟩
      refine ⟨post.length, by rw [← e3]; exact Nat.lt_succ_self _, B', pre ++ [a], post, s', by rw [e1, List.append_assoc] <;> rfl, by rw [List.length_append, e2] <;> rfl, rfl, ?_, sb', E'⟩
      rw [foldE_app e4]
      show (match f s a with | .inl s' => foldE f s' [] | .inr c => .inr c) = _
      rw [hf] <;> rfl
    · intro x H' y
      obtain ⟨B2, g2, hx⟩ := wk.yld i (itemCell (ic a)) B H x H' sb E1.bh (by rw [List.getElem?_map, hi'] <;> rfl) y
      refine hg B2 H' σ (ic a) x _ g2.bh (hl a (List.mem_of_getElem? hi')) hx fun vs sv => ?_
      have E2 := (E1.go g2).sets (sl := sl) sv
      refine hb pre a post s e1 e4 B2 H0 B2 H' _ _ E2.base ?_
      cases hf : f s a with
      | inl s' => exact fun B3 H3 σ3 E3 => ⟨B3, s', sb.trans (g2.b.trans E3.st.b), rfl, E3.unbase E2.st⟩
      | inr c =>
        have e5 : foldE f s0 its = .inr c := by
          rw [e1, foldE_app e4]
          show (match f s a with | .inl s' => foldE f s' post | .inr c => .inr c) = _
          rw [hf]
        rw [e5] at W
        exact fun v B3 H3 g3 sc => W v B3 H3 (E2.st.unbase g3) sc
theorem ev_any {ts : TS} (h : EvSP Any ts cs o) : EvS ts cs o := fun B0 H0 B H σ D E W => h B0 H0 B H σ D E trivial W
theorem ev_anyC {t : TE} (h : EvCP Any t cs c) : EvC t cs c := fun B0 H0 B H σ D E W => h B0 H0 B H σ D E trivial W
section
variable {S α : Type} {env : S → Cs} {its : List α} {ic : α → List Cell} {s0 : S}
theorem nox_own (o : Cok X K mg k) (j : I) : PassesOwn (model (X j).prog (X j).w) (X j).A (X j).env (X j).xe := by
  rw [o.nox j]
  exact PassesOwn.never
theorem gs_forE (f : S → α → S ⊕ Cell) (o : Cok X K mg k) (hi : GI Any X tg iter (env s0) (its.map fun a => itemCell (ic a))) (hg : GG X tg sl) (hl : ∀ a ∈ its, (ic a).length = sl.length := by intro _ _; rfl)
    (hb : ∀ pre a post s, its = pre ++ a :: post → foldE f s0 pre = .inl s → GB X sts (setC (env s) sl (ic a)) (outE env (f s a))) (hs : ∀ j x, foldedSetIterable iter (X j).env x = pure x := by intro _ _; rfl) :
    GS X (.For tg iter sts [] pos) (env s0) (outE env (foldE f s0 its)) := by
  obtain ⟨wi, pi, vi⟩ := hi
  obtain ⟨g, pg, vg⟩ := hg
  -- one reading of the body for all turns
  refine ⟨tFor wi g (fun D σ H => ∃ t, (∀ j, PSs (X j) sts t) ∧ t D σ H), fun j => ps_for (nox_own o j) (o.calm j) (pi j) (pg j) ⟨fun pins s σ H D J q => ?_⟩ (hs j), ev_any (ev_for vi vg hl fun pre a post s e1 e2 => ?_)⟩
  · obtain ⟨t, pt, q⟩ := q
    exact (pt j).run pins s σ H D J q
  · obtain ⟨t, pt, vt⟩ := hb pre a post s e1 e2
    exact fun B0 H0 B H σ D E W => ⟨t, pt, vt B0 H0 B H σ D E W⟩
/-- the dict's items -/
def GD (X : I → Cx) (e : Expr) (cs : Cs) (kvs : Kvs) : Prop := ∃ t, (∀ i, PE (X i) e t) ∧ EvD t cs kvs
theorem gd_var (i : Nat) {kvs : Kvs} (hc : cs[i]? = some (some (.im (cD kvs))) := by rfl) (hN : ∀ j, (X j).N[i]? = some x := by intro _; rfl) (hv : ∀ j, Vis (X j).env.scope x := by intro _; first | exact Or.inl rfl | exact Or.inr (Or.inl rfl) | exact Or.inr (Or.inr rfl))
    (hd : (x == ("__debug__" : Str)) = false := by decide) (hcd : (x == ("__classdict__" : Str)) = false := by decide) : GD X (.Name x pos) cs kvs := by
  refine ⟨tVar i, fun j => pe_var (hN j) (hv j) hd hcd, fun B0 H0 B H σ E => ?_⟩
  obtain ⟨v, h1, d, xs, rfl, hr, ss⟩ := E.im hc
  exact ⟨d, xs, hr, ss, fun B' H' Q _ _ q => ⟨_, h1, q⟩⟩
theorem gs_forItems {kvs : Kvs} {kk : Nat} {tpos apos cpos : Pos} (f : S → (List Int × Cell) → S ⊕ Cell) (o : Cok X K mg k) (hd : GD X e (env s0) kvs) (hg : GG X (.Tuple es kk tpos) sl) (hl : sl.length = 2 := by rfl)
    (hb : ∀ pre a post s, kvs = pre ++ a :: post → foldE f s0 pre = .inl s → GB X sts (setC (env s) sl [cS a.1, a.2]) (outE env (f s a))) (hbase : ∀ j, attributeBase e "items" (X j).env (eval e (X j).env) = eval e (X j).env := by intro _; rfl) (hline : (apos.endLine == cpos.line) = true := by rfl)
    (hs : ∀ j x, foldedSetIterable (.Call (.Attribute e "items" apos) [] [] cpos) (X j).env x = pure x := by intro _ _; rfl) :
    GS X (.For (.Tuple es kk tpos) (.Call (.Attribute e "items" apos) [] [] cpos) sts [] pos) (env s0) (outE env (foldE f s0 kvs)) := by
  obtain ⟨te, pe, ve⟩ := hd
  obtain ⟨g, pg, vg⟩ := hg
  refine ⟨_, fun j => ps_lk (ps_for (tb := fun D σ H => ∃ t, (∀ j, PSs (X j) sts t) ∧ t D σ H) (nox_own o j) (o.calm j) (pi_itemsT (pe j) (hbase j) hline) (pg j) ⟨fun pins s σ H D J q => ?_⟩ (hs j)), ev_lockS ve (ev_for (ic := fun a => [cS a.1, a.2]) ev_items vg (fun _ _ => hl.symm) fun pre a post s e1 e2 => ?_)⟩
  · obtain ⟨t, pt, q⟩ := q
    exact (pt j).run pins s σ H D J q
  · obtain ⟨t, pt, vt⟩ := hb pre a post s e1 e2
    exact fun B0 H0 B H σ D E W => ⟨t, pt, vt B0 H0 B H σ D E W⟩
/-! ### while -/
theorem gs_while {env : S → Cs} {s0 : S} (cnd : S → Bool) (f res : S → S) (μ : S → Nat) (J : S → Prop) (o : Cok X K mg k) (h0 : J s0) (hc : ∀ s, J s → GT X a (env s) (cnd s)) (hb : ∀ s, J s → cnd s = true → GB X sts (env s) (.nx (env (f s))))
    (hJ : ∀ s, J s → cnd s = true → J (f s)) (hm : ∀ s, J s → cnd s = true → μ (f s) < μ s) (r1 : ∀ s, J s → cnd s = false → res s = s) (r2 : ∀ s, J s → cnd s = true → res s = res (f s)) : GS X (.While a sts [] pos) (env s0) (.nx (env (res s0))) := by
  refine ⟨tWhile (fun σ H Q => ∃ t, (∀ j, PT (X j) a t) ∧ t σ H Q) (fun D σ H => ∃ t, (∀ j, PSs (X j) sts t) ∧ t D σ H), fun j => ps_while (nox_own o j) ⟨fun pins s σ H Q J q => ?_⟩ ⟨fun pins s σ H D J q => ?_⟩, fun B0 H0 B H σ D E W => ?_⟩
  · obtain ⟨t, pt, q⟩ := q
    exact (pt j).run pins s σ H Q J q
  · obtain ⟨t, pt, q⟩ := q
    exact (pt j).run pins s σ H D J q
  refine ⟨fun m σ H => ∃ B s, J s ∧ μ s = m ∧ res s = res s0 ∧ Env B0 H0 B H σ (env s), ⟨μ s0, B, s0, h0, rfl, rfl, E⟩, ?_⟩
  rintro m σ H ⟨B, s, j, rfl, hr, E⟩
  obtain ⟨t, pt, vt⟩ := hc s j
  refine ⟨t, pt, vt B0 H0 B H σ _ E fun B1 H1 g1 => ?_⟩
  cases hq : cnd s with
  | true =>
    refine iteT ⟨fun σ' H' => ∃ B', Env B0 H0 B' H' σ' (env (f s)), fun σ' H' ⟨B', E'⟩ => ⟨μ (f s), hm s j hq, B', f s, hJ s j hq, rfl, (r2 s j hq).symm.trans hr, E'⟩, ?_⟩
    obtain ⟨t2, pt2, vt2⟩ := hb s j hq
    exact ⟨t2, pt2, vt2 B0 H0 B1 H1 σ _ (E.go g1) fun B' H' σ' E' => ⟨B', E'⟩⟩
  | false =>
    rw [← hr, r1 s j hq] at W
    exact iteF (W B1 H1 σ (E.go g1))
end
/-! ### comprehensions -/
abbrev Ix (I : Type) : Type := I × Shared × Hp × Addr × List (Str × Addr) × List Addr
abbrev blkX (X : I → Cx) (sc : Scope) : Ix I → Cx := fun q => (X q.1).blk q.2.1 q.2.2.1 sc (compEnvC sc q.2.2.2.2.1 q.2.2.2.1 (X q.1).env) q.2.2.2.2.2
theorem cok_blk {sc : Scope} (o : Cok X K mg k) : Cok (blkX X sc) K mg k := ⟨fun q => o.K q.1, fun q => o.mg q.1, fun q => o.nd q.1, fun q => o.calm q.1, fun q => o.room q.1, fun q => rfl⟩
/-- the same names and scope in all contexts -/
structure Sco (X : I → Cx) (N : List Str) (sc : Scope) : Prop where
  N : ∀ i, (X i).N = N
  sc : ∀ i, (X i).env.scope = sc
/-- the tests of a clause -/
def GTs (X : I → Cx) (es : List Expr) (cs : Cs) (b : Bool) : Prop := ∃ t, (∀ i, PTs (X i) es t) ∧ EvT t cs b
theorem gts_nil : GTs X [] cs true := ⟨tYes, fun _ => pts_nil, fun B0 H0 B H σ Q E q => q B H (Step.refl E.bh)⟩
theorem gts_one {i : Bool} (h : GT X a cs i) : GTs X [a] cs i := by
  obtain ⟨t, p, v⟩ := h
  exact ⟨t, fun j => pts_one (p j), v⟩
theorem ev_lc {α : Type} {wi : TI} {g : TG} {tt : TT} {te : TE} {own : List Nat} {its : List α} {ic : α → List Cell} {pr : α → Bool} {ec : α → Cell} (hi : EvI P wi cs (its.map fun a => itemCell (ic a))) (hg : EvG g sl) (hl : ∀ a ∈ its, (ic a).length = sl.length) (ho : ∀ i ∈ sl, i ∈ own)
    (ht : ∀ a ∈ its, EvT tt (setC (wipeC (imC cs) own) sl (ic a)) (pr a)) (he : ∀ a ∈ its, pr a = true → EvC te (setC (wipeC (imC cs) own) sl (ic a)) (ec a)) (hz : its.length ≤ 16000000) : EvCP P (tLc wi g tt te own) cs (cL ((its.filter pr).map ec)) := fun B0 H0 B H σ Q E p q => by
  refine hi B0 H0 B H σ _ E p fun J B1 H1 g1 wk D hD => ?_
  refine ⟨fun i m H => ∃ B pre post acc, its = pre ++ post ∧ pre.length = i ∧ post.length = m ∧ Step B1 H1 B H ∧ B D = none ∧ H D = some (.lst acc) ∧ Sats B acc ((pre.filter pr).map ec), ⟨its.length, B1, [], its, [], rfl, rfl, rfl, ?_, same_none g1.bh hD, upd_same, .nil⟩, ?_⟩
  · exact ⟨Same.refl _, same_new hD, g1.bh.trans (same_new hD), fun _ _ e _ _ => e⟩
  rintro i m H' ⟨B', pre, post, acc, e1, e2, e3, g2, nb, hh, ss⟩
  cases post with
  | nil =>
    rw [List.append_nil] at e1
    subst e1
    refine .inl ⟨?_, ?_⟩
    · have := wk.stop B' H' g2.b g2.bh
      rw [List.length_map, e2] at this
      exact this
    · refine q (.ref D) (upd B' D (.lst acc)) H' (g1.trans ⟨g2.b.trans (same_new nb), g2.h, upd_same_in g2.bh hh, fun a u e f z => ?_⟩) ⟨D, acc, rfl, upd_same, sats_mono (same_xt (same_new nb)) ss⟩
      rw [upd_ne (ne_of_none f hD)]
      exact g2.nw a u e f z
  | cons a post =>
    have hi' : its[i]? = some a := by rw [e1, List.getElem?_append_right (by omega), e2, Nat.sub_self] <;> rfl
    have ha : a ∈ its := List.mem_of_getElem? hi'
    refine .inr ⟨wk.go i B' H' g2.b g2.bh (by rw [List.length_map]; exact (List.getElem?_eq_some_iff.mp hi').1), fun H => ∃ B acc, Step B1 H1 B H ∧ B D = none ∧ H D = some (.lst acc) ∧ Sats B acc (((pre ++ [a]).filter pr).map ec), ?_, ?_⟩
    · rintro H3 ⟨B3, acc3, g3, nb3, hh3, ss3⟩
      exact ⟨post.length, by rw [← e3]; exact Nat.lt_succ_self _, B3, pre ++ [a], post, acc3, by rw [e1, List.append_assoc] <;> rfl, by rw [List.length_append, e2] <;> rfl, rfl, g3, nb3, hh3, ss3⟩
    · intro x H3 y
      obtain ⟨B3, g3, hx⟩ := wk.yld i (itemCell (ic a)) B' H' x H3 g2.b g2.bh (by rw [List.getElem?_map, hi'] <;> rfl) y
      refine hg B3 H3 _ (ic a) x _ g3.bh (hl a ha) hx fun vs sv => ⟨by rw [wipe_setV ho, wipe_wipe], ?_⟩
      have E3 : Env B3 H3 B3 H3 _ (setC (wipeC (imC cs) own) sl (ic a)) := ((E.still ((g1.trans g2).trans g3)).wipe own).sets sv
      have d3 := g3.nw D _ nb hh (fun _ e => nomatch e)
      have h3 := g3.h _ _ hh
      refine ht a ha B3 H3 B3 H3 _ _ E3 fun B4 H4 g4 => ?_
      have d4 := g4.nw D _ d3 h3 (fun _ e => nomatch e)
      have h4 := g4.h _ _ h3
      cases hp : pr a with
      | false =>
        refine iteF ⟨B4, acc, (g2.trans g3).trans g4, d4, h4, ?_⟩
        rw [List.filter_append, List.filter_cons_of_neg (by rw [hp]; exact Bool.false_ne_true), List.filter_nil, List.append_nil]
        exact sats_mono (same_xt (g3.b.trans g4.b)) ss
      | true =>
        refine iteT (he a ha hp B3 H3 B4 H4 _ _ (E3.go g4) fun v B5 H5 g5 sv5 => ?_)
        have d5 := g5.nw D _ d4 h4 (fun _ e => nomatch e)
        have h5 := g5.h _ _ h4
        have g15 := ((g2.trans g3).trans g4).trans g5
        refine ⟨acc, h5, ?_, B5, acc ++ [v], ⟨g15.b, fun b u e => ?_, fun b u e => ?_, g15.nw⟩, d5, upd_same, ?_⟩
        · have z1 := sats_len ss
          have z2 : (pre.filter pr).length ≤ pre.length := List.length_filter_le _ _
          have z3 : pre.length < its.length := by rw [e1, List.length_append, List.length_cons]; omega
          rw [List.length_map] at z1
          rw [sizeLine_eq]
          omega
        · rw [upd_ne (ne_of_none e hD)]
          exact g15.h _ _ e
        · rw [upd_ne (ne_of_none e d5)]
          exact g15.bh _ _ e
        · rw [List.filter_append, List.filter_cons_of_pos hp, List.filter_nil, List.map_append]
          exact sats_app (sats_mono (same_xt ((g3.b.trans g4.b).trans g5.b)) ss) (.cons sv5 .nil)
section
variable {N : List Str} {sc bsc : Scope} {own : List (Str × Nat)} {α : Type} {its : List α} {ic : α → List Cell} {pr : α → Bool} {ec : α → Cell} {ifs : List Expr} {elt : Expr}
theorem blk_ok (w : Sco X N sc) (h : blkC N sc bsc own = true) (j : I) : BlkOk (X j).N (X j).env.scope bsc own := by
  rw [w.N j, w.sc j]
  exact blkOk_by h
/-- a comprehension as a value -/
theorem ge_lc (w : Sco X N sc) (own : List (Str × Nat)) (o : Cok X K mg k) (hi : GI Any X tg iter cs (its.map fun a => itemCell (ic a))) (hg : GG (blkX X bsc) tg sl) (ht : ∀ a ∈ its, GTs (blkX X bsc) ifs (setC (wipeC (imC cs) (own.map (·.2))) sl (ic a)) (pr a))
    (he : ∀ a ∈ its, pr a = true → GE (blkX X bsc) elt (setC (wipeC (imC cs) (own.map (·.2))) sl (ic a)) (ec a)) (hz : its.length ≤ 16000000) (hl : ∀ a ∈ its, (ic a).length = sl.length := by intro _ _; rfl) (ho : ∀ i ∈ sl, i ∈ own.map (·.2) := by decide)
    (hk : blkC N sc bsc own = true := by decide +kernel) (hs : ∀ j x, foldedSetIterable iter (X j).env x = pure x := by intro _ _; rfl) : GE X (.ListComp elt [⟨tg, iter, ifs, 0⟩] bsc pos) cs (cL ((its.filter pr).map ec)) := by
  obtain ⟨wi, pi, vi⟩ := hi
  obtain ⟨g, pg, vg⟩ := hg
  refine ⟨_, fun j => pe_lc (tt := fun σ H Q => ∃ t, (∀ j, PTs (blkX X bsc j) ifs t) ∧ t σ H Q) (te := fun σ H Q => ∃ t, (∀ j, PE (blkX X bsc j) elt t) ∧ t σ H Q) (o.calm j) (o.nd j) (pi j) (blk_ok w hk j) (fun s H C cl fp => pg (j, s, H, C, cl, fp)) (fun s H C cl fp => ⟨fun pins s' σ H' Q J q => ?_⟩) (fun s H C cl fp => ⟨fun pins s' σ H' Q J q => ?_⟩) (hs j), ev_anyC (ev_lc vi vg hl ho (fun a ha => ?_) (fun a ha hp => ?_) hz)⟩
  · obtain ⟨t, pt, q⟩ := q
    exact (pt (j, s, H, C, cl, fp)).run pins s' σ H' Q J q
  · obtain ⟨t, pt, q⟩ := q
    exact (pt (j, s, H, C, cl, fp)).run pins s' σ H' Q J q
  · obtain ⟨t, pt, vt⟩ := ht a ha
    exact fun B0 H0 B H σ Q E W => ⟨t, pt, vt B0 H0 B H σ Q E W⟩
  · obtain ⟨t, pt, vt⟩ := he a ha hp
    exact fun B0 H0 B H σ Q E W => ⟨t, pt, vt B0 H0 B H σ Q E W⟩
/-- over a dict's items -/
theorem ge_lcItems {kvs : Kvs} {kk : Nat} {tpos apos cpos : Pos} {pr : List Int × Cell → Bool} {ec : List Int × Cell → Cell} (w : Sco X N sc) (own : List (Str × Nat)) (o : Cok X K mg k) (hd : GD X e cs kvs) (hg : GG (blkX X bsc) (.Tuple es kk tpos) sl) (ht : ∀ a ∈ kvs, GTs (blkX X bsc) ifs (setC (wipeC (imC cs) (own.map (·.2))) sl [cS a.1, a.2]) (pr a))
    (he : ∀ a ∈ kvs, pr a = true → GE (blkX X bsc) elt (setC (wipeC (imC cs) (own.map (·.2))) sl [cS a.1, a.2]) (ec a)) (hz : kvs.length ≤ 16000000) (hl : sl.length = 2 := by rfl) (ho : ∀ i ∈ sl, i ∈ own.map (·.2) := by decide)
    (hk : blkC N sc bsc own = true := by decide +kernel) (hbase : ∀ j, attributeBase e "items" (X j).env (eval e (X j).env) = eval e (X j).env := by intro _; rfl) (hline : (apos.endLine == cpos.line) = true := by rfl)
    (hs : ∀ j x, foldedSetIterable (.Call (.Attribute e "items" apos) [] [] cpos) (X j).env x = pure x := by intro _ _; rfl) : GE X (.ListComp elt [⟨.Tuple es kk tpos, .Call (.Attribute e "items" apos) [] [] cpos, ifs, 0⟩] bsc pos) cs (cL ((kvs.filter pr).map ec)) := by
  obtain ⟨td, pd, vd⟩ := hd
  obtain ⟨g, pg, vg⟩ := hg
  refine ⟨_, fun j => pe_lk (pe_lc (tt := fun σ H Q => ∃ t, (∀ j, PTs (blkX X bsc j) ifs t) ∧ t σ H Q) (te := fun σ H Q => ∃ t, (∀ j, PE (blkX X bsc j) elt t) ∧ t σ H Q) (o.calm j) (o.nd j) (pi_itemsT (pd j) (hbase j) hline) (blk_ok w hk j) (fun s H C cl fp => pg (j, s, H, C, cl, fp)) (fun s H C cl fp => ⟨fun pins s' σ H' Q J q => ?_⟩) (fun s H C cl fp => ⟨fun pins s' σ H' Q J q => ?_⟩) (hs j)),
    ev_lockE vd (ev_lc (ic := fun a : List Int × Cell => [cS a.1, a.2]) ev_items vg (fun _ _ => hl.symm) ho (fun a ha => ?_) (fun a ha hp => ?_) hz)⟩
  · obtain ⟨t, pt, q⟩ := q
    exact (pt (j, s, H, C, cl, fp)).run pins s' σ H' Q J q
  · obtain ⟨t, pt, q⟩ := q
    exact (pt (j, s, H, C, cl, fp)).run pins s' σ H' Q J q
  · obtain ⟨t, pt, vt⟩ := ht a ha
    exact fun B0 H0 B H σ Q E W => ⟨t, pt, vt B0 H0 B H σ Q E W⟩
  · obtain ⟨t, pt, vt⟩ := he a ha hp
    exact fun B0 H0 B H σ Q E W => ⟨t, pt, vt B0 H0 B H σ Q E W⟩
/-- y = [..], one for -/
theorem gs_setLc (i : Nat) {spos py : Pos} (w : Sco X N sc) (own : List (Str × Nat)) (o : Cok X K mg k) (hi : GI Any X tg iter cs (its.map fun a => itemCell (ic a))) (hg : GG (blkX X bsc) tg sl) (ht : ∀ a ∈ its, GTs (blkX X bsc) ifs (setC (wipeC (imC cs) (own.map (·.2))) sl (ic a)) (pr a))
    (he : ∀ a ∈ its, pr a = true → GE (blkX X bsc) elt (setC (wipeC (imC cs) (own.map (·.2))) sl (ic a)) (ec a)) (hz : its.length ≤ 16000000) (hl : ∀ a ∈ its, (ic a).length = sl.length := by intro _ _; rfl) (ho : ∀ i ∈ sl, i ∈ own.map (·.2) := by decide)
    (hk : blkC N sc bsc own = true := by decide +kernel) (hs : ∀ j x, foldedSetIterable iter (X j).env x = pure x := by intro _ _; rfl) (hy : ∀ j, (X j).N[i]? = some y := by intro _; rfl) (hyl : sc.names.lookup y = some .local := by decide +kernel) (hkd : sc.kind = .function := by rfl) (hln : (py.line == pos.line) = true := by rfl)
    (hna : (bsc.names.any fun (n, k) => n == y && (k == .local || k == .cell)) = false := by decide +kernel) : GS X (.Assign [.Name y py] (.ListComp elt [⟨tg, iter, ifs, 0⟩] bsc pos) spos) cs (.nx (cs.set i (some (.im (cL ((its.filter pr).map ec)))))) := by
  obtain ⟨wi, pi, vi⟩ := hi
  obtain ⟨g, pg, vg⟩ := hg
  refine ⟨_, fun j => ps_setLc (i := i) (tt := fun σ H Q => ∃ t, (∀ j, PTs (blkX X bsc j) ifs t) ∧ t σ H Q) (te := fun σ H Q => ∃ t, (∀ j, PE (blkX X bsc j) elt t) ∧ t σ H Q) (o.calm j) (o.nd j) (hy j) (by rw [w.sc j]; exact hyl) (sw_true (by rw [w.sc j]; exact hkd) (by rw [w.sc j]; exact hyl) hln hna) (pi j) (blk_ok w hk j) (fun s H C cl fp => pg (j, s, H, C, cl, fp)) (fun s H C cl fp => ⟨fun pins s' σ H' Q J q => ?_⟩) (fun s H C cl fp => ⟨fun pins s' σ H' Q J q => ?_⟩) (hs j), fun B0 H0 B H σ D E W => ?_⟩
  · obtain ⟨t, pt, q⟩ := q
    exact (pt (j, s, H, C, cl, fp)).run pins s' σ H' Q J q
  · obtain ⟨t, pt, q⟩ := q
    exact (pt (j, s, H, C, cl, fp)).run pins s' σ H' Q J q
  · refine ev_anyC (ev_lc vi vg hl ho (fun a ha => ?_) (fun a ha hp => ?_) hz) B0 H0 B H σ _ E fun v B' H' g sv => W B' H' _ ((E.go g).set sv)
    · obtain ⟨t, pt, vt⟩ := ht a ha
      exact fun B0 H0 B H σ Q E W => ⟨t, pt, vt B0 H0 B H σ Q E W⟩
    · obtain ⟨t, pt, vt⟩ := he a ha hp
      exact fun B0 H0 B H σ Q E W => ⟨t, pt, vt B0 H0 B H σ Q E W⟩
end
end
end Ws
set_option Elab.async false
set_option linter.all false
set_option maxRecDepth 100000
set_option maxHeartbeats 4000000
/-! Part 6: comprehensions of two for, statements. -/
namespace Ws
open PySem PySem.Spec L2
theorem sats_split {B : Hp} : ∀ {l l2 : List Cell} {vs : List V}, Sats B vs (l ++ l2) → ∃ ys zs, vs = ys ++ zs ∧ Sats B ys l ∧ Sats B zs l2
  | [], l2, vs, h => ⟨[], vs, rfl, .nil, h⟩
  | c :: l, l2, _, .cons h t => by
    obtain ⟨ys, zs, e, h1, h2⟩ := sats_split (l := l) t
    exact ⟨_ :: ys, zs, by rw [e] <;> rfl, .cons h h1, h2⟩
theorem Env.still2 {B0 H0 B H B' H' : Hp} {σ : St} {cs : Cs} (e : Env B0 H0 B H σ cs) (g : Same B B') (t : Same B' H') : Env B' H' B' H' σ (imC cs) := by
  refine ⟨Step.refl t, by rw [imC, List.length_map]; exact e.len, fun i s h => ?_, fun i j s t p hi hj ms => ?_⟩
  · obtain ⟨c, rfl, hc⟩ := imC_at h
    obtain ⟨v, h1, h2⟩ := e.im hc
    exact ⟨v, h1, c.mono (same_xt g) h2⟩
  · obtain ⟨c, rfl, hc⟩ := imC_at hi
    cases ms
section
variable {I : Type} {X : I → Cx} {K : PySem.W.Frag} {mg : Str → Option Value} {k : Nat} {cs cs' : Cs} {a b d e tg iter tg1 iter1 : Expr} {es : List Expr} {pos p : Pos} {ca cb cc c c' : Cell} {l l2 : List Cell} {x y : Str} {sl sl1 : List Nat} {o : Out} {st : Stmt} {sts sts2 : List Stmt} {P : Hp → St → Prop}
theorem ev_lc2 {α β : Type} {wi wi1 : TI} {g g1 : TG} {te : TE} {own own1 : List Nat} {its : List α} {ic : α → List Cell} {its2 : α → List β} {ic2 : α → β → List Cell} {ec : α → β → Cell} (hi : EvI P wi cs (its.map fun a => itemCell (ic a))) (hg : EvG g sl) (hl : ∀ a ∈ its, (ic a).length = sl.length) (ho : ∀ i ∈ sl, i ∈ own)
    (hi1 : ∀ a ∈ its, EvI Any wi1 (setC (wipeC (imC cs) own) sl (ic a)) ((its2 a).map fun b => itemCell (ic2 a b))) (hg1 : EvG g1 sl1) (hl1 : ∀ a b, (ic2 a b).length = sl1.length) (ho1 : ∀ i ∈ sl1, i ∈ own1)
    (he : ∀ a ∈ its, ∀ b ∈ its2 a, EvC te (setC (wipeC (imC (setC (wipeC (imC cs) own) sl (ic a))) own1) sl1 (ic2 a b)) (ec a b)) (hz : (its.flatMap its2).length ≤ 16000000) : EvCP P (tLc2 wi g tYes wi1 g1 tYes te own own1) cs (cL (its.flatMap fun a => (its2 a).map (ec a))) := fun B0 H0 B H σ Q E p q => by
  refine hi B0 H0 B H σ _ E p fun J B1 H1 g1' wk D hD => ?_
  refine ⟨fun i m H => ∃ B pre post acc, its = pre ++ post ∧ pre.length = i ∧ post.length = m ∧ Step B1 H1 B H ∧ B D = none ∧ H D = some (.lst acc) ∧ Sats B acc (pre.flatMap fun a => (its2 a).map (ec a)), ⟨its.length, B1, [], its, [], rfl, rfl, rfl, ?_, same_none g1'.bh hD, upd_same, .nil⟩, ?_⟩
  · exact ⟨Same.refl _, same_new hD, g1'.bh.trans (same_new hD), fun _ _ e _ _ => e⟩
  rintro i m H' ⟨B', pre, post, acc, e1, e2, e3, g2, nb, hh, ss⟩
  cases post with
  | nil =>
    rw [List.append_nil] at e1
    subst e1
    refine .inl ⟨?_, ?_⟩
    · have := wk.stop B' H' g2.b g2.bh
      rw [List.length_map, e2] at this
      exact this
    · refine q (.ref D) (upd B' D (.lst acc)) H' (g1'.trans ⟨g2.b.trans (same_new nb), g2.h, upd_same_in g2.bh hh, fun a u e f z => ?_⟩) ⟨D, acc, rfl, upd_same, sats_mono (same_xt (same_new nb)) ss⟩
      rw [upd_ne (ne_of_none f hD)]
      exact g2.nw a u e f z
  | cons a post =>
    have hi' : its[i]? = some a := by rw [e1, List.getElem?_append_right (by omega), e2, Nat.sub_self] <;> rfl
    have ha : a ∈ its := List.mem_of_getElem? hi'
    refine .inr ⟨wk.go i B' H' g2.b g2.bh (by rw [List.length_map]; exact (List.getElem?_eq_some_iff.mp hi').1), fun H => ∃ B acc, Step B1 H1 B H ∧ B D = none ∧ H D = some (.lst acc) ∧ Sats B acc ((pre ++ [a]).flatMap fun a => (its2 a).map (ec a)), ?_, ?_⟩
    · rintro H3 ⟨B3, acc3, g3, nb3, hh3, ss3⟩
      exact ⟨post.length, by rw [← e3]; exact Nat.lt_succ_self _, B3, pre ++ [a], post, acc3, by rw [e1, List.append_assoc] <;> rfl, by rw [List.length_append, e2] <;> rfl, rfl, g3, nb3, hh3, ss3⟩
    · intro x H3 y
      obtain ⟨B3, g3, hx⟩ := wk.yld i (itemCell (ic a)) B' H' x H3 g2.b g2.bh (by rw [List.getElem?_map, hi'] <;> rfl) y
      refine hg B3 H3 _ (ic a) x _ g3.bh (hl a ha) hx fun vs sv => ⟨by rw [wipe_setV ho, wipe_wipe], ?_⟩
      have E3 : Env B3 H3 B3 H3 _ (setC (wipeC (imC cs) own) sl (ic a)) := ((E.still ((g1'.trans g2).trans g3)).wipe own).sets sv
      have d3 := g3.nw D _ nb hh (fun _ e => nomatch e)
      have h3 := g3.h _ _ hh
      refine hi1 a ha B3 H3 B3 H3 _ _ E3 trivial fun J1 B4 H4 g4 wk1 => ?_
      have d4 := g4.nw D _ d3 h3 (fun _ e => nomatch e)
      have h4 := g4.h _ _ h3
      refine ⟨fun j n H => ∃ B pre2 post2 acc2, its2 a = pre2 ++ post2 ∧ pre2.length = j ∧ post2.length = n ∧ Step B1 H1 B H ∧ Same B4 B ∧ B D = none ∧ H D = some (.lst acc2) ∧ Sats B acc2 ((pre.flatMap fun a => (its2 a).map (ec a)) ++ pre2.map (ec a)), ⟨(its2 a).length, B4, [], its2 a, acc, rfl, rfl, rfl, (g2.trans g3).trans g4, Same.refl _, d4, h4, ?_⟩, ?_⟩
      · rw [List.map_nil, List.append_nil]
        exact sats_mono (same_xt (g3.b.trans g4.b)) ss
      rintro j n H5 ⟨B5, pre2, post2, acc2, f1, f2, f3, g5, s5, d5, h5, ss5⟩
      cases post2 with
      | nil =>
        rw [List.append_nil] at f1
        refine .inl ⟨?_, B5, acc2, g5, d5, h5, ?_⟩
        · have := wk1.stop B5 H5 s5 g5.bh
          rw [List.length_map, f1, f2] at this
          exact this
        · rw [List.flatMap_append, List.flatMap_singleton, f1]
          exact ss5
      | cons b post2 =>
        have hj' : (its2 a)[j]? = some b := by rw [f1, List.getElem?_append_right (by omega), f2, Nat.sub_self] <;> rfl
        have hb : b ∈ its2 a := List.mem_of_getElem? hj'
        refine .inr ⟨wk1.go j B5 H5 s5 g5.bh (by rw [List.length_map]; exact (List.getElem?_eq_some_iff.mp hj').1), fun H => ∃ B acc2, Step B1 H1 B H ∧ Same B4 B ∧ B D = none ∧ H D = some (.lst acc2) ∧ Sats B acc2 ((pre.flatMap fun a => (its2 a).map (ec a)) ++ (pre2 ++ [b]).map (ec a)), ?_, ?_⟩
        · rintro H6 ⟨B6, acc6, g6, s6, nb6, hh6, ss6⟩
          exact ⟨post2.length, by rw [← f3]; exact Nat.lt_succ_self _, B6, pre2 ++ [b], post2, acc6, by rw [f1, List.append_assoc] <;> rfl, by rw [List.length_append, f2] <;> rfl, rfl, g6, s6, nb6, hh6, ss6⟩
        · intro x6 H6 y6
          obtain ⟨B6, g6, hx6⟩ := wk1.yld j (itemCell (ic2 a b)) B5 H5 x6 H6 s5 g5.bh (by rw [List.getElem?_map, hj'] <;> rfl) y6
          refine hg1 B6 H6 _ (ic2 a b) x6 _ g6.bh (hl1 a b) hx6 fun ws sw => ⟨by rw [wipe_setV ho1, wipe_wipe], ?_⟩
          have E6 : Env B6 H6 B6 H6 _ (setC (wipeC (imC (setC (wipeC (imC cs) own) sl (ic a))) own1) sl1 (ic2 a b)) := ((E3.still2 ((g4.b.trans s5).trans g6.b) g6.bh).wipe own1).sets sw
          have d6 := g6.nw D _ d5 h5 (fun _ e => nomatch e)
          have h6 := g6.h _ _ h5
          refine he a ha b hb B6 H6 B6 H6 _ _ E6 fun v B7 H7 g7 sv7 => ?_
          have d7 := g7.nw D _ d6 h6 (fun _ e => nomatch e)
          have h7 := g7.h _ _ h6
          have g17 := (g5.trans g6).trans g7
          refine ⟨acc2, h7, ?_, B7, acc2 ++ [v], ⟨g17.b, fun b u e => ?_, fun b u e => ?_, g17.nw⟩, (s5.trans g6.b).trans g7.b, d7, upd_same, ?_⟩
          · have z1 := sats_len ss5
            rw [List.length_append, List.length_map] at z1
            have z2 : (its.flatMap its2).length = (pre.flatMap its2).length + (pre2.length + (post2.length + 1)) + (post.flatMap its2).length := by
              rw [e1, List.flatMap_append, List.flatMap_cons, f1]
              simp only [List.length_append, List.length_cons]
              omega
            have z3 : (pre.flatMap fun a => (its2 a).map (ec a)).length = (pre.flatMap its2).length := by
              rw [List.length_flatMap, List.length_flatMap]
              simp only [List.length_map]
            rw [sizeLine_eq]
            omega
          · rw [upd_ne (ne_of_none e hD)]
            exact g17.h _ _ e
          · rw [upd_ne (ne_of_none e d7)]
            exact g17.bh _ _ e
          · rw [List.map_append, ← List.append_assoc]
            exact sats_app (sats_mono (same_xt (g6.b.trans g7.b)) ss5) (.cons sv7 .nil)
section
variable {N : List Str} {sc bsc : Scope} {own : List (Str × Nat)} {α β : Type} {its : List α} {ic : α → List Cell} {its2 : α → List β} {ic2 : α → β → List Cell} {ec : α → β → Cell} {elt : Expr}
theorem gs_setLc2 (i : Nat) {spos py : Pos} (w : Sco X N sc) (own : List (Str × Nat)) (own1 : List Nat) (o : Cok X K mg k) (hi : GI Any X tg iter cs (its.map fun a => itemCell (ic a))) (hg : GG (blkX X bsc) tg sl)
    (hi1 : ∀ a ∈ its, GI Any (blkX X bsc) tg1 iter1 (setC (wipeC (imC cs) (own.map (·.2))) sl (ic a)) ((its2 a).map fun b => itemCell (ic2 a b))) (hg1 : GG (blkX X bsc) tg1 sl1)
    (he : ∀ a ∈ its, ∀ b ∈ its2 a, GE (blkX X bsc) elt (setC (wipeC (imC (setC (wipeC (imC cs) (own.map (·.2))) sl (ic a))) own1) sl1 (ic2 a b)) (ec a b)) (hz : (its.flatMap its2).length ≤ 16000000) (hl : ∀ a ∈ its, (ic a).length = sl.length := by intro _ _; rfl) (ho : ∀ i ∈ sl, i ∈ own.map (·.2) := by decide)
    (hl1 : ∀ a b, (ic2 a b).length = sl1.length := by intro _ _; rfl) (ho1 : ∀ i ∈ sl1, i ∈ own1 := by decide) (hv : ∀ i ∈ own1, i ∈ own.map (·.2) := by decide)
    (hk : blkC N sc bsc own = true := by decide +kernel) (hs : ∀ j x, foldedSetIterable iter (X j).env x = pure x := by intro _ _; rfl) (hs1 : ∀ env x, foldedSetIterable iter1 env x = pure x := by intro _ _; rfl) (hy : ∀ j, (X j).N[i]? = some y := by intro _; rfl) (hyl : sc.names.lookup y = some .local := by decide +kernel) (hkd : sc.kind = .function := by rfl) (hln : (py.line == pos.line) = true := by rfl)
    (hna : (bsc.names.any fun (n, k) => n == y && (k == .local || k == .cell)) = false := by decide +kernel) : GS X (.Assign [.Name y py] (.ListComp elt [⟨tg, iter, [], 0⟩, ⟨tg1, iter1, [], 0⟩] bsc pos) spos) cs (.nx (cs.set i (some (.im (cL (its.flatMap fun a => (its2 a).map (ec a))))))) := by
  obtain ⟨wi, pi, vi⟩ := hi
  obtain ⟨g, pg, vg⟩ := hg
  obtain ⟨g1, pg1, vg1⟩ := hg1
  refine ⟨_, fun j => ps_setLc2 (i := i) (wi1 := fun σ H R => ∃ t, (∀ j, PI (blkX X bsc j) tg1 iter1 t) ∧ t σ H R) (te := fun σ H Q => ∃ t, (∀ j, PE (blkX X bsc j) elt t) ∧ t σ H Q) (vs1 := own1) (o.calm j) (o.nd j) (hy j) (by rw [w.sc j]; exact hyl) (sw_true (by rw [w.sc j]; exact hkd) (by rw [w.sc j]; exact hyl) hln hna) (pi j) (blk_ok w hk j) hv (fun s H C cl fp => pg (j, s, H, C, cl, fp)) (fun s H C cl fp => pts_nil) (fun s H C cl fp => ⟨fun pins s' σ H' R J q => ?_⟩) (fun s H C cl fp => pg1 (j, s, H, C, cl, fp)) (fun s H C cl fp => pts_nil) (fun s H C cl fp => ⟨fun pins s' σ H' Q J q => ?_⟩) (hs j) hs1, fun B0 H0 B H σ D E W => ?_⟩
  · obtain ⟨t, pt, q⟩ := q
    exact (pt (j, s, H, C, cl, fp)).run pins s' σ H' R J q
  · obtain ⟨t, pt, q⟩ := q
    exact (pt (j, s, H, C, cl, fp)).run pins s' σ H' Q J q
  · refine ev_anyC (ev_lc2 vi vg hl ho (fun a ha => ?_) vg1 hl1 ho1 (fun a ha b hb => ?_) hz) B0 H0 B H σ _ E fun v B' H' g sv => W B' H' _ ((E.go g).set sv)
    · obtain ⟨t, pt, vt⟩ := hi1 a ha
      exact fun B0 H0 B H σ Q E W V => ⟨t, pt, vt B0 H0 B H σ Q E W V⟩
    · obtain ⟨t, pt, vt⟩ := he a ha b hb
      exact fun B0 H0 B H σ Q E W => ⟨t, pt, vt B0 H0 B H σ Q E W⟩
end
/-! ### statements -/
theorem gb_nil : GB X [] cs (.nx cs) := ⟨tNext, fun _ => pss_nil, fun B0 H0 B H σ D E W => W B H σ E⟩
theorem gb_cons (h1 : GS X st cs (.nx cs')) (h2 : GB X sts cs' o) : GB X (st :: sts) cs o := by
  obtain ⟨t, pt, vt⟩ := h1
  obtain ⟨u, pu, vu⟩ := h2
  exact ⟨tSeq t u, fun j => pss_cons (pt j) (pu j), fun B0 H0 B H σ D E W => vt B0 H0 B H σ _ E fun B' H' σ' E' => vu B0 H0 B' H' σ' D E' W⟩
theorem gb_stop (h1 : GS X st cs (.rt c)) : GB X (st :: sts) cs (.rt c) := by
  obtain ⟨t, pt, vt⟩ := h1
  exact ⟨tSeq t tNever, fun j => pss_cons (pt j) pss_never, fun B0 H0 B H σ D E W => vt B0 H0 B H σ _ E W⟩
theorem gb_one (h1 : GS X st cs o) : GB X [st] cs o := by
  obtain ⟨t, pt, vt⟩ := h1
  exact ⟨t, fun j => pss_one (pt j), vt⟩
theorem gs_ret (h : GE X e cs c) : GS X (.Return (some e) pos) cs (.rt c) := by
  obtain ⟨t, pt, v⟩ := h
  exact ⟨tRet t, fun j => ps_ret (pt j), fun B0 H0 B H σ D E W => v B0 H0 B H σ _ E fun v B' H' g s => W v B' H' (E.st.trans g) s⟩
theorem gb_ret (h : GE X e cs c) : GB X (.Return (some e) pos :: sts) cs (.rt c) := gb_stop (gs_ret h)
theorem gs_if {i : Bool} (h : GT X a cs i) (h1 : i = true → GB X sts cs o) (h2 : i = false → GB X sts2 cs o) : GS X (.If a sts sts2 pos) cs o := by
  obtain ⟨t, p, v⟩ := h
  cases i with
  | true =>
    obtain ⟨u, p2, w⟩ := h1 rfl
    exact ⟨tIfS t u tNever, fun n => ps_if (p n) (p2 n) pss_never, fun B0 H0 B H σ D E W => v B0 H0 B H σ _ E fun B1 H1 g1 => iteT (w B0 H0 B1 H1 σ D (E.go g1) W)⟩
  | false =>
    obtain ⟨u, p2, w⟩ := h2 rfl
    exact ⟨tIfS t tNever u, fun n => ps_if (p n) pss_never (p2 n), fun B0 H0 B H σ D E W => v B0 H0 B H σ _ E fun B1 H1 g1 => iteF (w B0 H0 B1 H1 σ D (E.go g1) W)⟩
theorem gs_ifT (h : GT X a cs true) (h1 : GB X sts cs o) : GS X (.If a sts sts2 pos) cs o := gs_if h (fun _ => h1) (fun q => nomatch q)
theorem gs_ifF (h : GT X a cs false) (h1 : GB X sts2 cs o) : GS X (.If a sts sts2 pos) cs o := gs_if h (fun q => nomatch q) (fun _ => h1)
/-- if not so: nothing -/
theorem gs_skip (h : GT X a cs false) : GS X (.If a sts [] pos) cs (.nx cs) := gs_ifF h gb_nil
section
variable {i : Nat} {p' : Pos}
theorem gs_set (i : Nat) (ok : Cok X K mg k) (h : GE X e cs c) (hN : ∀ j, (X j).N[i]? = some x := by intro _; rfl) (hx : ∀ j, Loc (X j).env.scope x := by intro _; first | exact Or.inl rfl | exact Or.inr rfl) (hs : ∀ j, swapsWith e (some (.Name x p')) pos.line (X j).env = pure false := by intro _; rfl)
    (hf : ∀ j, (X j).fn x = true ∨ (X j).env.scope.names.lookup x = some .local := by intro _; first | exact Or.inl rfl | exact Or.inr rfl) : GS X (.Assign [.Name x p'] e pos) cs (.nx (cs.set i (some (.im c)))) := by
  obtain ⟨t, pt, v⟩ := h
  exact ⟨_, fun j => ps_set (ok.nd j) (hN j) (hx j) (pt j) (hs j) (hf j), fun B0 H0 B H σ D E W => v B0 H0 B H σ _ E fun v B' H' g s => W B' H' _ ((E.go g).set s)⟩
theorem gs_asg (ok : Cok X K mg k) (h : GE X e cs (itemCell l)) (hg : GG X tg sl) (hl : l.length = sl.length := by rfl) (hs : ∀ j, swapsWithSole [tg] e pos.line (X j).env = pure false := by intro _; rfl) (hw : ∀ j, swappedStores [tg] e (X j).env = pure none := by intro _; rfl)
    (h1 : ∀ j, (assignEach [tg] (X j).env).map (·.2) = [assign tg (X j).env] := by intro _; rfl) : GS X (.Assign [tg] e pos) cs (.nx (setC cs sl l)) := by
  obtain ⟨t, pt, v⟩ := h
  obtain ⟨g, pg, vg⟩ := hg
  exact ⟨_, fun j => ps_asg (pt j) (pg j) (hs j) (hw j) (h1 j), fun B0 H0 B H σ D E W => v B0 H0 B H σ _ E fun v B' H' g s => vg B' H' σ l v _ g.bh hl s fun vs sv => W B' H' _ ((E.go g).sets sv)⟩
/-- a, b = e1, e2 -/
theorem gs_par (i j : Nat) {kt k2 : Nat} {px py pt pt2 : Pos} (ok : Cok X K mg k) (h : GA X [a, b] cs [ca, cb]) (hij : i ≠ j := by decide) (hN : ∀ n, (X n).N[i]? = some x := by intro _; rfl) (hN2 : ∀ n, (X n).N[j]? = some y := by intro _; rfl)
    (hx : ∀ n, (X n).env.scope.names.lookup x = some .local := by intro _; rfl) (hy : ∀ n, (X n).env.scope.names.lookup y = some .local := by intro _; rfl) (hw : ∀ n, swappedStores [.Tuple [.Name x px, .Name y py] kt pt] (.Tuple [a, b] k2 pt2) (X n).env = pure (some [x, y]) := by intro _; rfl)
    (hs : ∀ n, swapsWithSole [.Tuple [.Name x px, .Name y py] kt pt] (.Tuple [a, b] k2 pt2) pos.line (X n).env = pure false := by intro _; rfl) : GS X (.Assign [.Tuple [.Name x px, .Name y py] kt pt] (.Tuple [a, b] k2 pt2) pos) cs (.nx ((cs.set i (some (.im ca))).set j (some (.im cb)))) := by
  obtain ⟨t, pa, v⟩ := h
  refine ⟨_, fun n => ps_par (ok.calm n) (ok.nd n) (hN n) (hN2 n) hij (hx n) (hy n) (pa n) (hw n) (hs n), fun B0 H0 B H σ D E W => v B0 H0 B H σ _ E fun vs B' H' g s => ?_⟩
  obtain ⟨v, w, rfl, h1, h2⟩ := sats2 s
  exact ⟨v, w, rfl, W B' H' _ (((E.go g).set h1).set h2)⟩
/-! own lists and dicts -/
theorem Env.newM {B0 H0 B H : Hp} {σ : St} {u : HO} {s : Slot} {q : Addr} (E : Env B0 H0 B H σ cs) (hq : H q = none) (hs : s.ok H0 B (upd H q u) (.ref q)) : Env B0 H0 B (upd H q u) (σ.set i (some (.ref q))) (cs.set i (some s)) := by
  have gs : Step B0 H0 B (upd H q u) := ⟨E.st.b, E.st.h.trans (same_new hq), E.bh.trans (same_new hq), E.st.nw⟩
  have mv : ∀ {j : Nat} {t : Slot} {w : Addr}, cs[j]? = some (some t) → t.isMut = true → σ[j]? = some (some (.ref w)) → w ≠ q := fun {j t w} hj mt hv => by
    obtain ⟨v, h1, h2⟩ := E.sl j t hj
    rw [hv] at h1
    cases h1
    cases t with
    | im c => cases mt
    | ml l =>
      obtain ⟨p, xs, e, _, _, hh, _⟩ := h2
      cases e
      exact ne_of_none hh hq
    | md l =>
      obtain ⟨p, xs, e, _, _, hh, _⟩ := h2
      cases e
      exact ne_of_none hh hq
    | pm p l =>
      obtain ⟨e, xs, _, _, hh, _⟩ := h2
      cases e
      exact ne_of_none hh hq
  refine ⟨gs, by rw [List.length_set, List.length_set]; exact E.len, fun j t hj => ?_, fun j n t r w hj hn mt mr vj vn => ?_⟩
  · by_cases z : i = j
    · subst z
      have hi : i < cs.length := by
        have := (List.getElem?_eq_some_iff.mp hj).1
        rw [List.length_set] at this
        exact this
      rw [List.getElem?_set_self hi] at hj
      cases hj
      exact ⟨.ref q, by rw [List.getElem?_set_self (by rw [E.len]; exact hi)], hs⟩
    · rw [List.getElem?_set_ne z] at hj ⊢
      obtain ⟨v, h1, h2⟩ := E.sl j t hj
      refine ⟨v, h1, ?_⟩
      cases t with
      | im c => exact h2
      | ml l =>
        obtain ⟨p, xs, e, e0, eb, hh, ss⟩ := h2
        exact ⟨p, xs, e, e0, eb, same_new hq _ _ hh, ss⟩
      | md l =>
        obtain ⟨p, xs, e, e0, eb, hh, ss⟩ := h2
        exact ⟨p, xs, e, e0, eb, same_new hq _ _ hh, ss⟩
      | pm p l =>
        obtain ⟨e, xs, e0, eb, hh, ss⟩ := h2
        exact ⟨e, xs, e0, eb, same_new hq _ _ hh, ss⟩
  · by_cases z : i = j
    · by_cases z2 : i = n
      · exact z.symm.trans z2
      · subst z
        have hi : i < σ.length := by
          have := (List.getElem?_eq_some_iff.mp vj).1
          rw [List.length_set] at this
          exact this
        rw [List.getElem?_set_self hi] at vj
        cases vj
        rw [List.getElem?_set_ne z2] at hn vn
        exact absurd rfl (mv hn mr vn)
    · rw [List.getElem?_set_ne z] at hj vj
      by_cases z2 : i = n
      · subst z2
        have hi : i < σ.length := by
          have := (List.getElem?_eq_some_iff.mp vn).1
          rw [List.length_set] at this
          exact this
        rw [List.getElem?_set_self hi] at vn
        cases vn
        exact absurd rfl (mv hj mt vj)
      · rw [List.getElem?_set_ne z2] at hn vn
        exact E.ap j n t r w hj hn mt mr vj vn
/-- what stands at slot i's address is changed -/
theorem Env.mutM {B0 H0 B H : Hp} {σ : St} {u : HO} {s s' : Slot} {q : Addr} (E : Env B0 H0 B H σ cs) (hi : cs[i]? = some (some s)) (hv : σ[i]? = some (some (.ref q))) (m : s.isMut = true) (m' : s'.isMut = true) (h0 : H0 q = none) (hb : B q = none) (hs : s'.ok H0 B (upd H q u) (.ref q)) : Env B0 H0 B (upd H q u) σ (cs.set i (some s')) := by
  have gs : Step B0 H0 B (upd H q u) := ⟨E.st.b, fun a w e => by rw [upd_ne (ne_of_none e h0)]; exact E.st.h _ _ e, fun a w e => by rw [upd_ne (ne_of_none e hb)]; exact E.bh _ _ e, E.st.nw⟩
  have hi' := (List.getElem?_eq_some_iff.mp hi).1
  have old : ∀ {j : Nat} {t : Slot}, (cs.set i (some s'))[j]? = some (some t) → t.isMut = true → ∃ t', cs[j]? = some (some t') ∧ t'.isMut = true := fun {j t} hj mt => by
    by_cases z : i = j
    · subst z
      exact ⟨s, hi, m⟩
    · rw [List.getElem?_set_ne z] at hj
      exact ⟨t, hj, mt⟩
  refine ⟨gs, by rw [List.length_set]; exact E.len, fun j t hj => ?_, fun j n t r w hj hn mt mr vj vn => ?_⟩
  · by_cases z : i = j
    · subst z
      rw [List.getElem?_set_self hi'] at hj
      cases hj
      exact ⟨.ref q, hv, hs⟩
    · rw [List.getElem?_set_ne z] at hj
      obtain ⟨v, h1, h2⟩ := E.sl j t hj
      refine ⟨v, h1, ?_⟩
      cases t with
      | im c => exact h2
      | ml l =>
        obtain ⟨p, xs, rfl, e0, eb, hh, ss⟩ := h2
        refine ⟨p, xs, rfl, e0, eb, ?_, ss⟩
        rw [upd_ne]
        · exact hh
        · rintro rfl
          exact z (E.ap i j s _ p hi hj m rfl hv h1)
      | md l =>
        obtain ⟨p, xs, rfl, e0, eb, hh, ss⟩ := h2
        refine ⟨p, xs, rfl, e0, eb, ?_, ss⟩
        rw [upd_ne]
        · exact hh
        · rintro rfl
          exact z (E.ap i j s _ p hi hj m rfl hv h1)
      | pm p l =>
        obtain ⟨rfl, xs, e0, eb, hh, ss⟩ := h2
        refine ⟨rfl, xs, e0, eb, ?_, ss⟩
        rw [upd_ne]
        · exact hh
        · rintro rfl
          exact z (E.ap i j s _ p hi hj m rfl hv h1)
  · obtain ⟨t', a1, a2⟩ := old hj mt
    obtain ⟨r', b1, b2⟩ := old hn mr
    exact E.ap j n t' r' w a1 b1 a2 b2 vj vn
theorem gs_newml (i : Nat) (ok : Cok X K mg k) (h : GA X es cs l) (hN : ∀ j, (X j).N[i]? = some x := by intro _; rfl) (hx : ∀ j, Loc (X j).env.scope x := by intro _; first | exact Or.inl rfl | exact Or.inr rfl) (hs : ∀ j, swapsWith (.List es p) (some (.Name x p')) pos.line (X j).env = pure false := by intro _; rfl)
    (hf : ∀ j, (X j).fn x = true ∨ (X j).env.scope.names.lookup x = some .local := by intro _; first | exact Or.inl rfl | exact Or.inr rfl) (hl : l.length ≤ 1000 := by exact Nat.le_of_ble_eq_true rfl) : GS X (.Assign [.Name x p'] (.List es p) pos) cs (.nx (cs.set i (some (.ml l)))) := by
  obtain ⟨t, pt, v⟩ := h
  refine ⟨_, fun j => ps_set (ok.nd j) (hN j) (hx j) (pe_lst (pt j)) (hs j) (hf j), fun B0 H0 B H σ D E W => v B0 H0 B H σ _ E fun vs B' H' g s => ⟨?_, fun q hq => ?_⟩⟩
  · rw [sats_len s]
    exact Nat.le_of_lt (small1000 hl)
  · have E' := E.go g
    exact W B' _ _ (E'.newM hq ⟨q, vs, rfl, same_none E'.st.h hq, same_none E'.bh hq, upd_same, s⟩)
theorem gs_newmd (i : Nat) (ok : Cok X K mg k) (hN : ∀ j, (X j).N[i]? = some x := by intro _; rfl) (hx : ∀ j, Loc (X j).env.scope x := by intro _; first | exact Or.inl rfl | exact Or.inr rfl) (hs : ∀ j, swapsWith (.Dict [] [] p) (some (.Name x p')) pos.line (X j).env = pure false := by intro _; rfl)
    (hf : ∀ j, (X j).fn x = true ∨ (X j).env.scope.names.lookup x = some .local := by intro _; first | exact Or.inl rfl | exact Or.inr rfl) : GS X (.Assign [.Name x p'] (.Dict [] [] p) pos) cs (.nx (cs.set i (some (.md [])))) := by
  refine ⟨_, fun j => ps_set (ok.nd j) (hN j) (hx j) pe_dnewT (hs j) (hf j), fun B0 H0 B H σ D E W q hq => ?_⟩
  exact W B _ _ (E.newM hq ⟨q, [], rfl, same_none E.st.h hq, same_none E.bh hq, upd_same, .nil⟩)
/-- x.append(e) -/
theorem gs_app (i : Nat) {p1 p2 p3 : Pos} (ok : Cok X K mg k) (h : GE X e cs c) (hz : l.length < 16000000) (hi : cs[i]? = some (some (.ml l)) := by rfl) (hN : ∀ j, (X j).N[i]? = some x := by intro _; rfl) (hv : ∀ j, Vis (X j).env.scope x := by intro _; first | exact Or.inl rfl | exact Or.inr (Or.inl rfl) | exact Or.inr (Or.inr rfl))
    (hd : (x == ("__debug__" : Str)) = false := by decide) (hcd : (x == ("__classdict__" : Str)) = false := by decide)
    (hbase : ∀ j, attributeBase (.Name x p1) "append" (X j).env (eval (.Name x p1) (X j).env) = eval (.Name x p1) (X j).env := by intro _; rfl)
    (hfew : ∀ j, ((backTo p3 (starEach [e] (X j).env)).all (fun x => !x.1) && (backToKw p3 (keywordEach [] (X j).env)).all (fun x => x.1.isSome) && decide (([e] : List Expr).length + ([] : List Keyword).length + (if ([] : List Keyword).isEmpty then 0 else 1) < 30)) = true := by intro _; rfl)
    (hline : (p2.endLine == p3.line) = true := by rfl) (hs : ∀ j, starEach [e] (X j).env = (false, eval e (X j).env) :: starEach [] (X j).env := by intro _; rfl) (hpl : ∀ j, (backTo p3 (starEach ([] : List Expr) (X j).env)).any (·.1) = false := by intro _; rfl)
    (hsw : ∀ j, swapsWith (.Call (.Attribute (.Name x p1) "append" p2) [e] [] p3) none pos.line (X j).env = pure false := by intro _; rfl) : GS X (.Expr (.Call (.Attribute (.Name x p1) "append" p2) [e] [] p3) pos) cs (.nx (cs.set i (some (.ml (l ++ [c]))))) := by
  obtain ⟨t, pt, v⟩ := ga_one h hs
  refine ⟨tDrop (tBM K "list" rAppend (tVar i) t), fun j => ps_expr (by
    have h := pe_bm PySem.F.plainAttrs_list PySem.F.slot_list_append PySem.F.type_list_append mt_append (pe_var (pos := p1) (i := i) (hN j) (hv j) hd hcd) (pt j) (hbase j) (hfew j) hline (hs j) (hpl j)
    rw [ok.K j] at h
    exact h) (hsw j), fun B0 H0 B H σ D E W => ?_⟩
  obtain ⟨w, h1, q, xs, rfl, e0, eb, eh, ss⟩ := E.sl i _ hi
  refine ⟨_, h1, .inl ⟨rfl, _, SqL.of eh⟩, v B0 H0 B H σ _ E fun vs B' H' g s => ?_⟩
  obtain ⟨z, rfl, hz'⟩ := sats1 s
  have E' := E.go g
  have eh' := g.h _ _ eh
  have eb' := g.nw _ _ eb eh fun _ e => nomatch e
  refine ⟨q, xs, z, rfl, rfl, eh', ?_, W B' _ σ (E'.mutM hi h1 rfl rfl e0 eb' ⟨q, _, rfl, e0, eb', upd_same, sats_app (sats_mono (same_xt g.b) ss) (.cons hz' .nil)⟩)⟩
  rw [sats_len ss, sizeLine_eq]
  omega
/-- tg = x.pop() -/
theorem gs_pop (i : Nat) {p1 p2 p3 : Pos} {lc : List Cell} (ok : Cok X K mg k) (hg : GG X tg sl) (hi : cs[i]? = some (some (.ml (l ++ [itemCell lc]))) := by rfl) (hl : lc.length = sl.length := by rfl) (hN : ∀ j, (X j).N[i]? = some x := by intro _; rfl) (hv : ∀ j, Vis (X j).env.scope x := by intro _; first | exact Or.inl rfl | exact Or.inr (Or.inl rfl) | exact Or.inr (Or.inr rfl))
    (hd : (x == ("__debug__" : Str)) = false := by decide) (hcd : (x == ("__classdict__" : Str)) = false := by decide)
    (hbase : ∀ j, attributeBase (.Name x p1) "pop" (X j).env (eval (.Name x p1) (X j).env) = eval (.Name x p1) (X j).env := by intro _; rfl) (hline : (p2.endLine == p3.line) = true := by rfl)
    (hs : ∀ j, swapsWithSole [tg] (.Call (.Attribute (.Name x p1) "pop" p2) [] [] p3) pos.line (X j).env = pure false := by intro _; rfl) (hw : ∀ j, swappedStores [tg] (.Call (.Attribute (.Name x p1) "pop" p2) [] [] p3) (X j).env = pure none := by intro _; rfl)
    (h1 : ∀ j, (assignEach [tg] (X j).env).map (·.2) = [assign tg (X j).env] := by intro _; rfl) : GS X (.Assign [tg] (.Call (.Attribute (.Name x p1) "pop" p2) [] [] p3) pos) cs (.nx (setC (cs.set i (some (.ml l))) sl lc)) := by
  obtain ⟨g, pg, vg⟩ := hg
  refine ⟨tAsg (tBM0 K "list" rPop (tVar i)) g, fun j => ps_asg (by
    have h := pe_bm0 PySem.F.plainAttrs_list PySem.F.slot_list_pop PySem.F.type_list_pop mt_pop (pe_var (pos := p1) (i := i) (hN j) (hv j) hd hcd) (hbase j) hline
    rw [ok.K j] at h
    exact h) (pg j) (hs j) (hw j) (h1 j), fun B0 H0 B H σ D E W => ?_⟩
  obtain ⟨w, hv1, q, xs, rfl, e0, eb, eh, ss⟩ := E.sl i _ hi
  obtain ⟨ys, zs, rfl, s1, s2⟩ := sats_split ss
  obtain ⟨z, rfl, hz⟩ := sats1 s2
  refine ⟨_, hv1, .inl ⟨rfl, _, SqL.of eh⟩, q, _, z, rfl, rfl, eh, by rw [List.length_append]; simp, ?_⟩
  rw [List.dropLast_concat]
  have E' := E.mutM (s' := .ml l) (u := .lst ys) hi hv1 rfl rfl e0 eb ⟨q, ys, rfl, e0, eb, upd_same, s1⟩
  exact vg B _ σ lc z _ E'.bh hl hz fun vs sv => W B _ _ (E'.sets sv)
/-- x.pop() as a statement -/
theorem gs_drop (i : Nat) {p1 p2 p3 : Pos} (ok : Cok X K mg k) (hi : cs[i]? = some (some (.ml (l ++ [c]))) := by rfl) (hN : ∀ j, (X j).N[i]? = some x := by intro _; rfl) (hv : ∀ j, Vis (X j).env.scope x := by intro _; first | exact Or.inl rfl | exact Or.inr (Or.inl rfl) | exact Or.inr (Or.inr rfl))
    (hd : (x == ("__debug__" : Str)) = false := by decide) (hcd : (x == ("__classdict__" : Str)) = false := by decide)
    (hbase : ∀ j, attributeBase (.Name x p1) "pop" (X j).env (eval (.Name x p1) (X j).env) = eval (.Name x p1) (X j).env := by intro _; rfl) (hline : (p2.endLine == p3.line) = true := by rfl)
    (hsw : ∀ j, swapsWith (.Call (.Attribute (.Name x p1) "pop" p2) [] [] p3) none pos.line (X j).env = pure false := by intro _; rfl) : GS X (.Expr (.Call (.Attribute (.Name x p1) "pop" p2) [] [] p3) pos) cs (.nx (cs.set i (some (.ml l)))) := by
  refine ⟨tDrop (tBM0 K "list" rPop (tVar i)), fun j => ps_expr (by
    have h := pe_bm0 PySem.F.plainAttrs_list PySem.F.slot_list_pop PySem.F.type_list_pop mt_pop (pe_var (pos := p1) (i := i) (hN j) (hv j) hd hcd) (hbase j) hline
    rw [ok.K j] at h
    exact h) (hsw j), fun B0 H0 B H σ D E W => ?_⟩
  obtain ⟨w, hv1, q, xs, rfl, e0, eb, eh, ss⟩ := E.sl i _ hi
  obtain ⟨ys, zs, rfl, s1, s2⟩ := sats_split ss
  obtain ⟨z, rfl, hz⟩ := sats1 s2
  refine ⟨_, hv1, .inl ⟨rfl, _, SqL.of eh⟩, q, _, z, rfl, rfl, eh, by rw [List.length_append]; simp, ?_⟩
  rw [List.dropLast_concat]
  exact W B _ σ (E.mutM (s' := .ml l) (u := .lst ys) hi hv1 rfl rfl e0 eb ⟨q, ys, rfl, e0, eb, upd_same, s1⟩)
end
/-! ### dicts -/
def putC (kvs : Kvs) (k : List Int) (c : Cell) : Kvs := if (kvs.any fun p => decide (p.1 = k)) = true then kvs.map (fun p => if p.1 = k then (p.1, c) else p) else kvs ++ [(k, c)]
def getC (kvs : Kvs) (k : List Int) (c : Cell) : Cell := match kvs.find? fun p => decide (p.1 = k) with
  | some p => p.2
  | none => c
theorem keyOf_eq {k n : List Int} : (keyOf k = keyOf n) = (k = n) := propext ⟨keyOf_inj, fun e => e ▸ rfl⟩
theorem satk_any {B : Hp} {k : List Int} {xs : List (List Key × V)} {kvs : Kvs} (h : SatK B xs kvs) : (xs.any fun p => decide (p.1 = keyOf k)) = kvs.any fun p => decide (p.1 = k) := by
  induction h with
  | nil => rfl
  | @cons x p _ _ h t ih =>
    rw [List.any_cons, List.any_cons, ih, h.1]
    by_cases q : p.1 = k
    · rw [decide_eq_true q, q, decide_eq_true rfl]
    · rw [decide_eq_false q, decide_eq_false fun z => q (keyOf_inj z)]
theorem satk_put {B : Hp} {k : List Int} {v : V} {xs : List (List Key × V)} {kvs : Kvs} (h : SatK B xs kvs) (hc : c.sat B v) : SatK B (putK xs (keyOf k) v) (putC kvs k c) := by
  unfold putK putC
  rw [satk_any h]
  by_cases q : (kvs.any fun p => decide (p.1 = k)) = true
  · rw [if_pos q, if_pos q]
    clear q
    induction h with
    | nil => exact .nil
    | @cons x p _ _ h t ih =>
      rw [List.map_cons, List.map_cons]
      refine .cons ?_ ih
      by_cases q : p.1 = k
      · rw [if_pos q, if_pos (by rw [h.1, q])]
        exact ⟨h.1, hc⟩
      · rw [if_neg q, if_neg (by rw [h.1]; exact fun z => q (keyOf_inj z))]
        exact h
  · rw [if_neg q, if_neg q]
    clear q
    induction h with
    | nil => exact .cons ⟨rfl, hc⟩ .nil
    | cons h t ih => exact .cons h ih
theorem satk_find {B : Hp} {k : List Int} {v : V} {xs : List (List Key × V)} {kvs : Kvs} (h : SatK B xs kvs) (hc : c.sat B v) : (getC kvs k c).sat B ((valV xs (keyOf k)).getD v) := by
  unfold getC valV
  induction h with
  | nil => exact hc
  | @cons x p _ _ h t ih =>
    rw [List.find?_cons, List.find?_cons, h.1]
    by_cases q : p.1 = k
    · rw [decide_eq_true q, q, decide_eq_true rfl]
      exact h.2
    · rw [decide_eq_false q, decide_eq_false fun z => q (keyOf_inj z)]
      exact ih
/-- a dict that is read -/
def EvR (t : TE) (cs : Cs) (kvs : Kvs) : Prop := ∀ (B0 H0 B H : Hp) (σ : St), Env B0 H0 B H σ cs → ∃ d, (∀ B' H', Step B H B' H' → ∃ xs, Rd H' d (.dT xs) ∧ SatK B' xs kvs) ∧ ∀ Q : VK, Q (.ref d) H → t σ H Q
def GR (X : I → Cx) (e : Expr) (cs : Cs) (kvs : Kvs) : Prop := ∃ t, (∀ i, PE (X i) e t) ∧ EvR t cs kvs
theorem gr_d {kvs : Kvs} (h : GD X e cs kvs) : GR X e cs kvs := by
  obtain ⟨t, pt, v⟩ := h
  refine ⟨t, pt, fun B0 H0 B H σ E => ?_⟩
  obtain ⟨d, xs, hr, ss, run⟩ := v B0 H0 B H σ E
  exact ⟨d, fun B' H' g => ⟨xs, (same_xt (g.b.trans g.bh)).rd _ _ (fun _ _ e => nomatch e) hr, satk_mono (same_xt g.b) ss⟩, fun Q q => run B H Q (same_xt (Same.refl _)) E.bh q⟩
theorem gr_md (i : Nat) {kvs : Kvs} (hi : cs[i]? = some (some (.md kvs)) := by rfl) (hN : ∀ j, (X j).N[i]? = some x := by intro _; rfl) (hv : ∀ j, Vis (X j).env.scope x := by intro _; first | exact Or.inl rfl | exact Or.inr (Or.inl rfl) | exact Or.inr (Or.inr rfl))
    (hd : (x == ("__debug__" : Str)) = false := by decide) (hcd : (x == ("__classdict__" : Str)) = false := by decide) : GR X (.Name x pos) cs kvs := by
  refine ⟨tVar i, fun j => pe_var (hN j) (hv j) hd hcd, fun B0 H0 B H σ E => ?_⟩
  obtain ⟨w, h1, q, xs, rfl, e0, eb, eh, ss⟩ := E.sl i _ hi
  exact ⟨q, fun B' H' g => ⟨xs, .inl (g.h _ _ eh), satk_mono (same_xt g.b) ss⟩, fun Q z => ⟨_, h1, z⟩⟩
theorem ge_get {kvs : Kvs} {ns : List Int} {apos cpos : Pos} (ok : Cok X K mg k) (hd : GR X e cs kvs) (ha : GE X a cs (cS ns)) (hb : GE X b cs c) (m : ∀ j, M2 (X j) e "get" apos a b cpos := by intro _; exact ⟨rfl, rfl, rfl, rfl⟩) : GE X (.Call (.Attribute e "get" apos) [a, b] [] cpos) cs (getC kvs ns c) := by
  obtain ⟨td, pd, vd⟩ := hd
  obtain ⟨ta, pa, va⟩ := ha
  obtain ⟨tb, pb, vb⟩ := hb
  refine ⟨_, fun j => pe_dget2 (by have := (ok.room j).un; omega) (pd j) (pa j) (pb j) (m j), fun B0 H0 B H σ Q E q => ?_⟩
  obtain ⟨d, hr, run⟩ := vd B0 H0 B H σ E
  obtain ⟨xs0, hr0, _⟩ := hr B H (Step.refl E.bh)
  refine run _ ⟨d, rfl, .inr ⟨xs0, hr0⟩, va B0 H0 B H σ _ E fun y B1 H1 g1 s1 => vb B0 H0 B1 H1 σ _ (E.go g1) fun z B2 H2 g2 s2 => ?_⟩
  obtain ⟨w, rfl, hw⟩ := cS_at ((cS ns).mono (same_xt g2.b) s1)
  obtain ⟨xs, hx, ss⟩ := hr B2 H2 (g1.trans g2)
  exact ⟨valV xs (keyOf ns), .inr ⟨xs, keyOf ns, w, hx, rfl, by rw [kV_keyOf]; exact g2.bh _ _ hw, rfl⟩, q _ B2 H2 (g1.trans g2) (satk_find ss s2)⟩
/-- x[key] = value -/
theorem gs_put (i : Nat) {kvs : Kvs} {ns : List Int} {p' po : Pos} (ok : Cok X K mg k) (ha : GE X a cs (cS ns)) (hb : GE X b cs c) (hz : kvs.length < 16000000) (hi : cs[i]? = some (some (.md kvs)) := by rfl) (hN : ∀ j, (X j).N[i]? = some x := by intro _; rfl) (hv : ∀ j, Vis (X j).env.scope x := by intro _; first | exact Or.inl rfl | exact Or.inr (Or.inl rfl) | exact Or.inr (Or.inr rfl))
    (hd : (x == ("__debug__" : Str)) = false := by decide) (hcd : (x == ("__classdict__" : Str)) = false := by decide) (hs : ∀ j, swapsWith b (some (.Subscript (.Name x po) a p')) pos.line (X j).env = pure false := by intro _; rfl) : GS X (.Assign [.Subscript (.Name x po) a p'] b pos) cs (.nx (cs.set i (some (.md (putC kvs ns c))))) := by
  obtain ⟨ta, pa, va⟩ := ha
  obtain ⟨tb, pb, vb⟩ := hb
  refine ⟨_, fun j => ps_dput (by have := (ok.room j).un; omega) (pe_var (i := i) (hN j) (hv j) hd hcd) (pa j) (pb j) (hs j), fun B0 H0 B H σ D E W => vb B0 H0 B H σ _ E fun v B1 H1 g1 s1 => ?_⟩
  obtain ⟨w, h1, q, xs, rfl, e0, eb, eh, ss⟩ := (E.go g1).sl i _ hi
  refine ⟨_, h1, va B0 H0 B1 H1 σ _ (E.go g1) fun y B2 H2 g2 s2 => ?_⟩
  obtain ⟨w, rfl, hw⟩ := cS_at s2
  have eb2 := g2.nw _ _ eb eh fun _ e => nomatch e
  refine ⟨q, _, rfl, .inr ⟨xs, keyOf ns, w, g2.h _ _ eh, rfl, by rw [kV_keyOf]; exact g2.bh _ _ hw, ?_, rfl⟩, W B2 _ σ (((E.go g1).go g2).mutM hi h1 rfl rfl e0 eb2 ⟨q, _, rfl, e0, eb2, upd_same, satk_put (satk_mono (same_xt g2.b) ss) (c.mono (same_xt g2.b) s1)⟩)⟩
  rw [satk_len ss, sizeLine_eq]
  omega
/-- {k: v} -/
theorem ge_disp1 {ns : List Int} (ok : Cok X K mg k) (ha : GE X a cs (cS ns)) (hb : GE X b cs c) : GE X (.Dict [some a] [b] pos) cs (cD [(ns, c)]) := by
  obtain ⟨ta, pa, va⟩ := ha
  obtain ⟨tb, pb, vb⟩ := hb
  refine ⟨_, fun j => pe_disp1 (by have := (ok.room j).un; omega) (pa j) (pb j), fun B0 H0 B H σ Q E q w hw => ?_⟩
  have E1 : Env B0 H0 B (upd H w (.dT [])) σ cs := ⟨⟨E.st.b, E.st.h.trans (same_new hw), E.bh.trans (same_new hw), E.st.nw⟩, E.len, fun i s h => by
    obtain ⟨v, h1, h2⟩ := E.sl i s h
    refine ⟨v, h1, ?_⟩
    cases s with
    | im c => exact h2
    | ml l =>
      obtain ⟨p, xs, e, e0, eb, hh, ss⟩ := h2
      exact ⟨p, xs, e, e0, eb, same_new hw _ _ hh, ss⟩
    | md l =>
      obtain ⟨p, xs, e, e0, eb, hh, ss⟩ := h2
      exact ⟨p, xs, e, e0, eb, same_new hw _ _ hh, ss⟩
    | pm p l =>
      obtain ⟨e, xs, e0, eb, hh, ss⟩ := h2
      exact ⟨e, xs, e0, eb, same_new hw _ _ hh, ss⟩, E.ap⟩
  have bw : B w = none := same_none E.bh hw
  refine va B0 H0 B _ σ _ E1 fun y B1 H1 g1 s1 => vb B0 H0 B1 H1 σ _ (E1.go g1) fun z B2 H2 g2 s2 => ?_
  have g := g1.trans g2
  obtain ⟨r, rfl, hr⟩ := cS_at ((cS ns).mono (same_xt g2.b) s1)
  have h2 : H2 w = some (.dT []) := g.h _ _ upd_same
  have b2 : B2 w = none := g.nw _ _ bw upd_same fun _ e => nomatch e
  refine ⟨r, keyOf ns, rfl, h2, by rw [kV_keyOf]; exact g2.bh _ _ hr, q _ (upd B2 w (.dT [(keyOf ns, z)])) _ ⟨g.b.trans (same_new b2), fun u o e => ?_, upd_same2 g.bh, fun u o e f z => ?_⟩ ⟨w, _, rfl, .inl upd_same, .cons ⟨rfl, c.mono (same_xt (same_new b2)) s2⟩ .nil⟩⟩
  · rw [upd_ne (ne_of_none e hw)]
    exact g.h _ _ (same_new hw _ _ e)
  · have ne := ne_of_none f hw
    rw [upd_ne ne]
    exact g.nw u o e (same_new hw _ _ f) z
/-- {} as a value -/
theorem ge_disp0 : GE X (.Dict [] [] pos) cs (cD []) := ⟨tDNewT, fun j => pe_dnewT, fun B0 H0 B H σ Q E q w hw => q _ _ _ (Step.new E.bh hw) ⟨w, [], rfl, .inl upd_same, .nil⟩⟩
end
end Ws
set_option Elab.async false
set_option linter.all false
set_option maxRecDepth 100000
set_option maxHeartbeats 4000000
/-! Part 7: a def of the text. -/
namespace Ws
open PySem PySem.Spec L2
theorem env_start {N : List Str} {B H : Hp} {vs : List V} {l : List Cell} (s : Same B H) (ss : Sats B vs l) : Env B H B H (L2.start N vs) (l.map (fun c => some (.im c)) ++ List.replicate (N.length - l.length) none) := by
  have e := sats_len ss
  refine ⟨Step.refl s, by unfold L2.start; rw [List.length_append, List.length_append, List.length_map, List.length_map, List.length_replicate, List.length_replicate, e], fun i t h => ?_, fun i j t r p hi hj mt => ?_⟩
  · by_cases q : i < l.length
    · rw [List.getElem?_append_left (by rw [List.length_map]; exact q), List.getElem?_map, List.getElem?_eq_getElem q] at h
      cases h
      obtain ⟨v, h1, h2⟩ := sats_get ss (List.getElem?_eq_getElem q)
      refine ⟨v, ?_, h2⟩
      unfold L2.start
      rw [List.getElem?_append_left (by rw [List.length_map, e]; exact q), List.getElem?_map, h1] <;> rfl
    · rw [List.getElem?_append_right (by rw [List.length_map]; omega), List.length_map] at h
      have := List.mem_of_getElem? h
      rw [List.mem_replicate] at this
      cases this.2
  · by_cases q : i < l.length
    · rw [List.getElem?_append_left (by rw [List.length_map]; exact q), List.getElem?_map, List.getElem?_eq_getElem q] at hi
      cases hi
      cases mt
    · rw [List.getElem?_append_right (by rw [List.length_map]; omega), List.length_map] at hi
      have := List.mem_of_getElem? hi
      rw [List.mem_replicate] at this
      cases this.2
/-- a def of the module's text, as it stands -/
structure Def (K : PySem.W.Frag) (mg : Str → Option Value) (x : Str) (st : Stmt) : Prop where
  ex : ∃ f fd, mg x = some (.ref f) ∧ FunD K x x (defArgs st) (defBody st) (defScope st) [] [] f fd
section
variable {K : PySem.W.Frag} {mg : Str → Option Value} {x qual : Str} {st : Stmt} {params : Arguments} {body : List Stmt} {scope : Scope} {f : Addr} {fd : FuncData} {N ps : List Str} {k : Nat} {G : List Cell → Cell → Prop}
abbrev fX (P : Program) (w : World) (K : PySem.W.Frag) (mg : Str → Option Value) (base : Heap) (N : List Str) (qual : Str) (scope : Scope) (f : Addr) (cd : Value) (A : Around) (outer : List PySem.Env) (s : Shared) (H : Hp) (E : XK) : Unit → Cx := fun _ => (cxOf CX0 P w K mg base N qual scope f cd A outer s H E).nox
/-- a body's end: it returns c, or it ends and c is None -/
def GF {I : Type} (X : I → Cx) (sts : List Stmt) (cs : Cs) (c : Cell) : Prop := GB X sts cs (.rt c) ∨ (c = cN ∧ ∃ cs', GB X sts cs (.nx cs'))
/-- what a body has to show -/
def Body (K : PySem.W.Frag) (mg : Str → Option Value) (N : List Str) (qual : Str) (scope : Scope) (body : List Stmt) (k : Nat) (G : List Cell → Cell → Prop) : Prop :=
  ∀ (P : Program) (w : World) (base : Heap) (f : Addr) (cd : Value) (A : Around) (outer : List PySem.Env) (s : Shared) (H : Hp) (E : XK), Cok (fX P w K mg base N qual scope f cd A outer s H E) K mg k → Sco (fX P w K mg base N qual scope f cd A outer s H E) N scope →
    ∀ (l : List Cell) (c : Cell), G l c → GF (fX P w K mg base N qual scope f cd A outer s H E) body (l.map (fun c => some (.im c)) ++ List.replicate (N.length - l.length) none) c
theorem fn_ok (F : FunD K x qual params body scope [] [] f fd) (S : FnScope N ps scope) (hl : ∀ l c, G l c → l.length = ps.length) (hb : Body K mg N qual scope body k G) (P : Program) (w : World) (base : Heap) : FnOk P w K mg base CX0 (k + 1) f fd ps (spC ps.length G) := by
  refine F.ok S (fun vs H Q E h => h.1) fun cdv A outer s H vs Q E hr h => ?_
  obtain ⟨h1, l, c, B, g, sb, ss, q⟩ := h
  rcases hb P w base f cdv A outer s H E ⟨fun _ => rfl, fun _ => rfl, fun _ => S.nd, fun _ => rfl, fun _ => hr, fun _ => rfl⟩ ⟨fun _ => rfl, fun _ => rfl⟩ l c g with ⟨t, pt, vt⟩ | ⟨rfl, cs', t, pt, vt⟩
  · exact ⟨t, PSs.nox (pt ()), vt B H B H _ _ (env_start sb ss) fun v B' H' gg sv => q v B' H' gg sv⟩
  · exact ⟨t, PSs.nox (pt ()), vt B H B H _ _ (env_start sb ss) fun B' H' σ' E' => q .non B' H' E'.st rfl⟩
theorem def_ok (D : Def K mg x st) (S : FnScope N ps (defScope st)) (hbind : ∀ (kV doc pm : Value) (an : Option Addr) (cdv ct : Value) (us : List Value), us.length = ps.length → bindArgs (PySem.W.fnOf x x (defArgs st) (defBody st) (defScope st) .none kV doc pm an cdv ct) ⟨us, []⟩ = pure (ps.zip us))
    (hl : ∀ l c, G l c → l.length = ps.length) (hb : Body K mg N x (defScope st) (defBody st) k G) : FnK K mg x (k + 1) ps.length G := by
  obtain ⟨f, fd, hm, F⟩ := D.ex
  exact ⟨f, fd, ps, hm, F.kp, F.bindsN hbind, rfl, fn_ok F S hl hb⟩
end
section
variable {I : Type} {X : I → Cx} {K : PySem.W.Frag} {mg : Str → Option Value} {k : Nat} {cs cs' : Cs} {a b d e tg iter : Expr} {es : List Expr} {pos p : Pos} {ca cb cc c c' : Cell} {l l2 : List Cell} {x y : Str} {sl : List Nat} {o : Out} {st : Stmt} {sts sts2 : List Stmt} {P : Hp → St → Prop}
/-- a while of n turns -/
theorem gs_whileN {S : Type} {env : S → Cs} (n : Nat) (sq : Nat → S) (ok : Cok X K mg k) (hc : ∀ i, i ≤ n → GT X a (env (sq i)) (decide (i < n))) (hb : ∀ i, i < n → GB X sts (env (sq i)) (.nx (env (sq (i + 1))))) : GS X (.While a sts [] pos) (env (sq 0)) (.nx (env (sq n))) :=
  gs_while (env := fun i => env (sq i)) (s0 := 0) (fun i => decide (i < n)) (fun i => i + 1) (fun _ => n) (fun i => n - i) (fun i => i ≤ n) ok (Nat.zero_le _) hc (fun i _ h => hb i (of_decide_eq_true h)) (fun i _ h => of_decide_eq_true h)
    (fun i _ h => by have := of_decide_eq_true h; omega) (fun i h1 h2 => by have := of_decide_eq_false h2; omega) (fun i _ _ => rfl)
/-- range(n, m, -1) -/
theorem walk_rngC {B : Hp} {lo : Int} {n : Nat} : Walk (Itc lo (-1) n) B ((List.range n).map fun i => cI (lo - (i : Nat))) where
  go := fun i B' H' _ _ hi => by rw [List.length_map, List.length_range] at hi; exact hi
  yld := fun i c B' H' x H'' s1 s2 hc hy => by
    obtain ⟨rfl, rfl⟩ := hy
    rw [List.getElem?_map] at hc
    by_cases q : i < n
    · rw [List.getElem?_range q] at hc
      cases hc
      refine ⟨B', Step.refl s2, ?_⟩
      show V.int _ = V.int _
      congr 1
      omega
    · rw [List.getElem?_eq_none (by rw [List.length_range]; omega)] at hc
      cases hc
  stop := fun B' H' _ _ => by
    rw [List.length_map, List.length_range]
    exact Nat.le_refl _
theorem gi_down {n m : Int} (o : Cok X K mg k) (hm : mg "range" = none) (ha : GE X a cs (cI n)) (hb : GE X b cs (cI m)) (hd : GE X d cs (cI (-1))) (h1 : -(2 ^ 62) ≤ n ∧ n < 2 ^ 62 ∧ -(2 ^ 62) ≤ m ∧ m < 2 ^ 62)
    (hs1 : ∀ j, starEach [a, b, d] (X j).env = (false, eval a (X j).env) :: starEach [b, d] (X j).env := by intro _; rfl) (hs2 : ∀ j, starEach [b, d] (X j).env = (false, eval b (X j).env) :: starEach [d] (X j).env := by intro _; rfl) (hs3 : ∀ j, starEach [d] (X j).env = (false, eval d (X j).env) :: starEach [] (X j).env := by intro _; rfl)
    (hpl : ∀ j, (backTo pos (starEach [b, d] (X j).env)).any (·.1) = false := by intro _; rfl) (hg : ∀ j, Gl (X j) "range" := by intro _; rfl) :
    GI P X tg (.Call (.Name "range" p) [a, b, d] [] pos) cs ((List.range (n - m).toNat).map fun i => cI (n - (i : Nat))) := by
  obtain ⟨t, pt, v⟩ := ga_cons ha (ga_cons hb (ga_one hd hs3) hs2) hs1
  refine ⟨iRng3 t, fun j => pi_range3 (hg j) (by rw [o.mg j]; exact hm) (pt j) (hs1 j) (hpl j), fun B0 H0 B H σ R E _ q => v B0 H0 B H σ _ E fun w B1 H1 g s => ?_⟩
  obtain ⟨z, z2, z3, rfl, rfl, rfl, rfl⟩ := sats3 s
  exact ⟨n, m, -1, (n - m).toNat, rfl, RgC.neg h1.1 h1.2.1 h1.2.2.1 h1.2.2.2, q _ B1 H1 g walk_rngC⟩
/-! ### list(d.items()), dict(..), sorted(..) -/
abbrev pairC (q : List Int × Cell) : Cell := cT [cS q.1, q.2]
def allT (p : Addr) (B H : Hp) : Hp := fun a => match B a with
  | some o => some o
  | none => if a = p then H a else match H a with
    | some (.tup xs) => some (.tup xs)
    | _ => none
theorem allT_b {q : Addr} {B H : Hp} : Same B (allT q B H) := fun a o e => by unfold allT; rw [e]
theorem allT_h {q : Addr} {B H : Hp} (s : Same B H) : Same (allT q B H) H := fun a o e => by
  unfold allT at e
  cases h : B a with
  | some u =>
    rw [h] at e
    cases e
    exact s _ _ h
  | none =>
    rw [h] at e
    by_cases z : a = q
    · rw [if_pos z] at e
      exact e
    · rw [if_neg z] at e
      cases hh : H a with
      | none => rw [hh] at e; cases e
      | some u =>
        rw [hh] at e
        cases u <;> first | (cases e; rfl) | cases e
theorem allT_t {q a : Addr} {B H : Hp} {xs : List V} (s : Same B H) (h : H a = some (.tup xs)) : allT q B H a = some (.tup xs) := by
  unfold allT
  cases e : B a with
  | some u =>
    have := s _ _ e
    rw [h] at this
    cases this
    rfl
  | none =>
    by_cases z : a = q
    · rw [if_pos z]
      exact h
    · rw [if_neg z, h]
theorem allT_p {q : Addr} {B H : Hp} (h : B q = none) : allT q B H q = H q := by
  unfold allT
  rw [h]
  show (if q = q then H q else _) = _
  rw [if_pos rfl]
theorem allT_step {q : Addr} {B H H' : Hp} (s : Same B H) (g : Same H H') (h : H q = none) : Step B H (allT q B H') H' := ⟨allT_b, g, allT_h (s.trans g), fun a o e f z => by
  unfold allT
  rw [e]
  have ne := ne_of_none f h
  show (if a = q then H' a else _) = _
  rw [if_neg ne]
  have f' := g _ _ f
  split
  · rename_i xs e'
    rw [f'] at e'
    cases e'
    exact absurd rfl (z _)
  · rfl⟩
theorem ge_listItems {kvs : Kvs} {apos cpos : Pos} (ok : Cok X K mg k) (hm : mg "list" = none) (hd : GR X e cs kvs) (hg : ∀ j, Gl (X j) "list" := by intro _; rfl) (hbase : ∀ j, attributeBase e "items" (X j).env (eval e (X j).env) = eval e (X j).env := by intro _; rfl) (hline : (apos.endLine == cpos.line) = true := by rfl)
    (hs : ∀ j, starEach [.Call (.Attribute e "items" apos) [] [] cpos] (X j).env = (false, eval (.Call (.Attribute e "items" apos) [] [] cpos) (X j).env) :: starEach [] (X j).env := by intro _; rfl) : GE X (.Call (.Name "list" p) [.Call (.Attribute e "items" apos) [] [] cpos] [] pos) cs (cL (kvs.map pairC)) := by
  obtain ⟨t, pt, v⟩ := hd
  refine ⟨tListItemsT t, fun j => pe_listItemsT (ok.calm j) (pt j) (hg j) (by rw [ok.mg j]; exact hm) (by decide +kernel) (hbase j) hline (hs j), fun B0 H0 B H σ Q E q => ?_⟩
  obtain ⟨d, hr, run⟩ := v B0 H0 B H σ E
  obtain ⟨xs, hx, ss⟩ := hr B H (Step.refl E.bh)
  refine run _ ⟨d, xs, rfl, hx, fun H' r ts sm hp ht hl pr => ?_⟩
  have s2 := E.bh.trans sm
  refine q _ (allT r B H') H' (allT_step E.bh sm hp) ⟨r, _, rfl, by rw [allT_p (same_none E.bh hp)]; exact hl, ?_⟩
  clear hl hr run hx ht q v
  induction ss generalizing ts with
  | nil => cases pr; exact .nil
  | @cons x c xs kvs h tl ih =>
    cases pr with
    | @cons t _ ts _ hq pr =>
      obtain ⟨w, h1, h2⟩ := hq
      rw [List.map_cons, List.map_cons]
      refine .cons ⟨t, _, rfl, allT_t s2 h1, .cons ?_ (.cons (c.2.mono (same_xt allT_b) h.2) .nil)⟩ (ih _ pr)
      refine cS_mk (allT_t s2 (sm _ _ ?_))
      rw [h2, h.1, kV_keyOf]
/-- the pairs of a list or tuple -/
theorem pairs_of {B H : Hp} (s : Same B H) : ∀ {xs : List V} {kvs : Kvs}, Sats B xs (kvs.map pairC) → ∃ (ts : List Addr) (kv : List (List Key × V)), xs = ts.map V.ref ∧ Paired (PairT K H) ts kv ∧ SatK B kv kvs
  | xs, [], h => by cases h; exact ⟨[], [], rfl, .nil, .nil⟩
  | _, c :: kvs, .cons h t => by
    obtain ⟨ts, kv, rfl, h1, h2⟩ := pairs_of s t
    obtain ⟨r, ys, rfl, hr, sy⟩ := h
    obtain ⟨u, w, rfl, hu, hw⟩ := sats2 sy
    obtain ⟨z, rfl, hz⟩ := cS_at hu
    exact ⟨r :: ts, (keyOf c.1, w) :: kv, rfl, .cons ⟨z, SqT.of (s _ _ hr), by show H z = some (.tup ((keyOf c.1).map kV)); rw [kV_keyOf]; exact s _ _ hz⟩ h1, .cons ⟨rfl, hw⟩ h2⟩
def mergeC (kvs : Kvs) (more : Kvs) : Kvs := more.foldl (fun acc c => putC acc c.1 c.2) kvs
theorem satk_merge {B : Hp} : ∀ {xs ys : List (List Key × V)} {kvs more : Kvs}, SatK B xs kvs → SatK B ys more → SatK B (mergeT xs ys) (mergeC kvs more)
  | xs, _, kvs, _, h, .nil => h
  | xs, _, kvs, _, h, @Paired.cons _ _ _ y m _ _ e t => by
    show SatK B (mergeT (putK xs y.1 y.2) _) (mergeC (putC kvs m.1 m.2) _)
    refine satk_merge ?_ t
    rw [e.1]
    exact satk_put h e.2
theorem rc_dictL {kvs : Kvs} : RC (rDictT K) [cL (kvs.map pairC)] (cD (mergeC [] kvs)) := fun B H vs Q s hs q => by
  obtain ⟨v, rfl, a, xs, rfl, hp, ss⟩ := sats1 hs
  obtain ⟨ts, kv, rfl, h1, h2⟩ := pairs_of (K := K) s ss
  refine ⟨a, ts, kv, rfl, .inl (s _ _ hp), h1, fun t ht => ?_⟩
  have g := Step.new (o := .dT (mergeT [] kv)) s ht
  exact q _ _ _ g ⟨t, _, rfl, .inl upd_same, satk_mono (same_xt g.b) (satk_merge .nil h2)⟩
theorem rc_dictU {kvs : Kvs} : RC (rDictT K) [cU (kvs.map pairC)] (cD (mergeC [] kvs)) := fun B H vs Q s hs q => by
  obtain ⟨v, rfl, a, o, xs, rfl, hd, hp, ss⟩ := sats1 hs
  obtain ⟨ts, kv, rfl, h1, h2⟩ := pairs_of (K := K) s ss
  refine ⟨a, ts, kv, rfl, .inr ⟨o, hd, s _ _ hp⟩, h1, fun t ht => ?_⟩
  have g := Step.new (o := .dT (mergeT [] kv)) s ht
  exact q _ _ _ g ⟨t, _, rfl, .inl upd_same, satk_mono (same_xt g.b) (satk_merge .nil h2)⟩
section
variable (ok : Cok X K mg k)
include ok
theorem cr_dict (j : I) : CallR (X j) (.type "dict") (rDictT K) := by
  have h := call_dictT (X := X j) (ok.calm j) (by have := (ok.room j).un; omega)
  rw [ok.K j] at h
  exact h
theorem ge_dictL {kvs : Kvs} (hm : mg "dict" = none) (ha : GE X e cs (cL (kvs.map pairC))) (hs : ∀ j, starEach [e] (X j).env = (false, eval e (X j).env) :: starEach [] (X j).env := by intro _; rfl) (hg : ∀ j, Gl (X j) "dict" := by intro _; rfl) : GE X (.Call (.Name "dict" p) [e] [] pos) cs (cD (mergeC [] kvs)) :=
  ge_cT ok (cr_dict ok) rc_dictL hm (ga_one ha hs) (by decide +kernel) hg (by decide) (by decide) hs (fun _ => rfl)
theorem ge_dictU {kvs : Kvs} (hm : mg "dict" = none) (ha : GE X e cs (cU (kvs.map pairC))) (hs : ∀ j, starEach [e] (X j).env = (false, eval e (X j).env) :: starEach [] (X j).env := by intro _; rfl) (hg : ∀ j, Gl (X j) "dict" := by intro _; rfl) : GE X (.Call (.Name "dict" p) [e] [] pos) cs (cD (mergeC [] kvs)) :=
  ge_cT ok (cr_dict ok) rc_dictU hm (ga_one ha hs) (by decide +kernel) hg (by decide) (by decide) hs (fun _ => rfl)
end
/-- pairs of a tuple of ints and a fraction over 1 -/
abbrev fP (K : PySem.W.Frag) (ps : List (List Int × Int)) : Kvs := ps.map fun q => (q.1, cF K q.2 1)
abbrev nP (ps : List (List Int × Int)) : Kvs := ps.map fun q => (q.1, cI q.2)
def sortK (ps : List (List Int × Int)) : List (List Int × Int) := ps.mergeSort fun a b => !HT.lexLt b.1 a.1
theorem dps_of {B H : Hp} (s : Same B H) : ∀ {xs : List V} {ps : List (List Int × Int)}, Sats B xs ((fP K ps).map pairC) → ∃ ts : List Addr, xs = ts.map V.ref ∧ Paired (fun t c => Dp K H (.ref t) (encP c)) ts (ps.map fun q => (q.1, q.2, (1 : Int))) ∧ Paired (fun t (c : List Int × Int × Int) => (cT [cS c.1, cF K c.2.1 c.2.2]).sat B (.ref t)) ts (ps.map fun q => (q.1, q.2, (1 : Int)))
  | xs, [], h => by cases h; exact ⟨[], rfl, .nil, .nil⟩
  | _, c :: ps, .cons h t => by
    obtain ⟨ts, rfl, h1, h2⟩ := dps_of s t
    have h' := h
    obtain ⟨r, ys, rfl, hr, sy⟩ := h
    refine ⟨r :: ts, rfl, .cons ?_ h1, .cons h' h2⟩
    have d : DC K (cT [cS c.1, cF K c.2 1]) (encP (c.1, c.2, 1)) := dc_T (.cons (dc_T (dcs_ints _)) (.cons dc_F .nil))
    exact d H _ (Cell.mono _ (same_xt s) h')
theorem lexLt_irr {a : List Int} : HT.lexLt a a = false := by
  rw [lexLt_dec]
  exact decide_eq_false (List.lt_irrefl a)
theorem lexLt_asym {a b : List Int} (h : HT.lexLt a b = true) : HT.lexLt b a = false := by
  rw [lexLt_dec] at h ⊢
  exact decide_eq_false (List.lt_asymm (of_decide_eq_true h))
theorem sort_fst : ∀ {out : List (Addr × List Int × Int × Int)} {ts : List Addr} {ps : List (List Int × Int)}, ts.length = ps.length → out.Perm (ts.zip (ps.map fun q => (q.1, q.2, (1 : Int)))) → (out.map fun z => (z.2.1, z.2.2.1)).Perm ps := fun {out ts ps} hl h => by
  have e : (ts.zip (ps.map fun q => (q.1, q.2, (1 : Int)))).map (fun z => (z.2.1, z.2.2.1)) = ps := by
    clear h
    induction ps generalizing ts with
    | nil => cases ts <;> rfl
    | cons p ps ih =>
      cases ts with
      | nil => cases hl
      | cons t ts =>
        rw [List.map_cons, List.zip_cons_cons, List.map_cons, ih (Nat.succ.inj hl)]
  have := h.map fun z => (z.2.1, z.2.2.1)
  rw [e] at this
  exact this
theorem lexLt_neq {a b : List Int} (h : HT.lexLt a b = true) : a ≠ b := fun e => by
  rw [e, lexLt_irr] at h
  cases h
theorem lexLt_tot {a b : List Int} : (!HT.lexLt b a || !HT.lexLt a b) = true := by
  rw [lexLt_dec, lexLt_dec]
  by_cases q : b < a
  · rw [decide_eq_true q, decide_eq_false (List.lt_asymm q)] <;> rfl
  · rw [decide_eq_false q] <;> rfl
theorem sortK_asc {ps : List (List Int × Int)} (hn : (ps.map (·.1)).Nodup) : (sortK ps).Pairwise fun a b => HT.lexLt a.1 b.1 = true := by
  have h1 : (sortK ps).Pairwise fun a b => (!HT.lexLt b.1 a.1) = true := List.pairwise_mergeSort (fun a b c h1 h2 => by
    rw [lexLt_dec] at *
    simp only [Bool.not_eq_true', decide_eq_false_iff_not] at *
    intro h
    rcases Classical.em (b.1 < c.1) with q | q
    · exact h1 (List.lt_trans q h)
    · have e1 := List.le_antisymm (List.not_lt.mp q) (List.not_lt.mp h2)
      rw [e1] at h
      exact h1 h) (fun a b => lexLt_tot) ps
  have h2 : ((sortK ps).map (·.1)).Nodup := ((List.mergeSort_perm ps _).map _).nodup_iff.mpr hn
  have h3 : (sortK ps).Pairwise fun a b => a.1 ≠ b.1 := (List.pairwise_map.mp h2)
  refine (h1.and h3).imp fun {a b} ⟨p, q⟩ => ?_
  rw [lexLt_dec] at *
  simp only [Bool.not_eq_true', decide_eq_false_iff_not] at p
  rcases Classical.em (a.1 < b.1) with z | z
  · exact decide_eq_true z
  · exact absurd (List.le_antisymm (List.not_lt.mp p) (List.not_lt.mp z)) q
theorem asc_eq : ∀ {l l' : List (List Int × Int)}, l.Perm l' → l.Pairwise (fun a b => HT.lexLt a.1 b.1 = true) → l'.Pairwise (fun a b => HT.lexLt a.1 b.1 = true) → l = l' := fun {l l'} p h h' =>
  p.eq_of_pairwise (fun a b _ _ h1 h2 => by
    rw [lexLt_asym h1] at h2
    cases h2) h h'
theorem ge_sortK {ps : List (List Int × Int)} (ok : Cok X K mg k) (hn : (ps.map (·.1)).Nodup) (hm : mg "sorted" = none) (ha : GE X e cs (cL ((fP K ps).map pairC))) (hs : ∀ j, starEach [e] (X j).env = (false, eval e (X j).env) :: starEach [] (X j).env := by intro _; rfl) (hg : ∀ j, Gl (X j) "sorted" := by intro _; rfl) :
    GE X (.Call (.Name "sorted" p) [e] [] pos) cs (cL ((fP K (sortK ps)).map pairC)) :=
  ge_cB ok (r := rSortP K) (fun j => by have h := call_sortP (X := X j) (by have := (ok.room j).un; omega); rw [ok.K j] at h; exact h) (fun B H vs Q s hs q => by
    obtain ⟨v, rfl, a, xs, rfl, hp, ss⟩ := sats1 hs
    obtain ⟨ts, rfl, h1, h2⟩ := dps_of s ss
    refine ⟨a, ts, _, rfl, SqL.of (s _ _ hp), h1, fun t ht => ?_⟩
    have g := Step.new (o := .lst ((sortP ts (ps.map fun q => (q.1, q.2, (1 : Int)))).map fun z => V.ref z.1)) s ht
    refine q _ _ _ g ⟨t, _, rfl, upd_same, ?_⟩
    have hl : ts.length = ps.length := by
      have := Paired.length h1
      rw [List.length_map] at this
      exact this
    have e1 : (sortP ts (ps.map fun q => (q.1, q.2, (1 : Int)))).map (fun z => (z.2.1, z.2.2.1)) = sortK ps := by
      refine asc_eq ((sort_fst hl (sortP_perm _ _)).trans (List.mergeSort_perm ps _).symm) ?_ (sortK_asc hn)
      refine List.pairwise_map.mpr (sortP_asc ?_)
      rw [List.map_map]
      exact hn
    have e2 : ∀ z ∈ sortP ts (ps.map fun q => (q.1, q.2, (1 : Int))), (pairC (z.2.1, cF K z.2.2.1 1)).sat (upd B t (.lst ((sortP ts (ps.map fun q => (q.1, q.2, (1 : Int)))).map fun z => V.ref z.1))) (.ref z.1) := fun z hz => by
      have hz' := (sortP_perm _ _).mem_iff.mp hz
      have : ∀ {ts : List Addr} {ps : List (List Int × Int)}, Paired (fun t (c : List Int × Int × Int) => (cT [cS c.1, cF K c.2.1 c.2.2]).sat B (.ref t)) ts (ps.map fun q => (q.1, q.2, (1 : Int))) → z ∈ ts.zip (ps.map fun q => (q.1, q.2, (1 : Int))) → (pairC (z.2.1, cF K z.2.2.1 1)).sat B (.ref z.1) := by
        intro ts ps
        induction ps generalizing ts with
        | nil => intro h hz; cases ts <;> cases hz
        | cons p ps ih =>
          intro h hz
          cases h with
          | cons h t =>
            rw [List.map_cons, List.zip_cons_cons] at hz
            rcases List.mem_cons.mp hz with e | hz
            · subst e
              exact h
            · exact ih t hz
      exact Cell.mono _ (same_xt g.b) (this h2 hz')
    rw [← e1]
    generalize sortP ts (ps.map fun q => (q.1, q.2, (1 : Int))) = out at e2
    have : ∀ (B : Hp) (out : List (Addr × List Int × Int × Int)), (∀ z ∈ out, (pairC (z.2.1, cF K z.2.2.1 1)).sat B (.ref z.1)) → Sats B (out.map fun z => V.ref z.1) ((fP K (out.map fun z => (z.2.1, z.2.2.1))).map pairC) := by
      intro B out
      induction out with
      | nil => intro _; exact .nil
      | cons z out ih => exact fun h => .cons (h z List.mem_cons_self) (ih fun w hw => h w (List.mem_cons_of_mem _ hw))
    exact this _ out e2) hm (ga_one ha hs) PyProof.Rows.boot_sorted hg (by decide) (by decide) hs (fun _ => rfl)
end
end Ws
set_option Elab.async false
set_option linter.all false
set_option maxRecDepth 100000
set_option maxHeartbeats 4000000
/-! Part 8: short forms. -/
namespace Ws
open PySem PySem.Spec L2
structure Frees (mg : Str → Option Value) : Prop where
  len : mg "len" = none
  tuple : mg "tuple" = none
  isinstance : mg "isinstance" = none
  all : mg "all" = none
  sum : mg "sum" = none
  range : mg "range" = none
  min : mg "min" = none
  max : mg "max" = none
  int : mg "int" = none
  abs : mg "abs" = none
  divmod : mg "divmod" = none
  sorted : mg "sorted" = none
  enumerate : mg "enumerate" = none
  zip : mg "zip" = none
  dict : mg "dict" = none
  list : mg "list" = none
  bool : mg "bool" = none
  str : mg "str" = none
section
variable {I : Type} {X : I → Cx} {K : PySem.W.Frag} {mg : Str → Option Value} {k : Nat} {cs cs' : Cs} {a b d e tg iter elt : Expr} {es : List Expr} {pos p : Pos} {ca cb cc c c' : Cell} {l l2 : List Cell} {x y : Str} {sl : List Nat} {o : Out} {st : Stmt} {sts sts2 : List Stmt} {P : Hp → St → Prop}
theorem gw_orF {j : Bool} (h : GT X a cs false) (h2 : GW X (.BoolOp .Or (b :: es) pos) cs j) : GW X (.BoolOp .Or (a :: b :: es) pos) cs j := by
  have := gw_or h (fun _ => h2)
  rw [Bool.false_or] at this
  exact this
theorem gw_orT (h : GT X a cs true) : GW X (.BoolOp .Or (a :: b :: es) pos) cs true := gw_or (j := true) h (fun q => nomatch q)
theorem gw_andT {j : Bool} (h : GT X a cs true) (h2 : GW X (.BoolOp .And (b :: es) pos) cs j) : GW X (.BoolOp .And (a :: b :: es) pos) cs j := by
  have := gw_and h (fun _ => h2)
  rw [Bool.true_and] at this
  exact this
theorem gw_is {i j : Bool} (h : GW X a cs i) (w : i = j) : GW X a cs j := w ▸ h
theorem ge_int' {i : Int} {j : Nat} (h : i = 0 := by rfl) : GE X (.Constant (.int i) j pos) cs (cI i) := ge_int
/-- an item of a tuple of ints, of a list of ints -/
theorem ge_ixS {ns : List Int} {j : Int} (n : Nat) (ok : Cok X K mg k) (ha : GE X a cs (cS ns)) (hb : GE X b cs (cI j)) (hj : j = (n : Int)) (hn : n < ns.length) (hp : PlainIx b := by intro _ _; rfl) : GE X (.Subscript a b pos) cs (cI (ns.getD n 0)) := by
  subst hj
  exact ge_ixT ok ha hb (Int.natCast_nonneg n) (by rw [Int.toNat_natCast, List.getElem?_map, List.getElem?_eq_getElem hn, List.getD_eq_getElem?_getD, List.getElem?_eq_getElem hn] <;> rfl) hp
theorem ge_ixLI {ns : List Int} {j : Int} (n : Nat) (ok : Cok X K mg k) (ha : GE X a cs (cL (ns.map cI))) (hb : GE X b cs (cI j)) (hj : j = (n : Int)) (hn : n < ns.length) (hp : PlainIx b := by intro _ _; rfl) : GE X (.Subscript a b pos) cs (cI (ns.getD n 0)) := by
  subst hj
  exact ge_ixL ok ha hb (Int.natCast_nonneg n) (by rw [Int.toNat_natCast, List.getElem?_map, List.getElem?_eq_getElem hn, List.getD_eq_getElem?_getD, List.getElem?_eq_getElem hn] <;> rfl) hp
theorem gi_rngN {n : Int} (m : Nat) (ok : Cok X K mg k) (hm : mg "range" = none) (h : GE X a cs (cI n)) (hn : n.toNat = m) (h1 : -(2 ^ 62) ≤ n := by omega) (h2 : n < 2 ^ 62 := by omega) (hs : ∀ j, starEach [a] (X j).env = (false, eval a (X j).env) :: starEach [] (X j).env := by intro _; rfl) (hg : ∀ j, Gl (X j) "range" := by intro _; rfl) :
    GI P X tg (.Call (.Name "range" p) [a] [] pos) cs ((List.range m).map fun i => cI (i : Nat)) := by
  subst hn
  exact gi_rng1 ok hm h h1 h2 hs hg
theorem gi_rng2N {n m : Int} (q : Nat) (ok : Cok X K mg k) (hm : mg "range" = none) (ha : GE X a cs (cI n)) (hb : GE X b cs (cI m)) (hq : (m - n).toNat = q) (h1 : -(2 ^ 62) ≤ n ∧ n < 2 ^ 62 ∧ -(2 ^ 62) ≤ m ∧ m < 2 ^ 62) (hs : ∀ j, starEach [a, b] (X j).env = [(false, eval a (X j).env), (false, eval b (X j).env)] := by intro _; rfl)
    (hs1 : ∀ j, starEach [a, b] (X j).env = (false, eval a (X j).env) :: starEach [b] (X j).env := by intro _; rfl) (hs2 : ∀ j, starEach [b] (X j).env = (false, eval b (X j).env) :: starEach [] (X j).env := by intro _; rfl) (hg : ∀ j, Gl (X j) "range" := by intro _; rfl) :
    GI P X tg (.Call (.Name "range" p) [a, b] [] pos) cs ((List.range q).map fun i => cI (n + (i : Nat))) := by
  subst hq
  exact gi_rng2 ok hm ha hb h1 hs hs1 hs2 hg
theorem filt_all {α : Type} (l : List α) : l.filter (fun _ => true) = l := List.filter_eq_self.mpr fun _ _ => rfl
section
variable {N : List Str} {sc bsc : Scope} {own : List (Str × Nat)} {α : Type} {its : List α} {ic : α → List Cell} {pr : α → Bool} {ec : α → Cell} {ifs : List Expr}
theorem ge_lc0 (w : Sco X N sc) (own : List (Str × Nat)) (ok : Cok X K mg k) (hi : GI Any X tg iter cs (its.map fun a => itemCell (ic a))) (hg : GG (blkX X bsc) tg sl)
    (he : ∀ a ∈ its, GE (blkX X bsc) elt (setC (wipeC (imC cs) (own.map (·.2))) sl (ic a)) (ec a)) (hz : its.length ≤ 16000000) (hl : ∀ a ∈ its, (ic a).length = sl.length := by intro _ _; rfl) (ho : ∀ i ∈ sl, i ∈ own.map (·.2) := by decide)
    (hk : blkC N sc bsc own = true := by decide +kernel) (hs : ∀ j x, foldedSetIterable iter (X j).env x = pure x := by intro _ _; rfl) : GE X (.ListComp elt [⟨tg, iter, [], 0⟩] bsc pos) cs (cL (its.map ec)) := by
  have h := ge_lc (pr := fun _ => true) (pos := pos) w own ok hi hg (fun _ _ => gts_nil) (fun a ha _ => he a ha) hz hl ho hk hs
  rw [filt_all] at h
  exact h
theorem gs_setLc0 (i : Nat) {spos py : Pos} (w : Sco X N sc) (own : List (Str × Nat)) (ok : Cok X K mg k) (hi : GI Any X tg iter cs (its.map fun a => itemCell (ic a))) (hg : GG (blkX X bsc) tg sl)
    (he : ∀ a ∈ its, GE (blkX X bsc) elt (setC (wipeC (imC cs) (own.map (·.2))) sl (ic a)) (ec a)) (hz : its.length ≤ 16000000) (hl : ∀ a ∈ its, (ic a).length = sl.length := by intro _ _; rfl) (ho : ∀ i ∈ sl, i ∈ own.map (·.2) := by decide)
    (hk : blkC N sc bsc own = true := by decide +kernel) (hs : ∀ j x, foldedSetIterable iter (X j).env x = pure x := by intro _ _; rfl) (hy : ∀ j, (X j).N[i]? = some y := by intro _; rfl) (hyl : sc.names.lookup y = some .local := by decide +kernel) (hkd : sc.kind = .function := by rfl) (hln : (py.line == pos.line) = true := by rfl)
    (hna : (bsc.names.any fun (n, k) => n == y && (k == .local || k == .cell)) = false := by decide +kernel) : GS X (.Assign [.Name y py] (.ListComp elt [⟨tg, iter, [], 0⟩] bsc pos) spos) cs (.nx (cs.set i (some (.im (cL (its.map ec)))))) := by
  have h := gs_setLc (pr := fun _ => true) (pos := pos) (spos := spos) (py := py) i w own ok hi hg (fun _ _ => gts_nil) (fun a ha _ => he a ha) hz hl ho hk hs hy hyl hkd hln hna
  rw [filt_all] at h
  exact h
theorem map_cB {f : α → Bool} {l : List α} : (l.map fun a => cB (f a)) = (l.map f).map cB := by rw [List.map_map] <;> rfl
theorem map_cI {f : α → Int} {l : List α} : (l.map fun a => cI (f a)) = (l.map f).map cI := by rw [List.map_map] <;> rfl
section
variable (ok : Cok X K mg k) (Fr : Frees mg)
include ok Fr
theorem ge_allOf {f : α → Bool} (ha : GE X e cs (cL (its.map fun a => cB (f a)))) (hs : ∀ j, starEach [e] (X j).env = (false, eval e (X j).env) :: starEach [] (X j).env := by intro _; rfl) (hg : ∀ j, Gl (X j) "all" := by intro _; rfl) : GE X (.Call (.Name "all" p) [e] [] pos) cs (cB (its.all f)) := by
  rw [map_cB] at ha
  have h := ge_all (p := p) (pos := pos) ok Fr.all ha hs hg
  rw [List.all_map] at h
  exact h
theorem ge_sumOf {f : α → Int} (ha : GE X e cs (cL (its.map fun a => cI (f a)))) (hs : ∀ j, starEach [e] (X j).env = (false, eval e (X j).env) :: starEach [] (X j).env := by intro _; rfl) (hg : ∀ j, Gl (X j) "sum" := by intro _; rfl) : GE X (.Call (.Name "sum" p) [e] [] pos) cs (cI (its.map f).sum) := by
  rw [map_cI] at ha
  exact ge_sumL ok Fr.sum ha hs hg
/-- tuple([..]) of ints -/
theorem ge_tupOf {f : α → Int} (ha : GE X e cs (cL (its.map fun a => cI (f a)))) (hs : ∀ j, starEach [e] (X j).env = (false, eval e (X j).env) :: starEach [] (X j).env := by intro _; rfl) (hg : ∀ j, Gl (X j) "tuple" := by intro _; rfl) : GE X (.Call (.Name "tuple" p) [e] [] pos) cs (cS (its.map f)) := by
  rw [map_cI] at ha
  exact ge_tupL ok Fr.tuple ha hs hg
theorem ge_lenS {ns : List Int} (ha : GE X e cs (cS ns)) (hs : ∀ j, starEach [e] (X j).env = (false, eval e (X j).env) :: starEach [] (X j).env := by intro _; rfl) (hg : ∀ j, Gl (X j) "len" := by intro _; rfl) : GE X (.Call (.Name "len" p) [e] [] pos) cs (cI ns.length) := by
  have h := ge_len (p := p) (pos := pos) ok Fr.len ha hs hg
  rw [List.length_map] at h
  exact h
theorem ge_lenOf {f : α → Cell} (ha : GE X e cs (cL (its.map f))) (hs : ∀ j, starEach [e] (X j).env = (false, eval e (X j).env) :: starEach [] (X j).env := by intro _; rfl) (hg : ∀ j, Gl (X j) "len" := by intro _; rfl) : GE X (.Call (.Name "len" p) [e] [] pos) cs (cI its.length) := by
  have h := ge_lenL (p := p) (pos := pos) ok Fr.len ha hs hg
  rw [List.length_map] at h
  exact h
end
end
end
/-- the scope within a comprehension -/
def relS (bsc sc : Scope) : Scope := { bsc with names := bsc.names.map fun (n, k) => if (k == .free && sc.kind == .function && sc.names.lookup n == some .cell) then (n, .cell) else (n, k) }
theorem sco_blk {I : Type} {X : I → Cx} {N : List Str} {sc bsc : Scope} (w : Sco X N sc) : Sco (blkX X bsc) N (relS bsc sc) := ⟨fun q => w.N q.1, fun q => by rw [← w.sc q.1]; rfl⟩
/-! pure facts -/
/-- a shape within m -/
def shpB (m : Int) (ns : List Int) : Bool := decide ((ns.length : Int) ≤ m) && (ns.all (fun n => decide (1 ≤ n) && decide (n ≤ m)) && (decide (ns.sum ≤ m) && (List.range (ns.length - 1)).all fun i => decide (ns.getD (i + 1) 0 ≤ ns.getD i 0)))
end Ws
set_option Elab.async false
set_option linter.all false
set_option maxRecDepth 100000
set_option maxHeartbeats 4000000
/-! Part 9: defs by a datum, folds. -/
namespace Ws
open PySem PySem.Spec L2
/-- what a def promises, by a datum -/
def SpG {α : Type} (pre : α → Prop) (args : α → List Cell) (res : α → Cell) : List Cell → Cell → Prop := fun l c => ∃ a, pre a ∧ l = args a ∧ c = res a
theorem def_okA {K : PySem.W.Frag} {mg : Str → Option Value} {x : Str} {st : Stmt} {k : Nat} {α : Type} {pre : α → Prop} {args : α → List Cell} {res : α → Cell} (N ps : List Str) (D : Def K mg x st)
    (hb : ∀ (P : Program) (w : World) (base : Heap) (f : Addr) (cd : Value) (A : Around) (outer : List PySem.Env) (s : Shared) (H : Hp) (E : XK), Cok (fX P w K mg base N x (defScope st) f cd A outer s H E) K mg k → Sco (fX P w K mg base N x (defScope st) f cd A outer s H E) N (defScope st) →
      ∀ a, pre a → GF (fX P w K mg base N x (defScope st) f cd A outer s H E) (defBody st) ((args a).map (fun c => some (.im c)) ++ List.replicate (N.length - (args a).length) none) (res a))
    (hl : ∀ a, (args a).length = ps.length := by intro _; rfl) (S : FnScope N ps (defScope st) := by exact ⟨rfl, rfl, rfl, by decide +kernel, rfl, by decide +kernel, by decide +kernel⟩)
    (hbind : ∀ (kV doc pm : Value) (an : Option Addr) (cdv ct : Value) (us : List Value), us.length = ps.length → bindArgs (PySem.W.fnOf x x (defArgs st) (defBody st) (defScope st) .none kV doc pm an cdv ct) ⟨us, []⟩ = pure (ps.zip us) := by
      intro _ _ _ _ _ _ us hl
      first
        | (match us, hl with | [_], _ => rfl)
        | (match us, hl with | [_, _], _ => rfl)
        | (match us, hl with | [_, _, _], _ => rfl)) : FnK K mg x (k + 1) ps.length (SpG pre args res) :=
  def_ok D S hbind (fun l c ⟨a, _, h, _⟩ => by rw [h, hl a]) fun P w base f cd A outer s H E o sco l c ⟨a, h1, h2, h3⟩ => by
    subst h2
    subst h3
    exact hb P w base f cd A outer s H E o sco a h1
section
variable {I : Type} {X : I → Cx} {K : PySem.W.Frag} {mg : Str → Option Value} {k : Nat} {cs cs' : Cs} {a b d e tg iter elt : Expr} {es : List Expr} {pos p : Pos} {ca cb cc c c' : Cell} {l l2 : List Cell} {x y : Str} {sl : List Nat} {o : Out} {st : Stmt} {sts sts2 : List Stmt} {P : Hp → St → Prop}
theorem ge_callA {m n : Nat} {α : Type} {pre : α → Prop} {args : α → List Cell} {res : α → Cell} (q : α) (ok : Cok X K mg m) (F : FnK K mg x k n (SpG pre args res)) (ha : GA X (e :: es) cs (args q)) (h : pre q) (hk : k ≤ m := by decide) (hl : (args q).length = n := by rfl) (hg : ∀ j, Gl (X j) x := by intro _; rfl)
    (hdb : (x == ("__debug__" : Str)) = false := by decide) (he : ∀ j, starEach (e :: es) (X j).env = (false, eval e (X j).env) :: starEach es (X j).env := by intro _; rfl)
    (hpl : ∀ j, (backTo pos (starEach es (X j).env)).any (·.1) = false := by intro _; rfl) : GE X (.Call (.Name x p) (e :: es) [] pos) cs (res q) := ge_call ok F ha ⟨q, h, rfl, rfl⟩ hk hl hg hdb he hpl
theorem gs_expr (h : GE X e cs c) (hs : ∀ j, swapsWith e none pos.line (X j).env = pure false := by intro _; rfl) : GS X (.Expr e pos) cs (.nx cs) := by
  obtain ⟨t, pt, v⟩ := h
  exact ⟨_, fun j => ps_expr (pt j) (hs j), fun B0 H0 B H σ D E W => v B0 H0 B H σ _ E fun v B' H' g s => W B' H' σ (E.go g)⟩
/-! folds -/
theorem foldE_inl {S α : Type} (f : S → α → S) : ∀ (its : List α) (s : S), foldE (fun s a => .inl (f s a)) s its = .inl (its.foldl f s)
  | [], s => rfl
  | a :: its, s => foldE_inl f its (f s a)
section
variable {S α : Type} {env : S → Cs} {its : List α} {ic : α → List Cell} {s0 : S}
theorem gs_for (f : S → α → S) (ok : Cok X K mg k) (hi : GI Any X tg iter (env s0) (its.map fun a => itemCell (ic a))) (hg : GG X tg sl)
    (hb : ∀ pre a post, its = pre ++ a :: post → GB X sts (setC (env (pre.foldl f s0)) sl (ic a)) (.nx (env (f (pre.foldl f s0) a)))) (hl : ∀ a ∈ its, (ic a).length = sl.length := by intro _ _; rfl) (hs : ∀ j x, foldedSetIterable iter (X j).env x = pure x := by intro _ _; rfl) :
    GS X (.For tg iter sts [] pos) (env s0) (.nx (env (its.foldl f s0))) := by
  have h := gs_forE (pos := pos) (sts := sts) (fun s a => .inl (f s a)) ok hi hg hl (fun pre a post s e1 e2 => by
    rw [foldE_inl] at e2
    cases e2
    exact hb pre a post e1) hs
  rw [foldE_inl] at h
  exact h
/-- a check at each turn -/
def okF (f : S → α → S) (ck : S → α → Bool) : S → List α → Bool
  | _, [] => true
  | s, a :: as => ck s a && okF f ck (f s a) as
theorem okF_at {f : S → α → S} {ck : S → α → Bool} : ∀ {pre post : List α} {a : α} {s : S}, okF f ck s (pre ++ a :: post) = true → ck (pre.foldl f s) a = true
  | [], post, a, s, h => by
    rw [List.nil_append] at h
    exact (Bool.and_eq_true_iff.mp h).1
  | b :: pre, post, a, s, h => by
    rw [List.cons_append] at h
    show ck (List.foldl f (f s b) pre) a = true
    exact okF_at (pre := pre) (Bool.and_eq_true_iff.mp h).2
theorem gs_forItemsS {kvs : Kvs} {kk : Nat} {tpos apos cpos : Pos} (f : S → (List Int × Cell) → S) (ok : Cok X K mg k) (hd : GD X e (env s0) kvs) (hg : GG X (.Tuple es kk tpos) sl)
    (hb : ∀ pre a post, kvs = pre ++ a :: post → GB X sts (setC (env (pre.foldl f s0)) sl [cS a.1, a.2]) (.nx (env (f (pre.foldl f s0) a)))) (hl : sl.length = 2 := by rfl) (hbase : ∀ j, attributeBase e "items" (X j).env (eval e (X j).env) = eval e (X j).env := by intro _; rfl) (hline : (apos.endLine == cpos.line) = true := by rfl)
    (hs : ∀ j x, foldedSetIterable (.Call (.Attribute e "items" apos) [] [] cpos) (X j).env x = pure x := by intro _ _; rfl) :
    GS X (.For (.Tuple es kk tpos) (.Call (.Attribute e "items" apos) [] [] cpos) sts [] pos) (env s0) (.nx (env (kvs.foldl f s0))) := by
  have h := gs_forItems (pos := pos) (sts := sts) (fun s a => .inl (f s a)) ok hd hg hl (fun pre a post s e1 e2 => by
    rw [foldE_inl] at e2
    cases e2
    exact hb pre a post e1) hbase hline hs
  rw [foldE_inl] at h
  exact h
end
theorem gb_forR {S α : Type} {env : S → Cs} {its : List α} {s0 : S} {f : S → α → S ⊕ Cell} (h : GS X st cs (outE env (foldE f s0 its))) (h1 : ∀ c, foldE f s0 its = .inr c → c' = c) (h2 : ∀ s, foldE f s0 its = .inl s → GB X sts (env s) (.rt c')) : GB X (st :: sts) cs (.rt c') := by
  cases e : foldE f s0 its with
  | inl s =>
    rw [e] at h
    exact gb_cons h (h2 s e)
  | inr c =>
    rw [e] at h
    rw [h1 c e]
    exact gb_stop h
/-- over the pairs of a plain list -/
theorem foldl_map' {S α β : Type} (f : S → β → S) (g : α → β) (l : List α) (s : S) : (l.map g).foldl f s = l.foldl (fun s a => f s (g a)) s := List.foldl_map
theorem gs_forItemsM {S α : Type} {env : S → Cs} {s0 : S} {its : List α} {kv : α → List Int × Cell} {kk : Nat} {tpos apos cpos : Pos} (f : S → α → S) (ok : Cok X K mg k) (hd : GD X e (env s0) (its.map kv)) (hg : GG X (.Tuple es kk tpos) sl)
    (hb : ∀ pre a post, its = pre ++ a :: post → GB X sts (setC (env (pre.foldl f s0)) sl [cS (kv a).1, (kv a).2]) (.nx (env (f (pre.foldl f s0) a)))) (hl : sl.length = 2 := by rfl) (hbase : ∀ j, attributeBase e "items" (X j).env (eval e (X j).env) = eval e (X j).env := by intro _; rfl) (hline : (apos.endLine == cpos.line) = true := by rfl)
    (hs : ∀ j x, foldedSetIterable (.Call (.Attribute e "items" apos) [] [] cpos) (X j).env x = pure x := by intro _ _; rfl) :
    GS X (.For (.Tuple es kk tpos) (.Call (.Attribute e "items" apos) [] [] cpos) sts [] pos) (env s0) (.nx (env (its.foldl f s0))) := by
  obtain ⟨te, pe, ve⟩ := hd
  obtain ⟨g, pg, vg⟩ := hg
  refine ⟨_, fun j => ps_lk (ps_for (tb := fun D σ H => ∃ t, (∀ j, PSs (X j) sts t) ∧ t D σ H) (nox_own ok j) (ok.calm j) (pi_itemsT (pe j) (hbase j) hline) (pg j) ⟨fun pins s σ H D J q => ?_⟩ (hs j)), ev_lockS ve ?_⟩
  · obtain ⟨t, pt, q⟩ := q
    exact (pt j).run pins s σ H D J q
  · have h := ev_for (P := PD te (its.map kv)) (wi := iItemsT te) (g := g) (tb := fun D σ H => ∃ t, (∀ j, PSs (X j) sts t) ∧ t D σ H) (env := env) (sl := sl) (its := its) (ic := fun a => [cS (kv a).1, (kv a).2]) (f := fun s a => .inl (f s a)) (s0 := s0) (by
      have := ev_items (te := te) (cs := env s0) (kvs := its.map kv)
      rw [List.map_map] at this
      exact this) vg (fun _ _ => hl.symm) (fun pre a post s e1 e2 => by
        rw [foldE_inl] at e2
        cases e2
        obtain ⟨t, pt, vt⟩ := hb pre a post e1
        exact fun B0 H0 B H σ D E W => ⟨t, pt, vt B0 H0 B H σ D E W⟩)
    rw [foldE_inl] at h
    exact h
/-! short forms for tuples of ints -/
theorem ge_catS {ns ms : List Int} (ok : Cok X K mg k) (ha : GE X a cs (cS ns)) (hb : GE X b cs (cS ms)) (hz : ns.length + ms.length ≤ 1000) : GE X (.BinOp a .Add b pos) cs (cS (ns ++ ms)) := by
  have h := ge_catT (pos := pos) ok ha hb (by rw [List.length_map, List.length_map]; exact hz)
  rw [← List.map_append] at h
  exact h
theorem ge_catM {α : Type} {f : α → Cell} {xs ys : List α} (ha : GE X a cs (cL (xs.map f))) (hb : GE X b cs (cL (ys.map f))) (hz : xs.length + ys.length ≤ 16000000) : GE X (.BinOp a .Add b pos) cs (cL ((xs ++ ys).map f)) := by
  have h := ge_catL (pos := pos) ha hb (by rw [List.length_map, List.length_map]; exact hz)
  rw [← List.map_append] at h
  exact h
theorem gs_appM {α : Type} {f : α → Cell} {xs : List α} (i : Nat) {q : α} {p1 p2 p3 : Pos} (ok : Cok X K mg k) (h : GE X e cs (f q)) (hz : xs.length < 16000000) (hi : cs[i]? = some (some (.ml (xs.map f))) := by rfl) (hN : ∀ j, (X j).N[i]? = some x := by intro _; rfl) (hv : ∀ j, Vis (X j).env.scope x := by intro _; first | exact Or.inl rfl | exact Or.inr (Or.inl rfl) | exact Or.inr (Or.inr rfl))
    (hd : (x == ("__debug__" : Str)) = false := by decide) (hcd : (x == ("__classdict__" : Str)) = false := by decide)
    (hbase : ∀ j, attributeBase (.Name x p1) "append" (X j).env (eval (.Name x p1) (X j).env) = eval (.Name x p1) (X j).env := by intro _; rfl)
    (hfew : ∀ j, ((backTo p3 (starEach [e] (X j).env)).all (fun x => !x.1) && (backToKw p3 (keywordEach [] (X j).env)).all (fun x => x.1.isSome) && decide (([e] : List Expr).length + ([] : List Keyword).length + (if ([] : List Keyword).isEmpty then 0 else 1) < 30)) = true := by intro _; rfl)
    (hline : (p2.endLine == p3.line) = true := by rfl) (hs : ∀ j, starEach [e] (X j).env = (false, eval e (X j).env) :: starEach [] (X j).env := by intro _; rfl) (hpl : ∀ j, (backTo p3 (starEach ([] : List Expr) (X j).env)).any (·.1) = false := by intro _; rfl)
    (hsw : ∀ j, swapsWith (.Call (.Attribute (.Name x p1) "append" p2) [e] [] p3) none pos.line (X j).env = pure false := by intro _; rfl) : GS X (.Expr (.Call (.Attribute (.Name x p1) "append" p2) [e] [] p3) pos) cs (.nx (cs.set i (some (.ml ((xs ++ [q]).map f))))) := by
  have h := gs_app (p1 := p1) (p2 := p2) (p3 := p3) (pos := pos) i ok h (by rw [List.length_map]; exact hz) hi hN hv hd hcd hbase hfew hline hs hpl hsw
  rw [List.map_append]
  exact h
end
/-! dicts of ints -/
def putI (kvs : List (List Int × Int)) (k : List Int) (v : Int) : List (List Int × Int) := if (kvs.any fun p => decide (p.1 = k)) = true then kvs.map (fun p => if p.1 = k then (p.1, v) else p) else kvs ++ [(k, v)]
def getI (kvs : List (List Int × Int)) (k : List Int) : Int := match kvs.find? fun p => decide (p.1 = k) with
  | some p => p.2
  | none => 0
theorem put_map {g : Int → Cell} (ps : List (List Int × Int)) (k : List Int) (v : Int) : putC (ps.map fun q => (q.1, g q.2)) k (g v) = (putI ps k v).map fun q => (q.1, g q.2) := by
  unfold putC putI
  rw [List.any_map]
  show (if (ps.any fun p => decide (p.1 = k)) = true then _ else _) = _
  by_cases h : (ps.any fun p => decide (p.1 = k)) = true
  · rw [if_pos h, if_pos h, List.map_map, List.map_map]
    apply List.map_congr_left
    intro q _
    show (if q.1 = k then (q.1, g v) else (q.1, g q.2)) = _
    by_cases z : q.1 = k
    · rw [if_pos z]
      show _ = ((if q.1 = k then (q.1, v) else q).1, g (if q.1 = k then (q.1, v) else q).2)
      rw [if_pos z]
    · rw [if_neg z]
      show _ = ((if q.1 = k then (q.1, v) else q).1, g (if q.1 = k then (q.1, v) else q).2)
      rw [if_neg z]
  · rw [if_neg h, if_neg h, List.map_append] <;> rfl
theorem get_map {g : Int → Cell} (ps : List (List Int × Int)) (k : List Int) : getC (ps.map fun q => (q.1, g q.2)) k (g 0) = g (getI ps k) := by
  unfold getC getI
  induction ps with
  | nil => rfl
  | cons q ps ih =>
    rw [List.map_cons, List.find?_cons, List.find?_cons]
    by_cases z : q.1 = k
    · rw [decide_eq_true z]
    · rw [decide_eq_false z]
      exact ih
theorem putI_len (kvs : List (List Int × Int)) (k : List Int) (v : Int) : (putI kvs k v).length ≤ kvs.length + 1 := by
  unfold putI
  split
  · rw [List.length_map]
    omega
  · rw [List.length_append]
    exact Nat.le_refl _
end Ws
set_option Elab.async false
set_option linter.all false
set_option maxRecDepth 100000
set_option maxHeartbeats 4000000
/-! Plain facts on dicts of ints. -/
namespace Ws
abbrev DI : Type := List (List Int × Int)
def bump (ps : DI) (k : List Int) (w : Int) : DI := putI ps k (getI ps k + w)
def val (f : List Int → Int) (ps : DI) : Int := (ps.map fun q => q.2 * f q.1).sum
theorem getI_out {ps : DI} {k : List Int} (h : k ∉ ps.map (·.1)) : getI ps k = 0 := by
  unfold getI
  cases e : ps.find? fun p => decide (p.1 = k) with
  | none => rfl
  | some p =>
    have h1 := List.find?_some e
    have h2 := List.mem_of_find?_eq_some e
    exact absurd (List.mem_map.mpr ⟨p, h2, of_decide_eq_true h1⟩) h
theorem any_iff {ps : DI} {k : List Int} : (ps.any fun p => decide (p.1 = k)) = true ↔ k ∈ ps.map (·.1) := by
  rw [List.any_eq_true, List.mem_map]
  constructor
  · rintro ⟨p, h1, h2⟩; exact ⟨p, h1, of_decide_eq_true h2⟩
  · rintro ⟨p, h1, h2⟩; exact ⟨p, h1, decide_eq_true h2⟩
theorem putI_keys {ps : DI} {k : List Int} {v : Int} : (putI ps k v).map (·.1) = if k ∈ ps.map (·.1) then ps.map (·.1) else ps.map (·.1) ++ [k] := by
  unfold putI
  by_cases h : k ∈ ps.map (·.1)
  · rw [if_pos (any_iff.mpr h), if_pos h, List.map_map]
    apply List.map_congr_left
    intro p _
    show (if p.1 = k then (p.1, v) else p).1 = p.1
    split <;> rfl
  · rw [if_neg (fun z => h (any_iff.mp z)), if_neg h, List.map_append] <;> rfl
theorem putI_nodup {ps : DI} {k : List Int} {v : Int} (h : (ps.map (·.1)).Nodup) : ((putI ps k v).map (·.1)).Nodup := by
  rw [putI_keys]
  split
  · exact h
  · rename_i hk
    exact List.nodup_append.mpr ⟨h, by simp, fun a ha b hb => by
      rw [List.mem_singleton] at hb
      subst hb
      rintro rfl
      exact hk ha⟩
theorem putI_mem {ps : DI} {k k' : List Int} {v : Int} (h : k' ∈ (putI ps k v).map (·.1)) : k' ∈ ps.map (·.1) ∨ k' = k := by
  rw [putI_keys] at h
  split at h
  · exact .inl h
  · rcases List.mem_append.mp h with h | h
    · exact .inl h
    · exact .inr (List.mem_singleton.mp h)
theorem val_app {f : List Int → Int} {a b : DI} : val f (a ++ b) = val f a + val f b := by
  unfold val
  rw [List.map_append, List.sum_append]
theorem val_cons {f : List Int → Int} {q : List Int × Int} {a : DI} : val f (q :: a) = q.2 * f q.1 + val f a := by
  unfold val
  rw [List.map_cons, List.sum_cons]
theorem map_put_out {k : List Int} {v : Int} : ∀ {ps : DI}, k ∉ ps.map (·.1) → ps.map (fun p => if p.1 = k then (p.1, v) else p) = ps
  | [], _ => rfl
  | q :: ps, h => by
    rw [List.map_cons, map_put_out fun z => h (List.mem_cons_of_mem _ z), if_neg fun e => h (by rw [← e]; exact List.mem_cons_self)]
theorem val_put {f : List Int → Int} {k : List Int} {v : Int} : ∀ {ps : DI}, (ps.map (·.1)).Nodup → val f (putI ps k v) = val f ps + (v - getI ps k) * f k := by
  intro ps h
  by_cases hk : k ∈ ps.map (·.1)
  · unfold putI
    rw [if_pos (any_iff.mpr hk)]
    induction ps with
    | nil => cases hk
    | cons q ps ih =>
      rw [List.map_cons] at h
      have h1 := (List.nodup_cons.mp h).1
      have h2 := (List.nodup_cons.mp h).2
      rw [List.map_cons, val_cons, val_cons]
      by_cases e : q.1 = k
      · rw [if_pos e, map_put_out (by rw [← e]; exact h1)]
        have : getI (q :: ps) k = q.2 := by
          unfold getI
          rw [List.find?_cons, decide_eq_true e]
        rw [this, e, Int.sub_mul]
        dsimp only
        omega
      · rw [if_neg e]
        have hk' : k ∈ ps.map (·.1) := by
          rcases List.mem_cons.mp hk with z | z
          · exact absurd z.symm e
          · exact z
        have : getI (q :: ps) k = getI ps k := by
          unfold getI
          rw [List.find?_cons, decide_eq_false e]
        rw [this, ih h2 hk']
        omega
  · rw [getI_out hk]
    unfold putI
    rw [if_neg fun z => hk (any_iff.mp z), val_app, val_cons, Int.sub_zero]
    show _ + (v * f k + 0) = _
    rw [Int.add_zero]
theorem val_bump {f : List Int → Int} {k : List Int} {w : Int} {ps : DI} (h : (ps.map (·.1)).Nodup) : val f (bump ps k w) = val f ps + w * f k := by
  unfold bump
  rw [val_put h]
  congr 1
  congr 1
  omega
theorem bump_nodup {k : List Int} {w : Int} {ps : DI} (h : (ps.map (·.1)).Nodup) : ((bump ps k w).map (·.1)).Nodup := putI_nodup h
theorem bump_mem {k k' : List Int} {w : Int} {ps : DI} (h : k' ∈ (bump ps k w).map (·.1)) : k' ∈ ps.map (·.1) ∨ k' = k := putI_mem h
/-- several at once -/
def bumps (ks : List (List Int)) (w : Int) (ps : DI) : DI := ks.foldl (fun t k => bump t k w) ps
theorem bumps_nodup {w : Int} : ∀ {ks : List (List Int)} {ps : DI}, (ps.map (·.1)).Nodup → ((bumps ks w ps).map (·.1)).Nodup
  | [], _, h => h
  | k :: ks, ps, h => bumps_nodup (ks := ks) (bump_nodup h)
theorem bumps_mem {w : Int} {k' : List Int} : ∀ {ks : List (List Int)} {ps : DI}, k' ∈ (bumps ks w ps).map (·.1) → k' ∈ ps.map (·.1) ∨ k' ∈ ks
  | [], _, h => .inl h
  | k :: ks, ps, h => by
    rcases bumps_mem (ks := ks) (ps := bump ps k w) h with h | h
    · rcases bump_mem h with h | h
      · exact .inl h
      · exact .inr (by rw [h]; exact List.mem_cons_self)
    · exact .inr (List.mem_cons_of_mem _ h)
theorem val_bumps {f : List Int → Int} {w : Int} : ∀ {ks : List (List Int)} {ps : DI}, (ps.map (·.1)).Nodup → val f (bumps ks w ps) = val f ps + w * (ks.map f).sum
  | [], ps, h => by
    show val f ps = val f ps + w * 0
    rw [Int.mul_zero, Int.add_zero]
  | k :: ks, ps, h => by
    show val f (bumps ks w (bump ps k w)) = _
    rw [val_bumps (bump_nodup h), val_bump h, List.map_cons, List.sum_cons, Int.mul_add, Int.add_assoc]
/-- from one dict to the next -/
def step (g : List Int → List (List Int)) (now : DI) : DI := now.foldl (fun t q => bumps (g q.1) q.2 t) []
theorem step_go {g : List Int → List (List Int)} {f : List Int → Int} {Q : List Int → Prop} : ∀ {now t : DI}, (t.map (·.1)).Nodup → (∀ k ∈ t.map (·.1), Q k) → (∀ q ∈ now, ∀ k ∈ g q.1, Q k) →
    ((now.foldl (fun t q => bumps (g q.1) q.2 t) t).map (·.1)).Nodup ∧ (∀ k ∈ (now.foldl (fun t q => bumps (g q.1) q.2 t) t).map (·.1), Q k) ∧ val f (now.foldl (fun t q => bumps (g q.1) q.2 t) t) = val f t + val (fun x => ((g x).map f).sum) now
  | [], t, h, hq, _ => ⟨h, hq, by
    show val f t = val f t + 0
    rw [Int.add_zero]⟩
  | q :: now, t, h, hq, hn => by
    have := step_go (g := g) (f := f) (Q := Q) (now := now) (t := bumps (g q.1) q.2 t) (bumps_nodup h) (fun k hk => (bumps_mem hk).elim (hq k) (hn q List.mem_cons_self k)) fun p hp => hn p (List.mem_cons_of_mem _ hp)
    obtain ⟨h1, h2, h3⟩ := this
    refine ⟨h1, h2, ?_⟩
    rw [List.foldl_cons, h3, val_bumps h, val_cons, Int.add_assoc]
theorem step_nodup {g : List Int → List (List Int)} {now : DI} : ((step g now).map (·.1)).Nodup := (step_go (f := fun _ => 0) (t := []) (Q := fun _ => True) List.nodup_nil (by intro _ _; trivial) (by intro _ _ _ _; trivial)).1
theorem step_mem {g : List Int → List (List Int)} {Q : List Int → Prop} {now : DI} (h : ∀ q ∈ now, ∀ k ∈ g q.1, Q k) : ∀ k ∈ (step g now).map (·.1), Q k := (step_go (f := fun _ => 0) (t := []) List.nodup_nil (by intro k hk; cases hk) h).2.1
theorem val_step {g : List Int → List (List Int)} {f : List Int → Int} {now : DI} : val f (step g now) = val (fun x => ((g x).map f).sum) now := by
  have := (step_go (g := g) (f := f) (Q := fun _ => True) (now := now) (t := []) List.nodup_nil (by intro _ _; trivial) (by intro _ _ _ _; trivial)).2.2
  unfold step
  rw [this]
  show 0 + _ = _
  rw [Int.zero_add]
theorem val_get {ps : DI} {k : List Int} (h : (ps.map (·.1)).Nodup) : getI ps k = val (fun x => if x = k then 1 else 0) ps := by
  induction ps with
  | nil => rfl
  | cons q ps ih =>
    rw [List.map_cons] at h
    have h1 := (List.nodup_cons.mp h).1
    have h2 := (List.nodup_cons.mp h).2
    rw [val_cons]
    by_cases e : q.1 = k
    · have : getI (q :: ps) k = q.2 := by
        unfold getI
        rw [List.find?_cons, decide_eq_true e]
      rw [this, if_pos e, ← ih h2, getI_out (by rw [← e]; exact h1)]
      omega
    · have : getI (q :: ps) k = getI ps k := by
        unfold getI
        rw [List.find?_cons, decide_eq_false e]
      rw [this, if_neg e, ← ih h2]
      omega
theorem val_one {f : List Int → Int} {k : List Int} : val f [(k, 1)] = f k := by
  show 1 * f k + 0 = f k
  omega
/-- no more than the others -/
theorem sub_len {α : Type} [DecidableEq α] : ∀ {l m : List α}, l.Nodup → (∀ x ∈ l, x ∈ m) → l.length ≤ m.length
  | [], m, _, _ => Nat.zero_le _
  | a :: l, m, h, hs => by
    have ha : a ∈ m := hs a List.mem_cons_self
    have h1 := (List.nodup_cons.mp h).1
    have := sub_len (l := l) (m := m.erase a) (List.nodup_cons.mp h).2 fun x hx => (List.mem_erase_of_ne (fun e => h1 (by rw [← e]; exact hx))).mpr (hs x (List.mem_cons_of_mem _ hx))
    rw [List.length_erase_of_mem ha] at this
    have : 0 < m.length := List.length_pos_of_mem ha
    rw [List.length_cons]
    omega
end Ws
set_option Elab.async false
set_option linter.all false
set_option maxRecDepth 100000
set_option maxHeartbeats 0
/-! The statements of the row's text, by their places. -/
namespace Ws
open PySem PySem.Spec L2
def top (i : Nat) : Stmt := PySem.Challenge.pw_wordshapes_k93_whole_margins_and_rows_he.main.body.getD i (.Pass ⟨0, 0, 0, 0⟩)
abbrev s_is_number : Stmt := top 16
abbrev s_is_shape : Stmt := top 17
abbrev s_check_shape : Stmt := top 18
abbrev s_trimmed : Stmt := top 19
abbrev s_flipped_of : Stmt := top 20
abbrev s_all_shapes : Stmt := top 21
abbrev s_strips_on : Stmt := top 22
abbrev s_sums_along : Stmt := top 23
abbrev s_lighter_at : Stmt := top 24
abbrev s_check_sizes : Stmt := top 25
abbrev s_shapes_of : Stmt := top 26
abbrev s_flipped : Stmt := top 27
abbrev s_heavier : Stmt := top 28
abbrev s_are_amounts : Stmt := top 33
abbrev s_check_amounts : Stmt := top 34
abbrev s_parts_below : Stmt := top 35
abbrev s_tables_counted : Stmt := top 36
abbrev s_table_count : Stmt := top 37
abbrev s_check_margins : Stmt := top 38
abbrev s_rows_of_sum : Stmt := top 39
abbrev s_arrays_counted : Stmt := top 40
abbrev s_margin_count : Stmt := top 41
abbrev s_zero_one_count : Stmt := top 42
abbrev s_is_between : Stmt := top 46
abbrev s_common : Stmt := top 47
abbrev s_lowest : Stmt := top 48
abbrev s_is_fraction : Stmt := top 49
abbrev s_add : Stmt := top 50
abbrev s_times : Stmt := top 52
abbrev s_is_term : Stmt := top 64
abbrev s_are_terms : Stmt := top 65
abbrev s_mixed : Stmt := top 66
abbrev s_plus : Stmt := top 67
abbrev s_with_rows : Stmt := top 68
abbrev s_rows_for : Stmt := top 69
abbrev s_flipped_dict : Stmt := top 71
abbrev s_summed : Stmt := top 76
abbrev s_shapes_from : Stmt := top 77
abbrev s_terms_of : Stmt := top 79
abbrev s_check_basis : Stmt := top 81
abbrev s_check_mixture : Stmt := top 82
abbrev s_law_purse : Stmt := top 85
abbrev s_law_draw : Stmt := top 86
abbrev s_law_amounts : Stmt := top 87
abbrev s_law_fallen : Stmt := top 88
abbrev s_law_rows_of : Stmt := top 89
abbrev s_law_arrays : Stmt := top 90
abbrev s_law_held : Stmt := top 91
abbrev s_law_right : Stmt := top 92
abbrev s_law : Stmt := top 93
abbrev s_M_init : Stmt := inClass (top 83) 0
abbrev s_M_of : Stmt := inClass (top 83) 1
abbrev s_M_held : Stmt := inClass (top 83) 7
end Ws
set_option Elab.async false
set_option linter.all false
set_option maxRecDepth 100000
set_option maxHeartbeats 4000000
namespace Ws
open PySem PySem.Spec L2
section
variable {K : PySem.W.Frag} {mg : Str → Option Value}
/-! is_number(value, low, high), value an int -/
theorem sc_is_number : FnScope ["value", "low", "high"] ["value", "low", "high"] (defScope s_is_number) := ⟨rfl, rfl, rfl, by decide +kernel, rfl, by decide +kernel, by decide +kernel⟩
def G_is_number : List Cell → Cell → Prop := fun l c => ∃ v lo hi : Int, l = [cI v, cI lo, cI hi] ∧ c = cB (decide (lo ≤ v) && decide (v ≤ hi))
theorem k_is_number (Fr : Frees mg) (D : Def K mg "is_number" s_is_number) : FnK K mg "is_number" 1 3 G_is_number := by
  refine def_ok D sc_is_number (fun _ _ _ _ _ _ us hl => match us, hl with | [_, _, _], _ => rfl) (fun l c ⟨_, _, _, h, _⟩ => by rw [h] <;> rfl) fun P w base f cd A outer s H E o sco l c g => ?_
  obtain ⟨v, lo, hi, rfl, rfl⟩ := g
  refine .inl (gb_one (gs_ret ?_))
  exact ge_andT (ge_isi o Fr.isinstance ty_I kit_ii (ge_var 0) (ge_ty o Fr.int)) (ge_andT (ge_not (ge_isi o Fr.isinstance ty_I kit_ib (ge_var 0) (ge_ty o Fr.bool))) (ge_one (ge_chain (ge_var 1) (ge_var 0) (ge_var 2))))
/-! is_shape(value, most), of a shape -/
theorem sc_is_shape : FnScope ["value", "most", "part", "place"] ["value", "most"] (defScope s_is_shape) := ⟨rfl, rfl, rfl, by decide +kernel, rfl, by decide +kernel, by decide +kernel⟩
def G_is_shape : List Cell → Cell → Prop := fun l c => ∃ (ns : List Int) (m : Int), ns.length ≤ 1000 ∧ shpB m ns = true ∧ l = [cS ns, cI m] ∧ c = cB true
theorem k_is_shape (Fr : Frees mg) (F1 : FnK K mg "is_number" 1 3 G_is_number) (D : Def K mg "is_shape" s_is_shape) : FnK K mg "is_shape" 2 2 G_is_shape := by
  refine def_ok D sc_is_shape (fun _ _ _ _ _ _ us hl => match us, hl with | [_, _], _ => rfl) (fun l c ⟨_, _, _, _, h, _⟩ => by rw [h] <;> rfl) fun P w base f cd A outer s H E o sco l c g => ?_
  obtain ⟨ns, m, hz, hs, rfl, rfl⟩ := g
  simp only [shpB, Bool.and_eq_true, decide_eq_true_eq] at hs
  obtain ⟨h1, h2, h3, h4⟩ := hs
  refine .inl (gb_cons (gs_skip (gt_w (gw_orF (gt_not (gt_val (ge_isi o Fr.isinstance ty_T kit_tt (ge_var 0) (ge_ty o Fr.tuple)))) (gw_orF (gt_is (gt_gt (ge_lenS o Fr (ge_var 0)) (ge_var 1)) (decide_eq_false (by omega))) (gw_or1 (gt_is (gt_not (gt_val (ge_allOf o Fr
    (ge_lc0 sco [("part", 2)] o (ic := fun n : Int => [cI n]) (gi_tup o (ge_var 0)) (gg_name (cok_blk o) 2) (fun n _ => ge_call (cok_blk o) F1 (ga_cons (ge_var 2) (ga_cons ge_int (ga_one (ge_var 1)))) ⟨_, _, _, rfl, rfl⟩) (by omega))))) (by rw [h2] <;> rfl))))))) (gb_one (gs_ret ?_)))
  refine ge_eq (ge_andT (ge_eq (ge_leq (ge_sumT o Fr.sum (ge_var 0)) (ge_var 1)) (by rw [decide_eq_true h3])) (ge_one (ge_allOf o Fr
    (ge_lc0 sco [("place", 3)] o (ic := fun n : Nat => [cI (n : Int)]) (gi_rngN (ns.length - 1) o Fr.range (ge_subt (ge_lenS o Fr (ge_var 0)) ge_int) (by omega)) (gg_name (cok_blk o) 3) (fun n hn => ge_ge (ge_ixS n (cok_blk o) (ge_var 0) (ge_var 3) rfl (by rw [List.mem_range] at hn; omega)) (ge_ixS (n + 1) (cok_blk o) (ge_var 0) (ge_add (ge_var 3) ge_int) (by omega) (by rw [List.mem_range] at hn; omega))) (by rw [List.length_range]; omega))))) (by rw [h4])
/-! check_shape -/
theorem sc_check_shape : FnScope ["value", "most"] ["value", "most"] (defScope s_check_shape) := ⟨rfl, rfl, rfl, by decide +kernel, rfl, by decide +kernel, by decide +kernel⟩
def G_check_shape : List Cell → Cell → Prop := fun l c => ∃ (ns : List Int) (m : Int), ns.length ≤ 1000 ∧ shpB m ns = true ∧ l = [cS ns, cI m] ∧ c = cN
theorem k_check_shape (F1 : FnK K mg "is_shape" 2 2 G_is_shape) (D : Def K mg "check_shape" s_check_shape) : FnK K mg "check_shape" 3 2 G_check_shape := by
  refine def_ok D sc_check_shape (fun _ _ _ _ _ _ us hl => match us, hl with | [_, _], _ => rfl) (fun l c ⟨_, _, _, _, h, _⟩ => by rw [h] <;> rfl) fun P w base f cd A outer s H E o sco l c g => ?_
  obtain ⟨ns, m, hz, hs, rfl, rfl⟩ := g
  exact .inr ⟨rfl, _, gb_one (gs_skip (gt_not (gt_val (ge_call o F1 (ga_cons (ge_var 0) (ga_one (ge_var 1))) ⟨ns, m, hz, hs, rfl, rfl⟩))))⟩
/-! trimmed -/
theorem sc_trimmed : FnScope ["numbers", "number"] ["numbers"] (defScope s_trimmed) := ⟨rfl, rfl, rfl, by decide +kernel, rfl, by decide +kernel, by decide +kernel⟩
def trim (ns : List Int) : List Int := ns.filter fun n => decide (0 < n)
def G_trimmed : List Cell → Cell → Prop := fun l c => ∃ ns : List Int, ns.length ≤ 1000 ∧ l = [cS ns] ∧ c = cS (trim ns)
theorem k_trimmed (Fr : Frees mg) (D : Def K mg "trimmed" s_trimmed) : FnK K mg "trimmed" 1 1 G_trimmed := by
  refine def_ok D sc_trimmed (fun _ _ _ _ _ _ us hl => match us, hl with | [_], _ => rfl) (fun l c ⟨_, _, h, _⟩ => by rw [h] <;> rfl) fun P w base f cd A outer s H E o sco l c g => ?_
  obtain ⟨ns, hz, rfl, rfl⟩ := g
  refine .inl (gb_one (gs_ret ?_))
  exact ge_tupL o Fr.tuple (ge_lc sco [("number", 1)] o (ic := fun n : Int => [cI n]) (gi_tup o (ge_var 0)) (gg_name (cok_blk o) 1) (fun n _ => gts_one (gt_gt (ge_var 1) ge_int)) (fun n _ _ => ge_var 1) (by omega))
/-! flipped_of -/
theorem sc_flipped_of : FnScope ["shape", "place", "part"] ["shape"] (defScope s_flipped_of) := ⟨rfl, rfl, rfl, by decide +kernel, rfl, by decide +kernel, by decide +kernel⟩
def flip1 (ns : List Int) : List Int := (List.range (if 0 < ns.length then (ns.getD 0 0).toNat else 0)).map fun (i : Nat) => (((ns.filter fun n => decide ((i : Int) < n)).length : Nat) : Int)
def G_flipped_of : List Cell → Cell → Prop := fun l c => ∃ ns : List Int, ns.length ≤ 1000 ∧ (0 ≤ ns.getD 0 0 ∧ ns.getD 0 0 ≤ 1000) ∧ l = [cS ns] ∧ c = cS (flip1 ns)
theorem k_flipped_of (Fr : Frees mg) (D : Def K mg "flipped_of" s_flipped_of) : FnK K mg "flipped_of" 1 1 G_flipped_of := by
  refine def_ok D sc_flipped_of (fun _ _ _ _ _ _ us hl => match us, hl with | [_], _ => rfl) (fun l c ⟨_, _, _, h, _⟩ => by rw [h] <;> rfl) fun P w base f cd A outer s H E o sco l c g => ?_
  obtain ⟨ns, hz, h0, rfl, rfl⟩ := g
  refine .inl (gb_one (gs_ret (ge_tupOf o Fr (ge_lc0 sco [("place", 1)] o (its := List.range (if 0 < ns.length then (ns.getD 0 0).toNat else 0)) (ic := fun n : Nat => [cI (n : Int)]) (gi_rngN (n := if 0 < ns.length then ns.getD 0 0 else 0) _ o Fr.range (ge_if (i := decide (0 < ns.length)) (gt_is (gt_gt (ge_lenS o Fr (ge_var 0)) ge_int) ?_) (fun h => ?_) (fun h => ?_)) ?_ ?_ ?_) (gg_name (cok_blk o) 1) (fun n _ => ?_) ?_))))
  · by_cases q : 0 < ns.length
    · rw [decide_eq_true q, decide_eq_true (by omega)]
    · rw [decide_eq_false q, decide_eq_false (by omega)]
  · have h := of_decide_eq_true h
    rw [if_pos h]
    exact ge_ixS 0 o (ge_var 0) ge_int rfl h
  · rw [if_neg (of_decide_eq_false h)]
    exact ge_int
  · split <;> rfl
  · split <;> omega
  · split <;> omega
  · exact ge_eq (ge_lenL (cok_blk o) Fr.len (ge_lc (sco_blk sco) [("part", 2)] (cok_blk o) (ic := fun n : Int => [cI n]) (gi_tup (cok_blk o) (ge_var 0)) (gg_name (cok_blk (cok_blk o)) 2) (fun n _ => gts_one (gt_gt (ge_var 2) (ge_var 1))) (fun n _ _ => ge_var 2) (by omega))) (by rw [List.length_map])
  · rw [List.length_range]
    split <;> omega
end
end Ws
set_option Elab.async false
set_option linter.all false
set_option maxRecDepth 100000
set_option maxHeartbeats 4000000
namespace Ws
open PySem PySem.Spec L2
/-- the module's numbers -/
structure Consts (mg : Str → Option Value) : Prop where
  long : ∃ u, mg "MOST_LONG" = some u ∧ RelV (.int 12) u
  boxes : ∃ u, mg "MOST_BOXES" = some u ∧ RelV (.int 40) u
  degree : ∃ u, mg "MOST_DEGREE" = some u ∧ RelV (.int 8) u
  margins : ∃ u, mg "MOST_MARGINS" = some u ∧ RelV (.int 6) u
section
variable {I : Type} {X : I → Cx} {K : PySem.W.Frag} {mg : Str → Option Value} {k : Nat} {cs : Cs} {x : Str} {pos : Pos}
theorem ge_const {v : V} (ok : Cok X K mg k) (h : ∃ u, mg x = some u ∧ RelV v u) (hg : ∀ j, Gl (X j) x := by intro _; rfl) (hd : (x == ("__debug__" : Str)) = false := by decide) : GE X (.Name x pos) cs (cV v) := by
  obtain ⟨u, h1, h2⟩ := h
  exact ge_glob ok h1 h2 hg hd
end
section
variable {K : PySem.W.Frag} {mg : Str → Option Value}
/-! sums_along(shape, many) -/
def sumsF (ns : List Int) (s : List Int × Int) (r : Nat) : List Int × Int := (s.1 ++ [s.2 + ns.getD r 0], s.2 + ns.getD r 0)
def sums (ns : List Int) (many : Nat) : List Int := ((List.range many).foldl (sumsF ns) ([], 0)).1
theorem sums_len (ns : List Int) : ∀ (l : List Nat) (s : List Int × Int), (l.foldl (sumsF ns) s).1.length = s.1.length + l.length
  | [], s => rfl
  | r :: l, s => by
    rw [List.foldl_cons, sums_len ns l]
    show (s.1 ++ [_]).length + l.length = _
    rw [List.length_append, List.length_cons, List.length_cons, List.length_nil]
    omega
theorem k_sums_along (Fr : Frees mg) (D : Def K mg "sums_along" s_sums_along) : FnK K mg "sums_along" 1 2 (SpG (fun a : List Int × Nat => a.1.length ≤ 1000 ∧ a.2 ≤ 1000) (fun a => [cS a.1, cI (a.2 : Nat)]) fun a => cL ((sums a.1 a.2).map cI)) := by
  refine def_okA ["shape", "many", "found", "whole", "row"] ["shape", "many"] D fun P w base f cd A outer s H E o sco ⟨ns, many⟩ ⟨hz, hm⟩ => ?_
  refine .inl (gb_cons (gs_newml 2 o ga_nil) (gb_cons (gs_set 3 o ge_int) (gb_cons (gs_for (env := fun s : List Int × Int => [some (.im (cS ns)), some (.im (cI (many : Nat))), some (.ml (s.1.map cI)), some (.im (cI s.2)), none]) (ic := fun r : Nat => [cI (r : Nat)]) (s0 := ([], 0)) (sumsF ns) o (gi_rngN many o Fr.range (ge_var 1) (by omega)) (gg_name o 4) fun pre r post e => ?_) (gb_rest 2 (gb_ret (ge_var 2))))))
  have hp := sums_len ns pre ([], 0)
  generalize pre.foldl (sumsF ns) ([], 0) = st at hp ⊢
  have hl : pre.length < many := by
    have := congrArg List.length e
    rw [List.length_range, List.length_append, List.length_cons] at this
    omega
  refine gb_cons (gs_set 3 o (ge_eq (ge_add (ge_var 3) (ge_if (c := cI (ns.getD r 0)) (gt_lt (ge_var 4) (ge_lenS o Fr (ge_var 0))) (fun h => ge_ixS r o (ge_var 0) (ge_var 4) rfl (by have := of_decide_eq_true h; omega)) (fun h => ge_eq ge_int ?_))) rfl)) (gb_one (gs_post (gs_appM (f := cI) 2 o (ge_var 3) (by rw [hp, List.length_nil]; omega)) ?_))
  · have := of_decide_eq_false h
    rw [List.getD_eq_getElem?_getD, List.getElem?_eq_none (by omega)] <;> rfl
  · exact le_same (le_same (le_same (le_same (le_none le_nil))))
/-! lighter_at(shape, other) -/
def lightF (own : List Int) (_ : Unit) (q : Int × Nat) : Unit ⊕ Cell := if own.getD q.2 0 < q.1 then .inr (cI ((q.2 : Int) + 1)) else .inl ()
def lightV (ns ms : List Int) : V := match ((sums ms (max ns.length ms.length)).zipIdx.find? fun q => decide ((sums ns (max ns.length ms.length)).getD q.2 0 < q.1)) with
  | some q => .int ((q.2 : Int) + 1)
  | none => .non
theorem light_fold (own : List Int) : ∀ l : List (Int × Nat), foldE (lightF own) () l = match (l.find? fun q => decide (own.getD q.2 0 < q.1)) with
    | some q => .inr (cI ((q.2 : Int) + 1))
    | none => .inl ()
  | [] => rfl
  | q :: l => by
    rw [List.find?_cons]
    unfold foldE
    by_cases z : own.getD q.2 0 < q.1
    · have e : lightF own () q = .inr (cI ((q.2 : Int) + 1)) := if_pos z
      rw [e, decide_eq_true z]
    · have e : lightF own () q = .inl () := if_neg z
      rw [e, decide_eq_false z]
      exact light_fold own l
theorem k_lighter_at (Fr : Frees mg) (F1 : FnK K mg "sums_along" 1 2 (SpG (fun a : List Int × Nat => a.1.length ≤ 1000 ∧ a.2 ≤ 1000) (fun a => [cS a.1, cI (a.2 : Nat)]) fun a => cL ((sums a.1 a.2).map cI))) (D : Def K mg "lighter_at" s_lighter_at) :
    FnK K mg "lighter_at" 2 2 (SpG (fun a : List Int × List Int => a.1.length ≤ 1000 ∧ a.2.length ≤ 1000) (fun a => [cS a.1, cS a.2]) fun a => cV (lightV a.1 a.2)) := by
  refine def_okA ["shape", "other", "many", "own", "place", "whole"] ["shape", "other"] D fun P w base f cd A outer s H E o sco ⟨ns, ms⟩ hh => ?_
  obtain ⟨hz, hm⟩ : ns.length ≤ 1000 ∧ ms.length ≤ 1000 := hh
  have hl1 : (sums ns (max ns.length ms.length)).length = max ns.length ms.length := by
    unfold sums
    rw [sums_len, List.length_nil, List.length_range, Nat.zero_add]
  have hl2 : (sums ms (max ns.length ms.length)).length = max ns.length ms.length := by
    unfold sums
    rw [sums_len, List.length_nil, List.length_range, Nat.zero_add]
  refine .inl (gb_cons (gs_set 2 o (ge_eq (c' := cI ((max ns.length ms.length : Nat) : Int)) (ge_max2 o Fr.max (ge_lenS o Fr (ge_var 0)) (ge_lenS o Fr (ge_var 1))) (congrArg cI (by show max (ns.length : Int) (ms.length : Int) = ((max ns.length ms.length : Nat) : Int); omega)))) (gb_cons (gs_set 3 o (ge_callA (ns, max ns.length ms.length) o F1 (ga_cons (ge_var 0) (ga_one (ge_var 2))) ⟨hz, by show max _ _ ≤ _; omega⟩)) ?_))
  refine gb_forR (f := lightF (sums ns (max ns.length ms.length))) (its := (sums ms (max ns.length ms.length)).zipIdx) (s0 := ()) (env := fun _ : Unit => [some (.im (cS ns)), some (.im (cS ms)), some (.im (cI ((max ns.length ms.length : Nat) : Int))), some (.im (cL ((sums ns (max ns.length ms.length)).map cI))), none, none])
    (gs_forE (env := fun _ : Unit => [some (.im (cS ns)), some (.im (cS ms)), some (.im (cI ((max ns.length ms.length : Nat) : Int))), some (.im (cL ((sums ns (max ns.length ms.length)).map cI))), none, none]) (ic := fun q : Int × Nat => [cI (q.2 : Nat), cI q.1]) _ o
    (gi_enumL o Fr.enumerate (ge_callA (ms, max ns.length ms.length) o F1 (ga_cons (ge_var 1) (ga_one (ge_var 2))) ⟨hm, by show max _ _ ≤ _; omega⟩)) (gg_two o 4 5) (by intro _ _; rfl) ?_) ?_ ?_
  rotate_left
  · intro c e
    rw [light_fold] at e
    show cV (lightV ns ms) = c
    unfold lightV
    split at e
    · cases e; rfl
    · cases e
  · intro s' e
    rw [light_fold] at e
    have : cV (lightV ns ms) = cN := by
      unfold lightV
      split at e
      · cases e
      · rfl
    show GB _ _ _ (.rt (cV (lightV ns ms)))
    rw [this]
    exact gb_ret ge_non
  intro pre q post s e1 e2
  have hq : q.2 < (sums ns (max ns.length ms.length)).length := by
    have : q ∈ (sums ms (max ns.length ms.length)).zipIdx := by rw [e1]; exact List.mem_append_right _ List.mem_cons_self
    have := List.snd_lt_of_mem_zipIdx this
    omega
  unfold lightF
  by_cases z : (sums ns (max ns.length ms.length)).getD q.2 0 < q.1
  · rw [if_pos z]
    exact gb_one (gs_ifT (gt_is (gt_lt (ge_ixLI q.2 o (ge_var 3) (ge_var 4) rfl hq) (ge_var 5)) (decide_eq_true z)) (gb_ret (ge_add (ge_var 4) ge_int)))
  · rw [if_neg z]
    exact gb_post (gb_one (gs_skip (gt_is (gt_lt (ge_ixLI q.2 o (ge_var 3) (ge_var 4) rfl hq) (ge_var 5)) (decide_eq_false z)))) (le_same (le_same (le_same (le_same (le_none (le_none le_nil))))))
end
end Ws
set_option Elab.async false
set_option linter.all false
set_option maxRecDepth 100000
set_option maxHeartbeats 4000000
namespace Ws
open PySem PySem.Spec L2
section
variable {K : PySem.W.Frag} {mg : Str → Option Value}
abbrev T_sums (K : PySem.W.Frag) (mg : Str → Option Value) : Prop := FnK K mg "sums_along" 1 2 (SpG (fun a : List Int × Nat => a.1.length ≤ 1000 ∧ a.2 ≤ 1000) (fun a => [cS a.1, cI (a.2 : Nat)]) fun a => cL ((sums a.1 a.2).map cI))
abbrev T_lighter (K : PySem.W.Frag) (mg : Str → Option Value) : Prop := FnK K mg "lighter_at" 2 2 (SpG (fun a : List Int × List Int => a.1.length ≤ 1000 ∧ a.2.length ≤ 1000) (fun a => [cS a.1, cS a.2]) fun a => cV (lightV a.1 a.2))
abbrev T_check_shape (K : PySem.W.Frag) (mg : Str → Option Value) : Prop := FnK K mg "check_shape" 3 2 G_check_shape
/-! check_sizes -/
abbrev T_check_sizes (K : PySem.W.Frag) (mg : Str → Option Value) : Prop := FnK K mg "check_sizes" 4 2 (SpG (fun a : List Int × List Int => (shpB 40 a.1 = true ∧ shpB 40 a.2 = true) ∧ a.1.sum = a.2.sum) (fun a => [cS a.1, cS a.2]) fun a => cN)
theorem shp_len {m : Int} {ns : List Int} (h : shpB m ns = true) : (ns.length : Int) ≤ m := by
  simp only [shpB, Bool.and_eq_true, decide_eq_true_eq] at h
  exact h.1
theorem k_check_sizes (Fr : Frees mg) (Cn : Consts mg) (F1 : T_check_shape K mg) (D : Def K mg "check_sizes" s_check_sizes) : T_check_sizes K mg := by
  refine def_okA ["shape", "other"] ["shape", "other"] D fun P w base f cd A outer s H E o sco ⟨ns, ms⟩ hh => ?_
  obtain ⟨⟨h1, h2⟩, h3⟩ : (shpB 40 ns = true ∧ shpB 40 ms = true) ∧ ns.sum = ms.sum := hh
  have l1 := shp_len h1
  have l2 := shp_len h2
  exact .inr ⟨rfl, _, gb_cons (gs_expr (ge_call o F1 (ga_cons (ge_var 0) (ga_one (ge_const o Cn.boxes))) ⟨ns, 40, by omega, h1, rfl, rfl⟩)) (gb_cons (gs_expr (ge_call o F1 (ga_cons (ge_var 1) (ga_one (ge_const o Cn.boxes))) ⟨ms, 40, by omega, h2, rfl, rfl⟩))
    (gb_one (gs_skip (gt_is (gt_neI (ge_sumT o Fr.sum (ge_var 0)) (ge_sumT o Fr.sum (ge_var 1))) (by rw [decide_eq_true h3] <;> rfl)))))⟩
/-! flipped, heavier -/
abbrev T_flipped_of (K : PySem.W.Frag) (mg : Str → Option Value) : Prop := FnK K mg "flipped_of" 1 1 G_flipped_of
abbrev T_flipped (K : PySem.W.Frag) (mg : Str → Option Value) : Prop := FnK K mg "flipped" 4 1 (SpG (fun a : List Int => shpB 40 a = true) (fun a => [cS a]) fun a => cS (flip1 a))
theorem shp_top {ns : List Int} (h : shpB 40 ns = true) : 0 ≤ ns.getD 0 0 ∧ ns.getD 0 0 ≤ 1000 := by
  simp only [shpB, Bool.and_eq_true, decide_eq_true_eq] at h
  cases ns with
  | nil => exact ⟨by decide, by decide⟩
  | cons n ns =>
    have := h.2.1
    rw [List.all_cons] at this
    simp only [Bool.and_eq_true, decide_eq_true_eq] at this
    show 0 ≤ n ∧ n ≤ 1000
    omega
theorem k_flipped (Cn : Consts mg) (F1 : T_check_shape K mg) (F2 : T_flipped_of K mg) (D : Def K mg "flipped" s_flipped) : T_flipped K mg := by
  refine def_okA ["shape"] ["shape"] D fun P w base f cd A outer s H E o sco ns h1 => ?_
  have h1 : shpB 40 ns = true := h1
  have l1 := shp_len h1
  exact .inl (gb_cons (gs_expr (ge_call o F1 (ga_cons (ge_var 0) (ga_one (ge_const o Cn.boxes))) ⟨ns, 40, by omega, h1, rfl, rfl⟩)) (gb_ret (ge_call o F2 (ga_one (ge_var 0)) ⟨ns, by omega, shp_top h1, rfl, rfl⟩)))
abbrev T_heavier (K : PySem.W.Frag) (mg : Str → Option Value) : Prop := FnK K mg "heavier" 5 2 (SpG (fun a : List Int × List Int => (shpB 40 a.1 = true ∧ shpB 40 a.2 = true) ∧ a.1.sum = a.2.sum) (fun a => [cS a.1, cS a.2]) fun a => cB (decide (lightV a.1 a.2 = .non)))
theorem k_heavier (F1 : T_check_sizes K mg) (F2 : T_lighter K mg) (D : Def K mg "heavier" s_heavier) : T_heavier K mg := by
  refine def_okA ["shape", "other"] ["shape", "other"] D fun P w base f cd A outer s H E o sco ⟨ns, ms⟩ hh => ?_
  obtain ⟨⟨h1, h2⟩, h3⟩ : (shpB 40 ns = true ∧ shpB 40 ms = true) ∧ ns.sum = ms.sum := hh
  have l1 := shp_len h1
  have l2 := shp_len h2
  exact .inl (gb_cons (gs_expr (ge_callA (ns, ms) o F1 (ga_cons (ge_var 0) (ga_one (ge_var 1))) ⟨⟨h1, h2⟩, h3⟩)) (gb_ret (ge_isN (ge_callA (ns, ms) o F2 (ga_cons (ge_var 0) (ga_one (ge_var 1))) ⟨by show ns.length ≤ 1000; omega, by show ms.length ≤ 1000; omega⟩) ge_non)))
/-! all_shapes -/
abbrev ShI : Type := List Int × Int × Int
def shC (q : ShI) : Cell := cT [cS q.1, cI q.2.1, cI q.2.2]
def kidsA (q : ShI) : List ShI := (List.range (min q.2.1 q.2.2 + 1 - 1).toNat).map fun (i : Nat) => (q.1 ++ [1 + (i : Int)], q.2.1 - (1 + (i : Int)), 1 + (i : Int))
def stepA (s : List (List Int) × List ShI) : List (List Int) × List ShI := match s.2.getLast? with
  | none => s
  | some q => (if q.2.1 = 0 then s.1 ++ [q.1] else s.1, s.2.dropLast ++ kidsA q)
def runA : Nat → List (List Int) × List ShI → List (List Int) × List ShI
  | 0, s => s
  | n + 1, s => runA n (stepA s)
theorem runA_succ : ∀ (n : Nat) (s : List (List Int) × List ShI), runA (n + 1) s = stepA (runA n s)
  | 0, s => rfl
  | n + 1, s => runA_succ n (stepA s)
/-- n pops end it, all of them small -/
def okA (s : List (List Int) × List ShI) (n : Nat) : Bool := (List.range (n + 1)).all fun i => decide ((runA i s).1.length ≤ 1000) && (decide ((runA i s).2.length ≤ 1000) && ((decide (i < n) == !(runA i s).2.isEmpty) && (runA i s).2.all fun q => decide (q.1.length ≤ 100) && (decide (-1000 ≤ q.2.1) && (decide (q.2.1 ≤ 1000) && (decide (-1000 ≤ q.2.2) && decide (q.2.2 ≤ 1000))))))
abbrev T_all_shapes (K : PySem.W.Frag) (mg : Str → Option Value) : Prop := FnK K mg "all_shapes" 1 2 (SpG (fun a : Int × Nat => okA ([], [([], a.1, a.1)]) a.2 = true) (fun a => [cI a.1, cI a.1]) fun a => cL ((runA a.2 ([], [([], a.1, a.1)])).1.map cS))
theorem gg_three {I : Type} {X : I → Cx} {K : PySem.W.Frag} {mg : Str → Option Value} {k : Nat} {x y z : Str} {pos : Pos} (o : Cok X K mg k) (i j m : Nat) {kk : Nat} {p1 p2 p3 : Pos} (hN : ∀ n, (X n).N[i]? = some x := by intro _; rfl) (hx : ∀ n, Loc (X n).env.scope x := by intro _; first | exact Or.inl rfl | exact Or.inr rfl)
    (hf : ∀ n, (X n).fn x = true ∨ (X n).env.scope.names.lookup x = some .local := by intro _; first | exact Or.inl rfl | exact Or.inr rfl)
    (hN2 : ∀ n, (X n).N[j]? = some y := by intro _; rfl) (hx2 : ∀ n, Loc (X n).env.scope y := by intro _; first | exact Or.inl rfl | exact Or.inr rfl)
    (hf2 : ∀ n, (X n).fn y = true ∨ (X n).env.scope.names.lookup y = some .local := by intro _; first | exact Or.inl rfl | exact Or.inr rfl)
    (hN3 : ∀ n, (X n).N[m]? = some z := by intro _; rfl) (hx3 : ∀ n, Loc (X n).env.scope z := by intro _; first | exact Or.inl rfl | exact Or.inr rfl)
    (hf3 : ∀ n, (X n).fn z = true ∨ (X n).env.scope.names.lookup z = some .local := by intro _; first | exact Or.inl rfl | exact Or.inr rfl) : GG X (.Tuple [.Name x p1, .Name y p2, .Name z p3] kk pos) [i, j, m] :=
  ⟨gTup K 3 (gCons (gName i) (gCons (gName j) (gCons (gName m) gNil))), fun n => by
    have h := pg_tup (X := X n) (pos := pos) (k := kk) (o.calm n) (pgs_cons (pg_name (pos := p1) (o.nd n) (hN n) (hx n) (hf n)) (pgs_cons (pg_name (pos := p2) (o.nd n) (hN2 n) (hx2 n) (hf2 n)) (pgs_cons (pg_name (pos := p3) (o.nd n) (hN3 n) (hx3 n) (hf3 n)) pgs_nil)))
    rw [o.K n] at h
    exact h, fun B H σ l v Q s hl hv q => by
    match l, hl with
    | [c, c', c2], _ =>
      obtain ⟨a, xs, rfl, ha, ss⟩ := hv
      obtain ⟨v, w, u, rfl, h1, h2, h3⟩ := sats3 ss
      exact ⟨a, _, rfl, SqT.of (s _ _ ha), rfl, v, _, rfl, w, _, rfl, u, [], rfl, rfl, q [v, w, u] ss⟩⟩
theorem gt_lenM {I : Type} {X : I → Cx} {K : PySem.W.Frag} {mg : Str → Option Value} {k : Nat} {cs : Cs} {l : List Cell} {x : Str} {p p1 pos : Pos} (i : Nat) (ok : Cok X K mg k) (Fr : Frees mg) (hi : cs[i]? = some (some (.ml l)) := by rfl) (hN : ∀ j, (X j).N[i]? = some x := by intro _; rfl) (hv : ∀ j, Vis (X j).env.scope x := by intro _; first | exact Or.inl rfl | exact Or.inr (Or.inl rfl) | exact Or.inr (Or.inr rfl))
    (hd : (x == ("__debug__" : Str)) = false := by decide) (hcd : (x == ("__classdict__" : Str)) = false := by decide) (hs : ∀ j, starEach [.Name x p1] (X j).env = (false, eval (.Name x p1) (X j).env) :: starEach [] (X j).env := by intro _; rfl) (hg : ∀ j, Gl (X j) "len" := by intro _; rfl) : GE X (.Call (.Name "len" p) [.Name x p1] [] pos) cs (cI l.length) := by
  refine ⟨_, fun j => pe_callB (cr_len ok j) (hg j) (by rw [ok.mg j]; exact Fr.len) PySem.boot_len (pa_cons (pe_var (i := i) (hN j) (hv j) hd hcd) pa_nil (hs j)) (by decide) (by decide) (hs j) rfl, fun B0 H0 B H σ Q E q => ?_⟩
  obtain ⟨w, h1, r, xs, rfl, e0, eb, eh, ss⟩ := E.sl i _ hi
  exact ⟨_, h1, r, xs, rfl, .inl (SqL.of eh), q _ B H (Step.refl E.bh) (by show V.int _ = V.int _; rw [sats_len ss])⟩
theorem k_all_shapes (Fr : Frees mg) (D : Def K mg "all_shapes" s_all_shapes) : T_all_shapes K mg := by
  refine def_okA ["size", "most", "found", "line", "shape", "left", "high", "part"] ["size", "most"] D fun P w base f cd A outer s H E o sco ⟨n, m⟩ hh => ?_
  have hh : okA ([], [([], n, n)]) m = true := hh
  have hk : ∀ i, i ≤ m → (runA i ([], [([], n, n)])).1.length ≤ 1000 ∧ (runA i ([], [([], n, n)])).2.length ≤ 1000 ∧ (decide (i < m) = !(runA i ([], [([], n, n)])).2.isEmpty) ∧ ∀ q ∈ (runA i ([], [([], n, n)])).2, q.1.length ≤ 100 ∧ -1000 ≤ q.2.1 ∧ q.2.1 ≤ 1000 ∧ -1000 ≤ q.2.2 ∧ q.2.2 ≤ 1000 := fun i hi => by
    have := List.all_eq_true.mp hh i (List.mem_range.mpr (Nat.lt_succ_of_le hi))
    simp only [Bool.and_eq_true, decide_eq_true_eq, List.all_eq_true, beq_iff_eq] at this
    exact ⟨this.1, this.2.1, this.2.2.1, this.2.2.2⟩
  refine .inl (gb_cons (gs_newml 2 o ga_nil) (gb_cons (gs_newml 3 o (ga_one (ge_tup (ga_cons (ge_tup ga_nil) (ga_cons (ge_var 0) (ga_one (ge_var 1))))))) (gb_cons (gs_whileN (env := fun s : List (List Int) × List ShI => [some (.im (cI n)), some (.im (cI n)), some (.ml (s.1.map cS)), some (.ml (s.2.map shC)), none, none, none, none]) m (fun i => runA i ([], [([], n, n)])) o (fun i hi => ?_) (fun i hi => ?_)) (gb_rest 2 (gb_ret (ge_var 2))))))
  · obtain ⟨_, _, h3, _⟩ := hk i hi
    refine gt_is (gt_gt (gt_lenM 3 o Fr) ge_int) ?_
    rw [h3, List.length_map]
    cases (runA i ([], [([], n, n)])).2 with
    | nil => rfl
    | cons q l =>
      rw [List.length_cons]
      exact decide_eq_true (by omega)
  · obtain ⟨h1, h2, h3, h4⟩ := hk i (Nat.le_of_lt hi)
    rw [runA_succ]
    generalize runA i ([], [([], n, n)]) = st at h1 h2 h3 h4 ⊢
    rw [decide_eq_true hi] at h3
    obtain ⟨fnd, line⟩ := st
    have hne : line ≠ [] := fun e => by
      have h3 : true = !line.isEmpty := h3
      rw [e] at h3
      cases h3
    obtain ⟨l, q, rfl⟩ : ∃ l q, line = l ++ [q] := ⟨line.dropLast, line.getLast hne, (List.dropLast_concat_getLast hne).symm⟩
    obtain ⟨sh, lf, hg⟩ := q
    have hq : sh.length ≤ 100 ∧ -1000 ≤ lf ∧ lf ≤ 1000 ∧ -1000 ≤ hg ∧ hg ≤ 1000 := h4 _ (List.mem_append_right _ List.mem_cons_self)
    have h1 : fnd.length ≤ 1000 := h1
    have h2 : (l ++ [(sh, lf, hg)]).length ≤ 1000 := h2
    rw [List.length_append] at h2
    have es : stepA (fnd, l ++ [(sh, lf, hg)]) = (if lf = 0 then fnd ++ [sh] else fnd, l ++ kidsA (sh, lf, hg)) := by
      unfold stepA
      rw [List.getLast?_concat, List.dropLast_concat]
    rw [es]
    refine gb_cons (gs_pop (l := l.map shC) (lc := [cS sh, cI lf, cI hg]) 3 o (gg_three o 4 5 6) (by show some (some (Slot.ml ((l ++ [(sh, lf, hg)]).map shC))) = _; rw [List.map_append] <;> rfl)) ?_
    refine gb_cons (cs' := [some (.im (cI n)), some (.im (cI n)), some (.ml ((if lf = 0 then fnd ++ [sh] else fnd).map cS)), some (.ml (l.map shC)), some (.im (cS sh)), some (.im (cI lf)), some (.im (cI hg)), none]) (gs_if (i := decide (lf = 0)) (gt_eqI (ge_var 5) ge_int) (fun h => ?_) (fun h => ?_)) ?_
    · rw [if_pos (of_decide_eq_true h)]
      exact gb_one (gs_appM (f := cS) 2 o (ge_var 4) (by omega))
    · rw [if_neg (of_decide_eq_false h)]
      exact gb_nil
    · generalize (if lf = 0 then fnd ++ [sh] else fnd) = fnd'
      have fl : ∀ (its : List Nat) (l : List ShI), its.foldl (fun t (i : Nat) => t ++ [(sh ++ [1 + (i : Int)], lf - (1 + (i : Int)), 1 + (i : Int))]) l = l ++ its.map fun (i : Nat) => (sh ++ [1 + (i : Int)], lf - (1 + (i : Int)), 1 + (i : Int)) := by
        intro its
        induction its with
        | nil => intro l; rw [List.map_nil, List.append_nil] <;> rfl
        | cons i its ih => intro l; rw [List.foldl_cons, ih, List.append_assoc] <;> rfl
      refine gb_post (gb_one (gs_for (env := fun t : List ShI => [some (.im (cI n)), some (.im (cI n)), some (.ml (fnd'.map cS)), some (.ml (t.map shC)), some (.im (cS sh)), some (.im (cI lf)), some (.im (cI hg)), none]) (its := List.range (min lf hg + 1 - 1).toNat) (ic := fun i : Nat => [cI (1 + (i : Nat))]) (s0 := l) (fun t (i : Nat) => t ++ [(sh ++ [1 + (i : Int)], lf - (1 + (i : Int)), 1 + (i : Int))]) o
        (gi_rng2N _ o Fr.range ge_int (ge_add (ge_min2 o Fr.min (ge_var 5) (ge_var 6)) ge_int) rfl (by omega)) (gg_name o 7) (fun pre i post e => ?_))) ?_
      · have hl : (pre.foldl (fun t (i : Nat) => t ++ [(sh ++ [1 + (i : Int)], lf - (1 + (i : Int)), 1 + (i : Int))]) l).length = l.length + pre.length := by
          clear e
          generalize l = t
          induction pre generalizing t with
          | nil => rfl
          | cons i its ih => rw [List.foldl_cons, ih, List.length_append, List.length_cons, List.length_cons, List.length_nil]; omega
        have hpl : pre.length < 1001 := by
          have := congrArg List.length e
          rw [List.length_range, List.length_append, List.length_cons] at this
          omega
        generalize pre.foldl (fun t (i : Nat) => t ++ [(sh ++ [1 + (i : Int)], lf - (1 + (i : Int)), 1 + (i : Int))]) l = t at hl ⊢
        exact gb_post (gb_one (gs_appM (f := shC) (q := (sh ++ [1 + (i : Int)], lf - (1 + (i : Int)), 1 + (i : Int))) 3 o (ge_tup (ga_cons (ge_catS o (ge_var 4) (ge_tup (ga_one (ge_var 7))) (by rw [List.length_cons, List.length_nil]; omega)) (ga_cons (ge_subt (ge_var 5) (ge_var 7)) (ga_one (ge_var 7))))) (by rw [hl]; simp at h2; omega))) (le_same (le_same (le_same (le_same (le_same (le_same (le_same (le_none le_nil))))))))
      · rw [fl]
        exact le_same (le_same (le_same (le_same (le_none (le_none (le_none (le_none le_nil)))))))
end
end Ws
set_option Elab.async false
set_option linter.all false
set_option maxRecDepth 100000
set_option maxHeartbeats 4000000
namespace Ws
open PySem PySem.Spec L2
section
variable {K : PySem.W.Frag} {mg : Str → Option Value}
/-! shapes_of -/
abbrev T_is_number (K : PySem.W.Frag) (mg : Str → Option Value) : Prop := FnK K mg "is_number" 1 3 G_is_number
abbrev T_trimmed (K : PySem.W.Frag) (mg : Str → Option Value) : Prop := FnK K mg "trimmed" 1 1 G_trimmed
abbrev T_shapes_of (K : PySem.W.Frag) (mg : Str → Option Value) : Prop := FnK K mg "shapes_of" 3 1 (SpG (fun a : Int × Nat => (0 ≤ a.1 ∧ a.1 ≤ 12) ∧ okA ([], [([], a.1, a.1)]) a.2 = true) (fun a => [cI a.1]) fun a => cT ((runA a.2 ([], [([], a.1, a.1)])).1.map cS))
theorem k_shapes_of (Fr : Frees mg) (Cn : Consts mg) (F1 : T_is_number K mg) (F2 : T_all_shapes K mg) (D : Def K mg "shapes_of" s_shapes_of) : T_shapes_of K mg := by
  refine def_okA ["size"] ["size"] D fun P w base f cd A outer s H E o sco ⟨n, m⟩ hh => ?_
  obtain ⟨h1, h2⟩ : (0 ≤ n ∧ n ≤ 12) ∧ okA ([], [([], n, n)]) m = true := hh
  exact .inl (gb_cons (gs_skip (gt_is (gt_not (gt_val (ge_call o F1 (ga_cons (ge_var 0) (ga_cons ge_int (ga_one (ge_const o Cn.long)))) ⟨n, 0, 12, rfl, rfl⟩))) (by rw [decide_eq_true h1.1, decide_eq_true h1.2] <;> rfl))) (gb_ret (ge_tupL o Fr.tuple (ge_callA (n, m) o F2 (ga_cons (ge_var 0) (ga_one (ge_var 0))) h2))))
/-! strips_on -/
def pC (q : List Int × Int) : Cell := cT [cS q.1, cI q.2]
def stripG (own room : Int) (q : List Int × Int) : List (List Int × Int) := (List.range (min room q.2 - -1).toNat).map fun (i : Nat) => (q.1 ++ [own + (min room q.2 - (i : Int))], q.2 - (min room q.2 - (i : Int)))
def roomAt (sh : List Int) (size : Int) (r : Nat) : Int := if 0 < r then sh.getD (r - 1) 0 - sh.getD r 0 else size
def stripStep (sh : List Int) (size : Int) (fnd : List (List Int × Int)) (r : Nat) : List (List Int × Int) := fnd.flatMap (stripG (sh.getD r 0) (roomAt sh size r))
def stripAll (sh : List Int) (size : Int) : List (List Int × Int) := (List.range (sh.length + 1)).foldl (stripStep sh size) [([], size)]
def strips (sh : List Int) (size : Int) : List (List Int) := ((stripAll sh size).filter fun q => decide (q.2 = 0)).map fun q => trim q.1
def smallQ (fnd : List (List Int × Int)) : Bool := decide (fnd.length ≤ 1000) && fnd.all fun q => decide (q.1.length ≤ 100) && (decide (-1000 ≤ q.2) && decide (q.2 ≤ 1000))
theorem smallQ_at {fnd : List (List Int × Int)} (h : smallQ fnd = true) : fnd.length ≤ 1000 ∧ ∀ q ∈ fnd, q.1.length ≤ 100 ∧ -1000 ≤ q.2 ∧ q.2 ≤ 1000 := by
  simp only [smallQ, Bool.and_eq_true, decide_eq_true_eq, List.all_eq_true] at h
  exact ⟨h.1, fun q hq => ⟨(h.2 q hq).1, (h.2 q hq).2.1, (h.2 q hq).2.2⟩⟩
def okStrips (sh : List Int) (size : Int) : Bool := decide (sh.length ≤ 100) && (okF (stripStep sh size) (fun fnd r => smallQ fnd && (smallQ (stripStep sh size fnd r) && (decide (-1000 ≤ roomAt sh size r) && decide (roomAt sh size r ≤ 1000)))) [([], size)] (List.range (sh.length + 1)) && smallQ (stripAll sh size))
theorem foldl_app {α β : Type} (g : α → List β) : ∀ (l : List α) (t : List β), l.foldl (fun t a => t ++ g a) t = t ++ l.flatMap g
  | [], t => by rw [List.flatMap_nil, List.append_nil] <;> rfl
  | a :: l, t => by rw [List.foldl_cons, foldl_app g l, List.flatMap_cons, List.append_assoc]
abbrev T_strips_on (K : PySem.W.Frag) (mg : Str → Option Value) : Prop := FnK K mg "strips_on" 2 2 (SpG (fun a : List Int × Int => okStrips a.1 a.2 = true) (fun a => [cS a.1, cI a.2]) fun a => cL ((strips a.1 a.2).map cS))
theorem k_strips_on (Fr : Frees mg) (F1 : T_trimmed K mg) (D : Def K mg "strips_on" s_strips_on) : T_strips_on K mg := by
  refine def_okA ["shape", "size", "found", "row", "own", "room", "later", "part", "left", "more"] ["shape", "size"] D fun P w base f cd A outer s H E o sco ⟨sh, size⟩ hh => ?_
  have hh : okStrips sh size = true := hh
  simp only [okStrips, Bool.and_eq_true, decide_eq_true_eq] at hh
  obtain ⟨hl, hf, hs⟩ := hh
  obtain ⟨hs1, hs2⟩ := smallQ_at hs
  refine .inl (gb_cons (gs_set 2 o (ge_lst (ga_one (ge_tup (ga_cons (ge_tup ga_nil) (ga_one (ge_var 1))))))) (gb_cons (gs_for (env := fun t : List (List Int × Int) => [some (.im (cS sh)), some (.im (cI size)), some (.im (cL (t.map pC))), none, none, none, none, none, none, none]) (ic := fun r : Nat => [cI (r : Nat)]) (s0 := [([], size)]) (stripStep sh size) o
    (gi_rngN (sh.length + 1) o Fr.range (ge_add (ge_lenS o Fr (ge_var 0)) ge_int) (by omega)) (gg_name o 3) fun pre r post e => ?_) (gb_ret ?_)))
  · have hck := okF_at (ck := fun fnd r => smallQ fnd && (smallQ (stripStep sh size fnd r) && (decide (-1000 ≤ roomAt sh size r) && decide (roomAt sh size r ≤ 1000)))) (e ▸ hf)
    have hr : r < sh.length + 1 := by
      have : r ∈ List.range (sh.length + 1) := by rw [e]; exact List.mem_append_right _ List.mem_cons_self
      exact List.mem_range.mp this
    generalize pre.foldl (stripStep sh size) [([], size)] = fnd at hck ⊢
    simp only [Bool.and_eq_true, decide_eq_true_eq] at hck
    obtain ⟨c1, c2, c3, c4⟩ := hck
    obtain ⟨c5, c6⟩ := smallQ_at c1
    obtain ⟨c7, c8⟩ := smallQ_at c2
    refine gb_cons (gs_set 4 o (ge_if (c := cI (sh.getD r 0)) (gt_lt (ge_var 3) (ge_lenS o Fr (ge_var 0))) (fun h => ge_ixS r o (ge_var 0) (ge_var 3) rfl (by have := of_decide_eq_true h; omega)) (fun h => ge_eq ge_int ?_))) ?_
    · have := of_decide_eq_false h
      rw [List.getD_eq_getElem?_getD, List.getElem?_eq_none (by omega)] <;> rfl
    refine gb_cons (gs_set 5 o (ge_if (c := cI (roomAt sh size r)) (gt_gt (ge_var 3) ge_int) (fun h => ?_) (fun h => ?_))) ?_
    · have h := of_decide_eq_true h
      have h0 : 0 < r := by omega
      refine ge_eq (ge_subt (ge_ixS (r - 1) o (ge_var 0) (ge_subt (ge_var 3) ge_int) (by omega) (by omega)) (ge_var 4)) ?_
      unfold roomAt
      rw [if_pos h0]
    · have h := of_decide_eq_false h
      unfold roomAt
      rw [if_neg (by omega)]
      exact ge_var 1
    refine gb_cons (gs_set 6 o (ge_lst ga_nil)) ?_
    refine gb_cons (gs_for (env := fun t : List (List Int × Int) => [some (.im (cS sh)), some (.im (cI size)), some (.im (cL (fnd.map pC))), some (.im (cI (r : Nat))), some (.im (cI (sh.getD r 0))), some (.im (cI (roomAt sh size r))), some (.im (cL (t.map pC))), none, none, none]) (its := fnd) (ic := fun q : List Int × Int => [cS q.1, cI q.2]) (s0 := []) (fun t q => t ++ stripG (sh.getD r 0) (roomAt sh size r) q) o
      (gi_list o (ge_var 2)) (gg_two o 7 8) fun pre2 q post2 e2 => ?_) ?_
    · have hq := c6 q (by rw [e2]; exact List.mem_append_right _ List.mem_cons_self)
      have hlen : (pre2.foldl (fun t q => t ++ stripG (sh.getD r 0) (roomAt sh size r) q) []).length + (stripG (sh.getD r 0) (roomAt sh size r) q).length ≤ 1000 := by
        rw [foldl_app, List.nil_append]
        unfold stripStep at c7
        rw [e2, List.flatMap_append, List.flatMap_cons, List.length_append, List.length_append] at c7
        omega
      generalize pre2.foldl (fun t q => t ++ stripG (sh.getD r 0) (roomAt sh size r) q) [] = t at hlen ⊢
      refine gb_post (gb_one (gs_set 6 o (ge_catM (f := pC) (xs := t) (ys := stripG (sh.getD r 0) (roomAt sh size r) q) (ge_var 6) (ge_eq (ge_lc0 (ec := fun i : Nat => pC (q.1 ++ [sh.getD r 0 + (min (roomAt sh size r) q.2 - (i : Int))], q.2 - (min (roomAt sh size r) q.2 - (i : Int)))) sco [("more", 9)] o (its := List.range (min (roomAt sh size r) q.2 - -1).toNat) (ic := fun i : Nat => [cI (min (roomAt sh size r) q.2 - (i : Int))]) (gi_down o Fr.range (ge_min2 o Fr.min (ge_var 5) (ge_var 8)) (ge_neg ge_int) (ge_neg ge_int) (by omega)) (gg_name (cok_blk o) 9)
        (fun i hi => ge_tup (ga_cons (ge_catS (cok_blk o) (ge_var 7) (ge_tup (ga_one (ge_add (ge_var 4) (ge_var 9)))) (by rw [List.length_cons, List.length_nil]; omega)) (ga_one (ge_subt (ge_var 8) (ge_var 9))))) (by rw [List.length_range]; omega)) (by unfold stripG; rw [List.map_map] <;> rfl)) (by omega)))) (le_same (le_same (le_same (le_same (le_same (le_same (le_same (le_none (le_none (le_none le_nil))))))))))
    · rw [foldl_app, List.nil_append]
      exact gb_post (gb_one (gs_set 2 o (ge_var 6))) (le_same (le_same (le_same (le_none (le_none (le_none (le_none (le_none (le_none (le_none le_nil))))))))))
  · refine ge_eq (ge_lc (its := stripAll sh size) (pr := fun q => decide (q.2 = 0)) sco [("part", 7), ("left", 8)] o (ic := fun q : List Int × Int => [cS q.1, cI q.2]) (gi_list o (ge_var 2)) (gg_two (cok_blk o) 7 8) (fun q _ => gts_one (gt_eqI (ge_var 8) ge_int)) (fun q hq _ => ge_call (cok_blk o) F1 (ga_one (ge_var 7)) ⟨q.1, by have := hs2 q hq; omega, rfl, rfl⟩) (by omega)) ?_
    unfold strips
    rw [List.map_map] <;> rfl
end
end Ws
set_option Elab.async false
set_option linter.all false
set_option maxRecDepth 100000
set_option maxHeartbeats 4000000
namespace Ws
open PySem PySem.Spec L2
section
variable {K : PySem.W.Frag} {mg : Str → Option Value}
theorem le_eq {cs cs' : Cs} {s t : Option Slot} (e : s = t) (h : Le cs' cs) : Le (s :: cs') (t :: cs) := e ▸ le_same h
/-! are_amounts, check_amounts, check_margins -/
abbrev T_are_amounts (K : PySem.W.Frag) (mg : Str → Option Value) : Prop := FnK K mg "are_amounts" 1 2 (SpG (fun a : List Int × Int => a.1.length ≤ 1000 ∧ ((a.1.length : Int) ≤ a.2 ∧ ∀ n ∈ a.1, 0 ≤ n)) (fun a => [cS a.1, cI a.2]) fun a => cB true)
theorem k_are_amounts (Fr : Frees mg) (D : Def K mg "are_amounts" s_are_amounts) : T_are_amounts K mg := by
  refine def_okA ["value", "most", "many"] ["value", "most"] D fun P w base f cd A outer s H E o sco ⟨ns, m⟩ hh => ?_
  obtain ⟨h1, h2, h3⟩ : ns.length ≤ 1000 ∧ ((ns.length : Int) ≤ m ∧ ∀ n ∈ ns, 0 ≤ n) := hh
  dsimp only
  refine .inl (gb_cons (gs_skip (gt_w (gw_orF (gt_not (gt_val (ge_isi o Fr.isinstance ty_T kit_tt (ge_var 0) (ge_ty o Fr.tuple)))) (gw_or1 (gt_is (gt_gt (ge_lenS o Fr (ge_var 0)) (ge_var 1)) (decide_eq_false (by omega))))))) (gb_ret (ge_eq (ge_allOf (f := fun n : Int => decide (0 ≤ n)) o Fr
    (ge_lc0 sco [("many", 2)] o (ic := fun n : Int => [cI n]) (gi_tup o (ge_var 0)) (gg_name (cok_blk o) 2) (fun n _ => ge_andT (ge_isi (cok_blk o) Fr.isinstance ty_I kit_ii (ge_var 2) (ge_ty (cok_blk o) Fr.int)) (ge_andT (ge_not (ge_isi (cok_blk o) Fr.isinstance ty_I kit_ib (ge_var 2) (ge_ty (cok_blk o) Fr.bool))) (ge_one (ge_ge (ge_var 2) ge_int)))) (by omega))) ?_)))
  rw [List.all_eq_true.mpr fun n hn => decide_eq_true (h3 n hn)]
abbrev T_check_amounts (K : PySem.W.Frag) (mg : Str → Option Value) : Prop := FnK K mg "check_amounts" 2 1 (SpG (fun a : List Int => (a.length : Int) ≤ 12 ∧ ∀ n ∈ a, 0 ≤ n) (fun a => [cS a]) fun a => cN)
theorem k_check_amounts (Cn : Consts mg) (F1 : T_are_amounts K mg) (D : Def K mg "check_amounts" s_check_amounts) : T_check_amounts K mg := by
  refine def_okA ["value"] ["value"] D fun P w base f cd A outer s H E o sco ns hh => ?_
  obtain ⟨h1, h2⟩ : (ns.length : Int) ≤ 12 ∧ ∀ n ∈ ns, 0 ≤ n := hh
  exact .inr ⟨rfl, _, gb_one (gs_skip (gt_not (gt_val (ge_callA (ns, 12) o F1 (ga_cons (ge_var 0) (ga_one (ge_const o Cn.long))) ⟨by show ns.length ≤ 1000; omega, h1, h2⟩))))⟩
abbrev T_check_margins (K : PySem.W.Frag) (mg : Str → Option Value) : Prop := FnK K mg "check_margins" 2 1 (SpG (fun a : List Int => (a.length : Int) ≤ 6 ∧ ((∀ n ∈ a, 0 ≤ n) ∧ a.sum ≤ 12)) (fun a => [cS a]) fun a => cN)
theorem k_check_margins (Fr : Frees mg) (Cn : Consts mg) (F1 : T_are_amounts K mg) (D : Def K mg "check_margins" s_check_margins) : T_check_margins K mg := by
  refine def_okA ["value"] ["value"] D fun P w base f cd A outer s H E o sco ns hh => ?_
  obtain ⟨h1, h2, h3⟩ : (ns.length : Int) ≤ 6 ∧ ((∀ n ∈ ns, 0 ≤ n) ∧ ns.sum ≤ 12) := hh
  exact .inr ⟨rfl, _, gb_one (gs_skip (gt_w (gw_orF (gt_not (gt_val (ge_callA (ns, 6) o F1 (ga_cons (ge_var 0) (ga_one (ge_const o Cn.margins))) ⟨by show ns.length ≤ 1000; omega, h1, h2⟩))) (gw_or1 (gt_is (gt_gt (ge_sumT o Fr.sum (ge_var 0)) (ge_const o Cn.long)) (decide_eq_false (by omega)))))))⟩
/-! parts_below -/
def partG (part room : Int) (q : List Int × Int) : List (List Int × Int) := (List.range (min room q.2 + 1).toNat).map fun (i : Nat) => (q.1 ++ [part - (i : Int)], q.2 - (i : Int))
def partStep (sh : List Int) (fnd : List (List Int × Int)) (p : Int × Nat) : List (List Int × Int) := fnd.flatMap (partG p.1 (p.1 - sh.getD (p.2 + 1) 0))
def partAll (sh : List Int) (size : Int) : List (List Int × Int) := sh.zipIdx.foldl (partStep sh) [([], size)]
def partsB (sh : List Int) (size : Int) : List (List Int) := ((partAll sh size).filter fun q => decide (q.2 = 0)).map fun q => trim q.1
def okParts (sh : List Int) (size : Int) : Bool := decide (sh.length ≤ 100) && (okF (partStep sh) (fun fnd p => smallQ fnd && (smallQ (partStep sh fnd p) && (decide (-1000 ≤ p.1 - sh.getD (p.2 + 1) 0) && decide (p.1 - sh.getD (p.2 + 1) 0 ≤ 1000)))) [([], size)] sh.zipIdx && smallQ (partAll sh size))
theorem flat_len {α β : Type} {g : α → List β} {l : List α} {a : α} (h : a ∈ l) : (g a).length ≤ (l.flatMap g).length := by
  induction l with
  | nil => cases h
  | cons b l ih =>
    rw [List.flatMap_cons, List.length_append]
    rcases List.mem_cons.mp h with e | h
    · rw [e]; omega
    · have := ih h; omega
abbrev T_parts_below (K : PySem.W.Frag) (mg : Str → Option Value) : Prop := FnK K mg "parts_below" 2 2 (SpG (fun a : List Int × Int => okParts a.1 a.2 = true) (fun a => [cS a.1, cI a.2]) fun a => cL ((partsB a.1 a.2).map cS))
theorem k_parts_below (Fr : Frees mg) (F1 : T_trimmed K mg) (D : Def K mg "parts_below" s_parts_below) : T_parts_below K mg := by
  refine def_okA ["shape", "size", "found", "row", "part", "room", "head", "left", "less"] ["shape", "size"] D fun P w base f cd A outer s H E o sco ⟨sh, size⟩ hh => ?_
  have hh : okParts sh size = true := hh
  simp only [okParts, Bool.and_eq_true, decide_eq_true_eq] at hh
  obtain ⟨hl, hf, hs⟩ := hh
  obtain ⟨hs1, hs2⟩ := smallQ_at hs
  refine .inl (gb_cons (gs_set 2 o (ge_lst (ga_one (ge_tup (ga_cons (ge_tup ga_nil) (ga_one (ge_var 1))))))) (gb_cons (gs_for (env := fun t : List (List Int × Int) => [some (.im (cS sh)), some (.im (cI size)), some (.im (cL (t.map pC))), none, none, none, none, none, none]) (ic := fun p : Int × Nat => [cI (p.2 : Nat), cI p.1]) (s0 := [([], size)]) (partStep sh) o
    (gi_enumT o Fr.enumerate (ge_var 0)) (gg_two o 3 4) fun pre p post e => ?_) (gb_ret ?_)))
  · have hck := okF_at (ck := fun fnd p => smallQ fnd && (smallQ (partStep sh fnd p) && (decide (-1000 ≤ p.1 - sh.getD (p.2 + 1) 0) && decide (p.1 - sh.getD (p.2 + 1) 0 ≤ 1000)))) (e ▸ hf)
    have hr : p.2 < sh.length := by
      have : p ∈ sh.zipIdx := by rw [e]; exact List.mem_append_right _ List.mem_cons_self
      have := List.snd_lt_of_mem_zipIdx this
      omega
    generalize pre.foldl (partStep sh) [([], size)] = fnd at hck ⊢
    simp only [Bool.and_eq_true, decide_eq_true_eq] at hck
    obtain ⟨c1, c2, c3, c4⟩ := hck
    obtain ⟨c5, c6⟩ := smallQ_at c1
    obtain ⟨c7, c8⟩ := smallQ_at c2
    refine gb_cons (gs_set 5 o (ge_subt (ge_var 4) (ge_if (c := cI (sh.getD (p.2 + 1) 0)) (gt_lt (ge_add (ge_var 3) ge_int) (ge_lenS o Fr (ge_var 0))) (fun h => ge_ixS (p.2 + 1) o (ge_var 0) (ge_add (ge_var 3) ge_int) (by omega) (by have := of_decide_eq_true h; omega)) (fun h => ge_eq ge_int ?_)))) ?_
    · have := of_decide_eq_false h
      rw [List.getD_eq_getElem?_getD, List.getElem?_eq_none (by omega)] <;> rfl
    refine gb_post (gb_one (gs_setLc2 (its := fnd) (its2 := fun q => List.range (min (p.1 - sh.getD (p.2 + 1) 0) q.2 + 1).toNat) (ic2 := fun _ i => [cI (i : Nat)]) (ec := fun q (i : Nat) => pC (q.1 ++ [p.1 - (i : Int)], q.2 - (i : Int))) 2 sco [("head", 6), ("left", 7), ("less", 8)] [8] o (ic := fun q : List Int × Int => [cS q.1, cI q.2]) (gi_list o (ge_var 2)) (gg_two (cok_blk o) 6 7) (fun q hq => ?_) (gg_name (cok_blk o) 8) (fun q hq i hi => ?_) ?_)) ?_
    · have hq' := c6 q hq
      exact gi_rngN _ (cok_blk o) Fr.range (ge_add (ge_min2 (cok_blk o) Fr.min (ge_var 5) (ge_var 7)) ge_int) rfl
    · have hq' := c6 q hq
      exact ge_eq (ge_tup (ga_cons (ge_tup (l := q.1.map cI ++ [cI (p.1 - (i : Int))]) (ga_star (cok_blk o) (ge_var 6) (ga_one (ge_subt (ge_var 4) (ge_var 8)))) (by rw [List.length_append, List.length_map, List.length_cons, List.length_nil]; omega)) (ga_one (ge_subt (ge_var 7) (ge_var 8))))) (by unfold pC cS; rw [List.map_append] <;> rfl)
    · have e1 : (fnd.flatMap fun q => List.range (min (p.1 - sh.getD (p.2 + 1) 0) q.2 + 1).toNat).length = (partStep sh fnd p).length := by
        unfold partStep partG
        rw [List.length_flatMap, List.length_flatMap]
        simp only [List.length_map]
      omega
    · refine le_same (le_same (le_eq (congrArg (fun l => some (Slot.im (cL l))) ?_) (le_none (le_none (le_none (le_none (le_none (le_none le_nil))))))))
      unfold partStep partG
      rw [List.map_flatMap]
      simp only [List.map_map]
      rfl
  · refine ge_eq (ge_lc (its := partAll sh size) (pr := fun q => decide (q.2 = 0)) sco [("head", 6), ("left", 7)] o (ic := fun q : List Int × Int => [cS q.1, cI q.2]) (gi_list o (ge_var 2)) (gg_two (cok_blk o) 6 7) (fun q _ => gts_one (gt_eqI (ge_var 7) ge_int)) (fun q hq _ => ge_call (cok_blk o) F1 (ga_one (ge_var 6)) ⟨q.1, by have := hs2 q hq; omega, rfl, rfl⟩) (by omega)) ?_
    unfold partsB
    rw [List.map_map] <;> rfl
/-! rows_of_sum -/
def rowG (room : Int) (q : List Int × Int) : List (List Int × Int) := (List.range (min room q.2 + 1).toNat).map fun (i : Nat) => (q.1 ++ [(i : Int)], q.2 - (i : Int))
def rowStep (fnd : List (List Int × Int)) (room : Int) : List (List Int × Int) := fnd.flatMap (rowG room)
def rowAll (total : Int) (rooms : List Int) : List (List Int × Int) := rooms.foldl rowStep [([], total)]
def rowsOf (total : Int) (rooms : List Int) : List (List Int) := ((rowAll total rooms).filter fun q => decide (q.2 = 0)).map (·.1)
def okRows (total : Int) (rooms : List Int) : Bool := okF rowStep (fun fnd room => smallQ fnd && (smallQ (rowStep fnd room) && (decide (-1000 ≤ room) && decide (room ≤ 1000)))) [([], total)] rooms && smallQ (rowAll total rooms)
abbrev T_rows_of_sum (K : PySem.W.Frag) (mg : Str → Option Value) : Prop := FnK K mg "rows_of_sum" 1 2 (SpG (fun a : Int × List Int => okRows a.1 a.2 = true) (fun a => [cI a.1, cL (a.2.map cI)]) fun a => cL ((rowsOf a.1 a.2).map cS))
theorem k_rows_of_sum (Fr : Frees mg) (D : Def K mg "rows_of_sum" s_rows_of_sum) : T_rows_of_sum K mg := by
  refine def_okA ["total", "rooms", "found", "room", "head", "left", "many"] ["total", "rooms"] D fun P w base f cd A outer s H E o sco ⟨total, rooms⟩ hh => ?_
  have hh : okRows total rooms = true := hh
  simp only [okRows, Bool.and_eq_true] at hh
  obtain ⟨hf, hs⟩ := hh
  obtain ⟨hs1, hs2⟩ := smallQ_at hs
  refine .inl (gb_cons (gs_set 2 o (ge_lst (ga_one (ge_tup (ga_cons (ge_tup ga_nil) (ga_one (ge_var 0))))))) (gb_cons (gs_for (env := fun t : List (List Int × Int) => [some (.im (cI total)), some (.im (cL (rooms.map cI))), some (.im (cL (t.map pC))), none, none, none, none]) (ic := fun r : Int => [cI r]) (s0 := [([], total)]) rowStep o
    (gi_list o (ge_var 1)) (gg_name o 3) fun pre room post e => ?_) (gb_ret ?_)))
  · have hck := okF_at (ck := fun fnd room => smallQ fnd && (smallQ (rowStep fnd room) && (decide (-1000 ≤ room) && decide (room ≤ 1000)))) (e ▸ hf)
    generalize pre.foldl rowStep [([], total)] = fnd at hck ⊢
    simp only [Bool.and_eq_true, decide_eq_true_eq] at hck
    obtain ⟨c1, c2, c3, c4⟩ := hck
    obtain ⟨c5, c6⟩ := smallQ_at c1
    obtain ⟨c7, c8⟩ := smallQ_at c2
    refine gb_post (gb_one (gs_setLc2 (its := fnd) (its2 := fun q => List.range (min room q.2 + 1).toNat) (ic2 := fun _ i => [cI (i : Nat)]) (ec := fun q (i : Nat) => pC (q.1 ++ [(i : Int)], q.2 - (i : Int))) 2 sco [("head", 4), ("left", 5), ("many", 6)] [6] o (ic := fun q : List Int × Int => [cS q.1, cI q.2]) (gi_list o (ge_var 2)) (gg_two (cok_blk o) 4 5) (fun q hq => ?_) (gg_name (cok_blk o) 6) (fun q hq i hi => ?_) ?_)) ?_
    · have hq' := c6 q hq
      exact gi_rngN _ (cok_blk o) Fr.range (ge_add (ge_min2 (cok_blk o) Fr.min (ge_var 3) (ge_var 5)) ge_int) rfl
    · have hq' := c6 q hq
      exact ge_eq (ge_tup (ga_cons (ge_tup (l := q.1.map cI ++ [cI (i : Int)]) (ga_star (cok_blk o) (ge_var 4) (ga_one (ge_var 6))) (by rw [List.length_append, List.length_map, List.length_cons, List.length_nil]; omega)) (ga_one (ge_subt (ge_var 5) (ge_var 6))))) (by unfold pC cS; rw [List.map_append] <;> rfl)
    · have e1 : (fnd.flatMap fun q => List.range (min room q.2 + 1).toNat).length = (rowStep fnd room).length := by
        unfold rowStep rowG
        rw [List.length_flatMap, List.length_flatMap]
        simp only [List.length_map]
      omega
    · refine le_same (le_same (le_eq (congrArg (fun l => some (Slot.im (cL l))) ?_) (le_none (le_none (le_none (le_none le_nil))))))
      unfold rowStep rowG
      rw [List.map_flatMap]
      simp only [List.map_map]
      rfl
  · refine ge_eq (ge_lc (its := rowAll total rooms) (pr := fun q => decide (q.2 = 0)) (ec := fun q => cS q.1) sco [("head", 4), ("left", 5)] o (ic := fun q : List Int × Int => [cS q.1, cI q.2]) (gi_list o (ge_var 2)) (gg_two (cok_blk o) 4 5) (fun q _ => gts_one (gt_eqI (ge_var 5) ge_int)) (fun q hq _ => ge_var 4) (by omega)) ?_
    unfold rowsOf
    rw [List.map_map] <;> rfl
/-! margin_count, zero_one_count: over arrays_counted -/
end
end Ws
set_option Elab.async false
set_option linter.all false
set_option maxRecDepth 100000
set_option maxHeartbeats 4000000
namespace Ws
open PySem PySem.Spec L2
theorem bumps_len {w : Int} : ∀ {ks : List (List Int)} {ps : DI}, (bumps ks w ps).length ≤ ps.length + ks.length
  | [], ps => Nat.le_refl _
  | k :: ks, ps => by
    have h1 := bumps_len (w := w) (ks := ks) (ps := bump ps k w)
    have h2 := putI_len ps k (getI ps k + w)
    show (bumps ks w (bump ps k w)).length ≤ _
    have h3 : (bump ps k w).length ≤ ps.length + 1 := h2
    rw [List.length_cons]
    omega
section
variable {I : Type} {X : I → Cx} {K : PySem.W.Frag} {mg : Str → Option Value} {k : Nat} {cs : Cs} {x : Str} {a b e ey : Expr} {pos : Pos}
/-- later[key] = later.get(key, 0) + ways -/
theorem gs_bump (i : Nat) {t : DI} {ns : List Int} {w : Int} {p' po pg po2 : Pos} {apos cpos kpos : Pos} {kk : Nat} {a2 : Expr} (ok : Cok X K mg k) (ha : GE X a cs (cS ns)) (ha2 : GE X a2 cs (cS ns)) (hb : GE X b cs (cI w)) (hz : t.length < 16000000) (hi : cs[i]? = some (some (.md (nP t))) := by rfl) (hN : ∀ j, (X j).N[i]? = some x := by intro _; rfl) (hv : ∀ j, Vis (X j).env.scope x := by intro _; first | exact Or.inl rfl | exact Or.inr (Or.inl rfl) | exact Or.inr (Or.inr rfl))
    (hd : (x == ("__debug__" : Str)) = false := by decide) (hcd : (x == ("__classdict__" : Str)) = false := by decide) (hs : ∀ j, swapsWith (.BinOp (.Call (.Attribute (.Name x po2) "get" apos) [a2, .Constant (.int 0) kk kpos] [] cpos) .Add b pg) (some (.Subscript (.Name x po) a p')) pos.line (X j).env = pure false := by intro _; rfl)
    (m : ∀ j, M2 (X j) (.Name x po2) "get" apos a2 (.Constant (.int 0) kk kpos) cpos := by intro _; exact ⟨rfl, rfl, rfl, rfl⟩) :
    GS X (.Assign [.Subscript (.Name x po) a p'] (.BinOp (.Call (.Attribute (.Name x po2) "get" apos) [a2, .Constant (.int 0) kk kpos] [] cpos) .Add b pg) pos) cs (.nx (cs.set i (some (.md (nP (bump t ns w)))))) := by
  have h1 : GE X (.Call (.Attribute (.Name x po2) "get" apos) [a2, .Constant (.int 0) kk kpos] [] cpos) cs (cI (getI t ns)) := ge_eq (ge_get ok (gr_md i hi hN hv hd hcd) ha2 ge_int m) (get_map t ns)
  have h2 := gs_put (pos := pos) (p' := p') (po := po) i ok ha (ge_add (pos := pg) h1 hb) (by rw [List.length_map]; exact hz) hi hN hv hd hcd hs
  rw [put_map] at h2
  exact h2
end
section
variable {K : PySem.W.Frag} {mg : Str → Option Value}
/-! tables_counted -/
def tabs (am : List Int) (now : DI) : DI := am.foldl (fun now m => step (fun x => partsB x m) now) now
def tables (sh am : List Int) : Int := getI (tabs am.reverse [(sh, 1)]) []
/-- all shapes that come are of U -/
def OkU (U : List (List Int)) (am : List Int) : Prop := U.length ≤ 1000 ∧ ∀ m ∈ am, ∀ x ∈ U, okParts x m = true ∧ ((partsB x m).length ≤ 1000 ∧ ∀ y ∈ partsB x m, y ∈ U)
abbrev T_tables (K : PySem.W.Frag) (mg : Str → Option Value) : Prop := FnK K mg "tables_counted" 3 2 (SpG (fun a : List Int × List Int => ∃ U, a.1 ∈ U ∧ OkU U a.2) (fun a => [cS a.1, cS a.2]) fun a => cI (tables a.1 a.2))
theorem tabs_ok {U : List (List Int)} : ∀ {am : List Int} {now : DI}, OkU U am → (now.map (·.1)).Nodup → (∀ k ∈ now.map (·.1), k ∈ U) → ((tabs am now).map (·.1)).Nodup ∧ ∀ k ∈ (tabs am now).map (·.1), k ∈ U
  | [], now, _, h1, h2 => ⟨h1, h2⟩
  | m :: am, now, ho, h1, h2 => tabs_ok (am := am) ⟨ho.1, fun n hn => ho.2 n (List.mem_cons_of_mem _ hn)⟩ step_nodup (step_mem (Q := fun k => k ∈ U) fun q hq y hy => (ho.2 m List.mem_cons_self q.1 (h2 _ (List.mem_map.mpr ⟨q, hq, rfl⟩))).2.2 y hy)
theorem k_tables (F1 : T_parts_below K mg) (D : Def K mg "tables_counted" s_tables_counted) : T_tables K mg := by
  refine def_okA ["shape", "amounts", "now", "many", "later", "held", "ways", "less"] ["shape", "amounts"] D fun P w base f cd A outer s H E o sco ⟨sh, am⟩ hh => ?_
  obtain ⟨U, hU, ho⟩ : ∃ U, sh ∈ U ∧ OkU U am := hh
  have hor : OkU U am.reverse := ⟨ho.1, fun m hm => ho.2 m (List.mem_reverse.mp hm)⟩
  refine .inl (gb_cons (gs_set 2 o (ge_disp1 o (ge_var 0) ge_int)) (gb_cons (gs_for (env := fun t : DI => [some (.im (cS sh)), some (.im (cS am)), some (.im (cD (nP t))), none, none, none, none, none]) (its := am.reverse) (ic := fun m : Int => [cI m]) (s0 := [(sh, 1)]) (fun now m => step (fun x => partsB x m) now) o
    (gi_eq (gi_tup o (ge_revT o (ge_var 1))) (by rw [List.map_reverse] <;> rfl)) (gg_name o 3) fun pre m post e => ?_) (gb_ret (ge_eq (ge_get o (gr_d (gd_var 2)) (ge_tup ga_nil) ge_int) (get_map _ _)))))
  have hpre : OkU U pre := ⟨ho.1, fun n hn => hor.2 n (by rw [e]; exact List.mem_append_left _ hn)⟩
  obtain ⟨n1, n2⟩ := tabs_ok (U := U) (am := pre) (now := [(sh, 1)]) hpre (by simp) (fun k hk => by
    rw [List.map_cons, List.map_nil, List.mem_singleton] at hk
    rw [hk]; exact hU)
  have hm := hor.2 m (by rw [e]; exact List.mem_append_right _ List.mem_cons_self)
  show GB _ _ _ (.nx [some (.im (cS sh)), some (.im (cS am)), some (.im (cD (nP (step (fun x => partsB x m) (tabs pre [(sh, 1)]))))), none, none, none, none, none])
  show GB _ _ (setC [some (.im (cS sh)), some (.im (cS am)), some (.im (cD (nP (tabs pre [(sh, 1)])))), none, none, none, none, none] _ _) _
  generalize tabs pre [(sh, 1)] = now at n1 n2 ⊢
  refine gb_cons (gs_newmd 4 o) (gb_cons (gs_forItemsM (env := fun t : DI => [some (.im (cS sh)), some (.im (cS am)), some (.im (cD (nP now))), some (.im (cI m)), some (.md (nP t)), none, none, none]) (its := now) (kv := fun q => (q.1, cI q.2)) (s0 := []) (fun t q => bumps (partsB q.1 m) q.2 t) o (gd_var 2) (gg_two o 5 6) fun pre2 q post2 e2 => ?_) (gb_restD 4 (gb_post (gb_one (gs_set 2 o (ge_var 4))) (le_same (le_same (le_same (le_none (le_none (le_none (le_none (le_none le_nil)))))))))))
  have hq : q.1 ∈ U := n2 _ (List.mem_map.mpr ⟨q, by rw [e2]; exact List.mem_append_right _ List.mem_cons_self, rfl⟩)
  obtain ⟨p1, p2, p3⟩ := hm q.1 hq
  have st := step_go (g := fun x => partsB x m) (f := fun _ => 0) (Q := fun k => k ∈ U) (now := pre2) (t := []) List.nodup_nil (fun k hk => by cases hk) (fun q' hq' k hk => (hm q'.1 (n2 _ (List.mem_map.mpr ⟨q', by rw [e2]; exact List.mem_append_left _ hq', rfl⟩))).2.2 k hk)
  have hlen : (pre2.foldl (fun t q => bumps (partsB q.1 m) q.2 t) []).length ≤ 1000 := by
    have := sub_len st.1 st.2.1
    rw [List.length_map] at this
    have := ho.1
    omega
  generalize pre2.foldl (fun t q => bumps (partsB q.1 m) q.2 t) [] = t at hlen ⊢
  refine gb_post (gb_one (gs_for (env := fun t : DI => [some (.im (cS sh)), some (.im (cS am)), some (.im (cD (nP now))), some (.im (cI m)), some (.md (nP t)), some (.im (cS q.1)), some (.im (cI q.2)), none]) (its := partsB q.1 m) (ic := fun y : List Int => [cS y]) (s0 := t) (fun t y => bump t y q.2) o
    (gi_list o (ge_callA (q.1, m) o F1 (ga_cons (ge_var 5) (ga_one (ge_var 3))) p1)) (gg_name o 7) fun pre3 y post3 e3 => ?_)) (le_same (le_same (le_same (le_same (le_same (le_none (le_none (le_none le_nil))))))))
  have hl3 : (bumps pre3 q.2 t).length ≤ 2000 := by
    have h1 := bumps_len (w := q.2) (ks := pre3) (ps := t)
    have h2 := congrArg List.length e3
    rw [List.length_append] at h2
    omega
  show GB _ _ (setC [some (.im (cS sh)), some (.im (cS am)), some (.im (cD (nP now))), some (.im (cI m)), some (.md (nP (bumps pre3 q.2 t))), some (.im (cS q.1)), some (.im (cI q.2)), none] _ _) (.nx [some (.im (cS sh)), some (.im (cS am)), some (.im (cD (nP now))), some (.im (cI m)), some (.md (nP (bump (bumps pre3 q.2 t) y q.2))), some (.im (cS q.1)), some (.im (cI q.2)), none])
  generalize bumps pre3 q.2 t = t3 at hl3 ⊢
  exact gb_post (gb_one (gs_bump 4 o (ge_var 7) (ge_var 7) (ge_var 6) (by omega))) (le_same (le_same (le_same (le_same (le_same (le_same (le_same (le_none le_nil))))))))
end
end Ws
set_option Elab.async false
set_option linter.all false
set_option maxRecDepth 100000
set_option maxHeartbeats 4000000
namespace Ws
open PySem PySem.Spec L2
section
variable {K : PySem.W.Frag} {mg : Str → Option Value}
abbrev T_table_count (K : PySem.W.Frag) (mg : Str → Option Value) : Prop := FnK K mg "table_count" 4 2 (SpG (fun a : List Int × List Int => shpB 40 a.1 = true ∧ (((a.2.length : Int) ≤ 12 ∧ ∀ n ∈ a.2, 0 ≤ n) ∧ (a.2.sum = a.1.sum ∧ ∃ U, a.1 ∈ U ∧ OkU U a.2))) (fun a => [cS a.1, cS a.2]) fun a => cI (tables a.1 a.2))
theorem k_table_count (Fr : Frees mg) (Cn : Consts mg) (F1 : T_check_shape K mg) (F2 : T_check_amounts K mg) (F3 : T_tables K mg) (D : Def K mg "table_count" s_table_count) : T_table_count K mg := by
  refine def_okA ["shape", "amounts"] ["shape", "amounts"] D fun P w base f cd A outer s H E o sco ⟨sh, am⟩ hh => ?_
  obtain ⟨h1, h2, h3, h4⟩ : shpB 40 sh = true ∧ (((am.length : Int) ≤ 12 ∧ ∀ n ∈ am, 0 ≤ n) ∧ (am.sum = sh.sum ∧ ∃ U, sh ∈ U ∧ OkU U am)) := hh
  have l1 := shp_len h1
  exact .inl (gb_cons (gs_expr (ge_call o F1 (ga_cons (ge_var 0) (ga_one (ge_const o Cn.boxes))) ⟨sh, 40, by omega, h1, rfl, rfl⟩)) (gb_cons (gs_expr (ge_callA am o F2 (ga_one (ge_var 1)) h2)) (gb_ret (ge_if (i := true) (gt_is (gt_eqI (ge_sumT o Fr.sum (ge_var 1)) (ge_sumT o Fr.sum (ge_var 0))) (decide_eq_true h3)) (fun _ => ge_callA (sh, am) o F3 (ga_cons (ge_var 0) (ga_one (ge_var 1))) h4) (fun h => nomatch h)))))
/-! arrays_counted -/
def subL (a b : List Int) : List Int := (a.zip b).map fun q => q.1 - q.2
def gA (most t : Int) (left : List Int) : List (List Int) := (rowsOf t (left.map fun r => min most r)).map (subL left)
def arrs (most : Int) (rows : List Int) (now : DI) : DI := rows.foldl (fun now t => step (gA most t) now) now
def arrays (rows cols : List Int) (most : Int) : Int := getI (arrs most rows [(cols, 1)]) (List.replicate cols.length 0)
def OkV (U : List (List Int)) (rows : List Int) (most : Int) : Prop := U.length ≤ 10000 ∧ ∀ t ∈ rows, ∀ x ∈ U, x.length ≤ 100 ∧ (okRows t (x.map fun r => min most r) = true ∧ ∀ y ∈ gA most t x, y ∈ U)
theorem arrs_ok {U : List (List Int)} {most : Int} : ∀ {rows : List Int} {now : DI}, OkV U rows most → (now.map (·.1)).Nodup → (∀ k ∈ now.map (·.1), k ∈ U) → ((arrs most rows now).map (·.1)).Nodup ∧ ∀ k ∈ (arrs most rows now).map (·.1), k ∈ U
  | [], now, _, h1, h2 => ⟨h1, h2⟩
  | t :: rows, now, ho, h1, h2 => arrs_ok (rows := rows) ⟨ho.1, fun n hn => ho.2 n (List.mem_cons_of_mem _ hn)⟩ step_nodup (step_mem (Q := fun k => k ∈ U) fun q hq y hy => (ho.2 t List.mem_cons_self q.1 (h2 _ (List.mem_map.mpr ⟨q, hq, rfl⟩))).2.2 y hy)
abbrev T_arrays (K : PySem.W.Frag) (mg : Str → Option Value) : Prop := FnK K mg "arrays_counted" 2 3 (SpG (fun a : List Int × List Int × Int => (1 ≤ a.2.1.length ∧ a.2.1.length ≤ 1000) ∧ ∃ U, a.2.1 ∈ U ∧ OkV U a.1 a.2.2) (fun a => [cS a.1, cS a.2.1, cI a.2.2]) fun a => cI (arrays a.1 a.2.1 a.2.2))
theorem k_arrays (Fr : Frees mg) (F1 : T_rows_of_sum K mg) (D : Def K mg "arrays_counted" s_arrays_counted) : T_arrays K mg := by
  refine def_okA ["rows", "columns", "most", "now", "total", "later", "left", "ways", "taken", "rest", "room", "many"] ["rows", "columns", "most"] D fun P w base f cd A outer s H E o sco ⟨rows, cols, most⟩ hh => ?_
  obtain ⟨⟨hc1, hc2⟩, U, hU, ho⟩ : (1 ≤ cols.length ∧ cols.length ≤ 1000) ∧ ∃ U, cols ∈ U ∧ OkV U rows most := hh
  refine .inl (gb_cons (gs_set 3 o (ge_disp1 o (ge_var 1) ge_int)) (gb_cons (gs_for (env := fun t : DI => [some (.im (cS rows)), some (.im (cS cols)), some (.im (cI most)), some (.im (cD (nP t))), none, none, none, none, none, none, none, none]) (its := rows) (ic := fun m : Int => [cI m]) (s0 := [(cols, 1)]) (fun now t => step (gA most t) now) o
    (gi_tup o (ge_var 0)) (gg_name o 4) fun pre total post e => ?_) (gb_ret (ge_eq (ge_get o (gr_d (gd_var 3)) (ge_rep (n := cols.length) o (ge_tup (ga_one ge_int)) (ge_lenS o Fr (ge_var 1)) hc1 hc2) ge_int) (get_map _ _)))))
  obtain ⟨n1, n2⟩ := arrs_ok (U := U) (most := most) (rows := pre) (now := [(cols, 1)]) ⟨ho.1, fun n hn => ho.2 n (by rw [e]; exact List.mem_append_left _ hn)⟩ (by simp) (fun k hk => by
    rw [List.map_cons, List.map_nil, List.mem_singleton] at hk
    rw [hk]; exact hU)
  have hm := ho.2 total (by rw [e]; exact List.mem_append_right _ List.mem_cons_self)
  show GB _ _ (setC [some (.im (cS rows)), some (.im (cS cols)), some (.im (cI most)), some (.im (cD (nP (arrs most pre [(cols, 1)])))), none, none, none, none, none, none, none, none] _ _) (.nx [some (.im (cS rows)), some (.im (cS cols)), some (.im (cI most)), some (.im (cD (nP (step (gA most total) (arrs most pre [(cols, 1)]))))), none, none, none, none, none, none, none, none])
  generalize arrs most pre [(cols, 1)] = now at n1 n2 ⊢
  refine gb_cons (gs_newmd 5 o) (gb_cons (gs_forItemsM (env := fun t : DI => [some (.im (cS rows)), some (.im (cS cols)), some (.im (cI most)), some (.im (cD (nP now))), some (.im (cI total)), some (.md (nP t)), none, none, none, none, none, none]) (its := now) (kv := fun q => (q.1, cI q.2)) (s0 := []) (fun t q => bumps (gA most total q.1) q.2 t) o (gd_var 3) (gg_two o 6 7) fun pre2 q post2 e2 => ?_) (gb_restD 5 (gb_post (gb_one (gs_set 3 o (ge_var 5))) (le_same (le_same (le_same (le_same (le_none (le_none (le_none (le_none (le_none (le_none (le_none (le_none le_nil)))))))))))))))
  have hq : q.1 ∈ U := n2 _ (List.mem_map.mpr ⟨q, by rw [e2]; exact List.mem_append_right _ List.mem_cons_self, rfl⟩)
  obtain ⟨p1, p2, p3⟩ := hm q.1 hq
  have st := step_go (g := gA most total) (f := fun _ => 0) (Q := fun k => k ∈ U) (now := pre2) (t := []) List.nodup_nil (fun k hk => by cases hk) (fun q' hq' k hk => (hm q'.1 (n2 _ (List.mem_map.mpr ⟨q', by rw [e2]; exact List.mem_append_left _ hq', rfl⟩))).2.2 k hk)
  have hlen : (pre2.foldl (fun t q => bumps (gA most total q.1) q.2 t) []).length ≤ 10000 := by
    have := sub_len st.1 st.2.1
    rw [List.length_map] at this
    have := ho.1
    omega
  have hrl : (rowsOf total (q.1.map fun r => min most r)).length ≤ 1000 := by
    have h1 := p2
    simp only [okRows, Bool.and_eq_true] at h1
    have h2 := (smallQ_at h1.2).1
    unfold rowsOf
    rw [List.length_map]
    exact Nat.le_trans (List.length_filter_le _ _) h2
  generalize pre2.foldl (fun t q => bumps (gA most total q.1) q.2 t) [] = t at hlen ⊢
  have eb : ∀ ts : List (List Int), ts.foldl (fun t y => bump t (subL q.1 y) q.2) t = bumps (ts.map (subL q.1)) q.2 t := fun ts => by
    unfold bumps
    rw [List.foldl_map]
  refine gb_post (gb_one (gs_for (env := fun t : DI => [some (.im (cS rows)), some (.im (cS cols)), some (.im (cI most)), some (.im (cD (nP now))), some (.im (cI total)), some (.md (nP t)), some (.im (cS q.1)), some (.im (cI q.2)), none, none, none, none]) (its := rowsOf total (q.1.map fun r => min most r)) (ic := fun y : List Int => [cS y]) (s0 := t) (fun t y => bump t (subL q.1 y) q.2) o
    (gi_list o (ge_callA (total, q.1.map fun r => min most r) o F1 (ga_cons (ge_var 4) (ga_one (ge_eq (ge_lc0 (its := q.1) (ec := fun r => cI (min most r)) sco [("room", 10)] o (ic := fun r : Int => [cI r]) (gi_tup o (ge_var 6)) (gg_name (cok_blk o) 10) (fun r _ => ge_min2 (cok_blk o) Fr.min (ge_var 2) (ge_var 10)) (by omega)) (by rw [map_cI])))) p2)) (gg_name o 8) fun pre3 y post3 e3 => ?_)) ?_
  · have hl3 : (pre3.foldl (fun t y => bump t (subL q.1 y) q.2) t).length ≤ 20000 := by
      rw [eb]
      have h1 := bumps_len (w := q.2) (ks := pre3.map (subL q.1)) (ps := t)
      have h2 := congrArg List.length e3
      rw [List.length_append] at h2
      rw [List.length_map] at h1
      omega
    generalize pre3.foldl (fun t y => bump t (subL q.1 y) q.2) t = t3 at hl3 ⊢
    refine gb_cons (gs_set 9 o (ge_tupOf (its := q.1.zip y) (f := fun q => q.1 - q.2) o Fr (ge_lc0 sco [("room", 10), ("many", 11)] o (ic := fun q : Int × Int => [cI q.1, cI q.2]) (gi_zipT o Fr.zip (ge_var 6) (ge_var 8)) (gg_two (cok_blk o) 10 11) (fun z _ => ge_subt (ge_var 10) (ge_var 11)) (by rw [List.length_zip]; omega)))) ?_
    exact gb_post (gb_one (gs_bump 5 o (ge_var 9) (ge_var 9) (ge_var 7) (by omega))) (le_same (le_same (le_same (le_same (le_same (le_same (le_same (le_same (le_none (le_none (le_none (le_none le_nil))))))))))))
  · rw [eb]
    exact le_same (le_same (le_same (le_same (le_same (le_same (le_none (le_none (le_none (le_none (le_none (le_none le_nil)))))))))))
/-! margin_count, zero_one_count -/
def OkM (rows cols : List Int) (most : Int) : Prop := ((rows.length : Int) ≤ 6 ∧ ((∀ n ∈ rows, 0 ≤ n) ∧ rows.sum ≤ 12)) ∧ (((cols.length : Int) ≤ 6 ∧ ((∀ n ∈ cols, 0 ≤ n) ∧ cols.sum ≤ 12)) ∧ (1 ≤ cols.length ∧ ∃ U, cols ∈ U ∧ OkV U rows most))
abbrev T_margin (K : PySem.W.Frag) (mg : Str → Option Value) : Prop := FnK K mg "margin_count" 3 2 (SpG (fun a : List Int × List Int => OkM a.1 a.2 12) (fun a => [cS a.1, cS a.2]) fun a => cI (arrays a.1 a.2 12))
theorem k_margin (Cn : Consts mg) (F1 : T_check_margins K mg) (F2 : T_arrays K mg) (D : Def K mg "margin_count" s_margin_count) : T_margin K mg := by
  refine def_okA ["rows", "columns"] ["rows", "columns"] D fun P w base f cd A outer s H E o sco ⟨rows, cols⟩ hh => ?_
  obtain ⟨h1, h2, h3, h4⟩ : OkM rows cols 12 := hh
  have := h2.1
  exact .inl (gb_cons (gs_expr (ge_callA rows o F1 (ga_one (ge_var 0)) h1)) (gb_cons (gs_expr (ge_callA cols o F1 (ga_one (ge_var 1)) h2)) (gb_ret (ge_callA (rows, cols, 12) o F2 (ga_cons (ge_var 0) (ga_cons (ge_var 1) (ga_one (ge_const o Cn.long)))) ⟨⟨h3, by show cols.length ≤ 1000; omega⟩, h4⟩))))
abbrev T_zero_one (K : PySem.W.Frag) (mg : Str → Option Value) : Prop := FnK K mg "zero_one_count" 3 2 (SpG (fun a : List Int × List Int => OkM a.1 a.2 1) (fun a => [cS a.1, cS a.2]) fun a => cI (arrays a.1 a.2 1))
theorem k_zero_one (F1 : T_check_margins K mg) (F2 : T_arrays K mg) (D : Def K mg "zero_one_count" s_zero_one_count) : T_zero_one K mg := by
  refine def_okA ["rows", "columns"] ["rows", "columns"] D fun P w base f cd A outer s H E o sco ⟨rows, cols⟩ hh => ?_
  obtain ⟨h1, h2, h3, h4⟩ : OkM rows cols 1 := hh
  have := h2.1
  exact .inl (gb_cons (gs_expr (ge_callA rows o F1 (ga_one (ge_var 0)) h1)) (gb_cons (gs_expr (ge_callA cols o F1 (ga_one (ge_var 1)) h2)) (gb_ret (ge_callA (rows, cols, 1) o F2 (ga_cons (ge_var 0) (ga_cons (ge_var 1) (ga_one ge_int))) ⟨⟨h3, by show cols.length ≤ 1000; omega⟩, h4⟩))))
end
end Ws
set_option Elab.async false
set_option linter.all false
set_option maxRecDepth 100000
set_option maxHeartbeats 4000000
namespace Ws
open PySem PySem.Spec L2
/-- the module's fractions and texts -/
structure Tups (K : PySem.W.Frag) (mg : Str → Option Value) : Prop where
  zero : ∃ a u, mg "ZERO" = some u ∧ RelV (.ref a) u ∧ ∀ H, SqT K H a [.int 0, .int 1]
  one : ∃ a u, mg "ONE" = some u ∧ RelV (.ref a) u ∧ ∀ H, SqT K H a [.int 1, .int 1]
  bases : ∃ a u, mg "BASES" = some u ∧ RelV (.ref a) u ∧ ∀ H, SqT K H a [.str "shapes", .str "monomials", .str "rows", .str "columns", .str "powers"]
section
variable {I : Type} {X : I → Cx} {K : PySem.W.Frag} {mg : Str → Option Value} {k : Nat} {cs : Cs} {x : Str} {a b e : Expr} {pos p : Pos} {n d : Int}
theorem ge_gF (ok : Cok X K mg k) (h : ∃ a u, mg x = some u ∧ RelV (.ref a) u ∧ ∀ H, SqT K H a [.int n, .int d]) (hg : ∀ j, Gl (X j) x := by intro _; rfl) (hd : (x == ("__debug__" : Str)) = false := by decide) : GE X (.Name x pos) cs (cF K n d) := by
  obtain ⟨a, u, h1, h2, h3⟩ := h
  exact ge_sub (ge_glob ok h1 h2 hg hd) fun B v e => ⟨a, e, h3 B⟩
theorem ge_mkF (h : GE X e cs (cT [cI n, cI d])) : GE X e cs (cF K n d) := ge_sub h fun B v ⟨q, xs, e, hp, ss⟩ => by
  obtain ⟨v1, v2, rfl, h1, h2⟩ := sats2 ss
  obtain rfl : v1 = V.int n := h1
  obtain rfl : v2 = V.int d := h2
  exact ⟨q, e, SqT.of hp⟩
theorem ge_lenF (ok : Cok X K mg k) (Fr : Frees mg) (ha : GE X e cs (cF K n d)) (hs : ∀ j, starEach [e] (X j).env = (false, eval e (X j).env) :: starEach [] (X j).env := by intro _; rfl) (hg : ∀ j, Gl (X j) "len" := by intro _; rfl) : GE X (.Call (.Name "len" p) [e] [] pos) cs (cI 2) :=
  ge_cB ok (cr_len ok) (rc_pure fun B H vs s hs => by
    obtain ⟨v, rfl, q, rfl, hp⟩ := sats1 hs
    exact ⟨.int 2, rfl, fun Q h => ⟨q, _, rfl, .inr ((same_xt s).sqT hp), h⟩⟩) Fr.len (ga_one ha hs) PySem.boot_len hg (by decide) (by decide) hs (fun _ => rfl)
end
section
variable {K : PySem.W.Frag} {mg : Str → Option Value}
def optV : Option Int → V
  | none => .non
  | some l => .int l
abbrev T_is_between (K : PySem.W.Frag) (mg : Str → Option Value) : Prop := FnK K mg "is_between" 1 3 (SpG (fun a : Int × Option Int => ∀ l, a.2 = some l → l ≤ a.1) (fun a => [cI a.1, cV (optV a.2), cN]) fun a => cB true)
theorem k_is_between (Fr : Frees mg) (D : Def K mg "is_between" s_is_between) : T_is_between K mg := by
  refine def_okA ["value", "least", "most"] ["value", "least", "most"] D fun P w base f cd A outer s H E o sco ⟨v, lo⟩ hh => ?_
  refine .inl (gb_cons (gs_skip (gt_w (gw_orF (gt_not (gt_val (ge_isi o Fr.isinstance ty_I kit_ii (ge_var 0) (ge_ty o Fr.int)))) (gw_or1 (gt_val (ge_isi o Fr.isinstance ty_I kit_ib (ge_var 0) (ge_ty o Fr.bool))))))) (gb_ret ?_))
  refine ge_andT ?_ (ge_one (ge_orT (ge_eq (ge_isN (ge_var 2) ge_non) (by rw [decide_eq_true rfl]))))
  cases lo with
  | none => exact ge_orT (ge_eq (ge_isN (ge_var 1) ge_non) (by rw [decide_eq_true] <;> rfl))
  | some l =>
    have hl : l ≤ v := hh l rfl
    exact ge_orF (ge_eq (ge_isN (ge_var 1) ge_non) (by rw [decide_eq_false] <;> (intro h; cases h))) (ge_one (ge_eq (ge_ge (ge_var 0) (ge_var 1)) (by rw [decide_eq_true hl])))
/-! common, lowest, add, times over 1 -/
abbrev T_common (K : PySem.W.Frag) (mg : Str → Option Value) : Prop := FnK K mg "common" 1 2 (SpG (fun _ : Int => True) (fun a => [cI a, cI 1]) fun a => cI 1)
theorem k_common (Fr : Frees mg) (D : Def K mg "common" s_common) : T_common K mg := by
  refine def_okA ["first", "last"] ["first", "last"] D fun P w base f cd A outer s H E o sco n _ => ?_
  refine .inl (gb_cons (gs_set 0 o (ge_abs o Fr.abs (ge_var 0))) (gb_cons (gs_whileN (env := fun s : Int × Int => [some (.im (cI s.1)), some (.im (cI s.2))]) 1 (fun i => if i = 0 then (if n < 0 then -n else n, 1) else (1, 0)) o (fun i hi => ?_) (fun i hi => ?_)) (gb_ret (ge_var 0))))
  · match i, hi with
    | 0, _ => exact gt_is (gt_gt (i := 1) (j := 0) (ge_var 1) ge_int) rfl
    | 1, _ => exact gt_is (gt_gt (i := 0) (j := 0) (ge_var 1) ge_int) rfl
  · match i, hi with
    | 0, _ =>
      have e : (if n < 0 then -n else n) % 1 = 0 := Int.emod_one _
      refine gb_one ?_
      refine gs_post (gs_par 0 1 o (ga_cons (ge_var 1) (ga_one (ge_mod (i := if n < 0 then -n else n) (j := 1) (ge_intI o Fr.int (ge_var 0)) (ge_var 1) (by decide))))) ?_
      exact le_same (le_eq (by rw [e] <;> rfl) le_nil)
abbrev T_lowest (K : PySem.W.Frag) (mg : Str → Option Value) : Prop := FnK K mg "lowest" 2 2 (SpG (fun _ : Int => True) (fun a => [cI a, cI 1]) fun a => cF K a 1)
theorem k_lowest (F1 : T_common K mg) (D : Def K mg "lowest" s_lowest) : T_lowest K mg := by
  refine def_okA ["top", "bottom", "shared"] ["top", "bottom"] D fun P w base f cd A outer s H E o sco n _ => ?_
  exact .inl (gb_cons (gs_set 2 o (ge_callA n o F1 (ga_cons (ge_var 0) (ga_one (ge_var 1))) trivial)) (gb_ret (ge_mkF (ge_tup (ga_cons (ge_eq (ge_fdiv (ge_var 0) (ge_var 2) ⟨by decide, by decide⟩) (congrArg cI (Int.ediv_one n))) (ga_one (ge_eq (ge_fdiv (ge_var 1) (ge_var 2) ⟨by decide, by decide⟩) rfl)))))))
theorem mul1 {i : Int} : CMul i 1 := .inr ⟨by decide, by decide⟩
abbrev T_add (K : PySem.W.Frag) (mg : Str → Option Value) : Prop := FnK K mg "add" 3 2 (SpG (fun _ : Int × Int => True) (fun a => [cF K a.1 1, cF K a.2 1]) fun a => cF K (a.1 + a.2) 1)
theorem k_add (F1 : T_lowest K mg) (D : Def K mg "add" s_add) : T_add K mg := by
  refine def_okA ["one", "other"] ["one", "other"] D fun P w base f cd A outer s H E o sco ⟨a, b⟩ _ => ?_
  exact .inl (gb_ret (ge_callA (a + b) o F1 (ga_cons (ge_eq (ge_add (ge_mul (i := a) (j := 1) (ge_ixF o (ge_var 0) ge_int (by decide) rfl) (ge_ixF o (ge_var 1) ge_int (by decide) rfl) mul1) (ge_mul (i := b) (j := 1) (ge_ixF o (ge_var 1) ge_int (by decide) rfl) (ge_ixF o (ge_var 0) ge_int (by decide) rfl) mul1)) (by rw [Int.mul_one, Int.mul_one])) (ga_one (ge_eq (ge_mul (i := 1) (j := 1) (ge_ixF o (ge_var 0) ge_int (by decide) rfl) (ge_ixF o (ge_var 1) ge_int (by decide) rfl) mul1) rfl))) trivial))
abbrev T_times (K : PySem.W.Frag) (mg : Str → Option Value) : Prop := FnK K mg "times" 3 2 (SpG (fun a : Int × Int => -(2 ^ 64) < a.2 ∧ a.2 < 2 ^ 64) (fun a => [cF K a.1 1, cF K a.2 1]) fun a => cF K (a.1 * a.2) 1)
theorem k_times (F1 : T_lowest K mg) (D : Def K mg "times" s_times) : T_times K mg := by
  refine def_okA ["one", "other"] ["one", "other"] D fun P w base f cd A outer s H E o sco ⟨a, b⟩ hh => ?_
  exact .inl (gb_ret (ge_callA (a * b) o F1 (ga_cons (ge_mul (i := a) (j := b) (ge_ixF o (ge_var 0) ge_int (by decide) rfl) (ge_ixF o (ge_var 1) ge_int (by decide) rfl) (.inr hh)) (ga_one (ge_eq (ge_mul (i := 1) (j := 1) (ge_ixF o (ge_var 0) ge_int (by decide) rfl) (ge_ixF o (ge_var 1) ge_int (by decide) rfl) mul1) rfl))) trivial))
abbrev T_is_fraction (K : PySem.W.Frag) (mg : Str → Option Value) : Prop := FnK K mg "is_fraction" 2 1 (SpG (fun _ : Int => True) (fun a => [cF K a 1]) fun a => cB true)
theorem k_is_fraction (Fr : Frees mg) (F1 : T_is_between K mg) (F2 : T_common K mg) (D : Def K mg "is_fraction" s_is_fraction) : T_is_fraction K mg := by
  refine def_okA ["value"] ["value"] D fun P w base f cd A outer s H E o sco n _ => ?_
  refine .inl (gb_cons (gs_skip (gt_w (gw_orF (gt_not (gt_val (ge_isi o Fr.isinstance ty_F kit_tt (ge_var 0) (ge_ty o Fr.tuple)))) (gw_or1 (gt_neI (i := 2) (j := 2) (ge_lenF o Fr (ge_var 0)) ge_int)))))
    (gb_cons (gs_skip (gt_w (gw_orF (gt_not (gt_val (ge_callA (n, none) o F1 (ga_cons (ge_ixF o (ge_var 0) ge_int (by decide) rfl) (ga_cons ge_non (ga_one ge_non))) (by intro l h; cases h)))) (gw_or1 (gt_not (gt_val (ge_callA (1, some 1) o F1 (ga_cons (ge_ixF o (ge_var 0) ge_int (by decide) rfl) (ga_cons ge_int (ga_one ge_non))) (by intro l h; cases h; decide))))))))
      (gb_ret (ge_eq (ge_eqI (i := 1) (j := 1) (ge_callA n o F2 (ga_cons (ge_ixF o (ge_var 0) ge_int (by decide) rfl) (ga_one (ge_ixF o (ge_var 0) ge_int (by decide) rfl))) trivial) ge_int) rfl))))
end
end Ws
set_option Elab.async false
set_option linter.all false
set_option maxRecDepth 100000
set_option maxHeartbeats 4000000
namespace Ws
open PySem PySem.Spec L2
abbrev tC_ (K : PySem.W.Frag) (q : List Int × Int) : Cell := pairC (q.1, cF K q.2 1)
theorem fP_pair {K : PySem.W.Frag} {ps : DI} : (fP K ps).map pairC = ps.map (tC_ K) := by rw [List.map_map] <;> rfl
section
variable {I : Type} {X : I → Cx} {K : PySem.W.Frag} {mg : Str → Option Value} {k : Nat} {cs : Cs} {x : Str} {a b e : Expr} {es : List Expr} {pos p : Pos} {l : List Cell}
/-- over the items of a plain dict -/
theorem ge_lcItemsM {α : Type} {its : List α} {kv : α → List Int × Cell} {N : List Str} {sc bsc : Scope} {sl : List Nat} {ifs : List Expr} {elt : Expr} {kk : Nat} {tpos apos cpos : Pos} {pr : α → Bool} {ec : α → Cell} (w : Sco X N sc) (own : List (Str × Nat)) (o : Cok X K mg k) (hd : GD X e cs (its.map kv)) (hg : GG (blkX X bsc) (.Tuple es kk tpos) sl) (ht : ∀ a ∈ its, GTs (blkX X bsc) ifs (setC (wipeC (imC cs) (own.map (·.2))) sl [cS (kv a).1, (kv a).2]) (pr a))
    (he : ∀ a ∈ its, pr a = true → GE (blkX X bsc) elt (setC (wipeC (imC cs) (own.map (·.2))) sl [cS (kv a).1, (kv a).2]) (ec a)) (hz : its.length ≤ 16000000) (hl : sl.length = 2 := by rfl) (ho : ∀ i ∈ sl, i ∈ own.map (·.2) := by decide)
    (hk : blkC N sc bsc own = true := by decide +kernel) (hbase : ∀ j, attributeBase e "items" (X j).env (eval e (X j).env) = eval e (X j).env := by intro _; rfl) (hline : (apos.endLine == cpos.line) = true := by rfl)
    (hs : ∀ j x, foldedSetIterable (.Call (.Attribute e "items" apos) [] [] cpos) (X j).env x = pure x := by intro _ _; rfl) : GE X (.ListComp elt [⟨.Tuple es kk tpos, .Call (.Attribute e "items" apos) [] [] cpos, ifs, 0⟩] bsc pos) cs (cL ((its.filter pr).map ec)) := by
  obtain ⟨td, pd, vd⟩ := hd
  obtain ⟨g, pg, vg⟩ := hg
  have hit : EvI (PD td (its.map kv)) (iItemsT td) cs (its.map fun a => itemCell [cS (kv a).1, (kv a).2]) := by
    have := ev_items (te := td) (cs := cs) (kvs := its.map kv)
    rw [List.map_map] at this
    exact this
  refine ⟨_, fun j => pe_lk (pe_lc (tt := fun σ H Q => ∃ t, (∀ j, PTs (blkX X bsc j) ifs t) ∧ t σ H Q) (te := fun σ H Q => ∃ t, (∀ j, PE (blkX X bsc j) elt t) ∧ t σ H Q) (o.calm j) (o.nd j) (pi_itemsT (pd j) (hbase j) hline) (blk_ok w hk j) (fun s H C cl fp => pg (j, s, H, C, cl, fp)) (fun s H C cl fp => ⟨fun pins s' σ H' Q J q => ?_⟩) (fun s H C cl fp => ⟨fun pins s' σ H' Q J q => ?_⟩) (hs j)),
    ev_lockE vd (ev_lc (ic := fun a => [cS (kv a).1, (kv a).2]) hit vg (fun _ _ => hl.symm) ho (fun a ha => ?_) (fun a ha hp => ?_) hz)⟩
  · obtain ⟨t, pt, q⟩ := q
    exact (pt (j, s, H, C, cl, fp)).run pins s' σ H' Q J q
  · obtain ⟨t, pt, q⟩ := q
    exact (pt (j, s, H, C, cl, fp)).run pins s' σ H' Q J q
  · obtain ⟨t, pt, vt⟩ := ht a ha
    exact fun B0 H0 B H σ Q E W => ⟨t, pt, vt B0 H0 B H σ Q E W⟩
  · obtain ⟨t, pt, vt⟩ := he a ha hp
    exact fun B0 H0 B H σ Q E W => ⟨t, pt, vt B0 H0 B H σ Q E W⟩
/-- a tuple display as an exact object -/
theorem ge_tupD {kk : Nat} (h : GA X es cs l) (hl : l.length ≤ 1000 := by exact Nat.le_of_ble_eq_true rfl) : GE X (.Tuple es kk pos) cs (cU l) := by
  obtain ⟨t, p, v⟩ := h
  refine ⟨tTupF t, fun j => pe_tupF (p j), fun B0 H0 B H σ Q E q => v B0 H0 B H σ _ E fun vs B1 H1 g1 s1 => ⟨?_, fun a ob hd ha => ?_⟩⟩
  · rw [sats_len s1]
    exact Nat.le_of_lt (small1000 hl)
  · have g2 := Step.new (o := .frz ob (.tup vs)) g1.bh ha
    exact q _ _ _ (g1.trans g2) ⟨a, ob, vs, rfl, hd, upd_same, sats_mono (same_xt g2.b) s1⟩
end
section
variable {K : PySem.W.Frag} {mg : Str → Option Value}
abbrev T_is_shape (K : PySem.W.Frag) (mg : Str → Option Value) : Prop := FnK K mg "is_shape" 2 2 G_is_shape
abbrev T_is_term (K : PySem.W.Frag) (mg : Str → Option Value) : Prop := FnK K mg "is_term" 3 1 (SpG (fun a : List Int × Int => shpB 8 a.1 = true ∧ a.2 ≠ 0) (fun a => [tC_ K a]) fun a => cB true)
theorem eqv_zero {n : Int} (h : n ≠ 0) : PyData.eqv (.tuple [.int n, .int 1]) (.tuple [.int 0, .int 1]) = false := by
  have := eqv_ints [n, 1] [0, 1]
  rw [show PyData.eqv (.tuple [.int n, .int 1]) (.tuple [.int 0, .int 1]) = _ from this]
  exact decide_eq_false fun e => h (List.cons.inj e).1
theorem k_is_term (Fr : Frees mg) (Cn : Consts mg) (Tp : Tups K mg) (F1 : T_is_shape K mg) (F2 : T_is_fraction K mg) (D : Def K mg "is_term" s_is_term) : T_is_term K mg := by
  refine def_okA ["value"] ["value"] D fun P w base f cd A outer s H E o sco ⟨sh, n⟩ hh => ?_
  obtain ⟨h1, h2⟩ : shpB 8 sh = true ∧ n ≠ 0 := hh
  have l1 := shp_len h1
  refine .inl (gb_cons (gs_skip (gt_w (gw_orF (gt_not (gt_val (ge_isi o Fr.isinstance ty_T kit_tt (ge_var 0) (ge_ty o Fr.tuple)))) (gw_orF (gt_neI (i := 2) (j := 2) (ge_eq (ge_len (l := [cS sh, cF K n 1]) o Fr.len (ge_var 0)) rfl) ge_int) (gw_or1 (gt_not (gt_val (ge_call o F1 (ga_cons (ge_ixT o (ge_var 0) ge_int (by decide) rfl) (ga_one (ge_const o Cn.degree))) ⟨sh, 8, by omega, h1, rfl, rfl⟩))))))))
    (gb_ret (ge_andT (ge_callA n o F2 (ga_one (ge_ixT (c := cF K n 1) o (ge_var 0) ge_int (by decide) rfl)) trivial) (ge_one (ge_eq (ge_neD (d1 := .tuple [.int n, .int 1]) (d2 := .tuple [.int 0, .int 1]) o dc_F dc_F rfl rfl (ge_ixT (c := cF K n 1) o (ge_var 0) ge_int (by decide) rfl) (ge_gF o Tp.zero)) (by rw [eqv_zero h2] <;> rfl))))))
def okTerms (ps : DI) : Bool := decide (ps.length ≤ 1000) && (ps.all (fun q => shpB 8 q.1 && !decide (q.2 = 0)) && (List.range (ps.length - 1)).all fun i => HT.lexLt (ps.getD i ([], 0)).1 (ps.getD (i + 1) ([], 0)).1)
abbrev T_are_terms (K : PySem.W.Frag) (mg : Str → Option Value) : Prop := FnK K mg "are_terms" 4 1 (SpG (fun a : DI => okTerms a = true) (fun a => [cU (a.map (tC_ K))]) fun a => cB true)
theorem k_are_terms (Fr : Frees mg) (F1 : T_is_term K mg) (D : Def K mg "are_terms" s_are_terms) : T_are_terms K mg := by
  refine def_okA ["value", "term", "place"] ["value"] D fun P w base f cd A outer s H E o sco ps hh => ?_
  have hh : okTerms ps = true := hh
  simp only [okTerms, Bool.and_eq_true, decide_eq_true_eq] at hh
  obtain ⟨h1, h2, h3⟩ := hh
  have at_ : ∀ i, i < ps.length → (ps.map (tC_ K))[((i : Nat) : Int).toNat]? = some (tC_ K (ps.getD i ([], 0))) := fun i hi => by
    rw [Int.toNat_natCast, List.getElem?_map, List.getElem?_eq_getElem hi, List.getD_eq_getElem?_getD, List.getElem?_eq_getElem hi] <;> rfl
  refine .inl (gb_cons (gs_skip (gt_w (gw_orF (gt_not (gt_val (ge_isi o Fr.isinstance ty_U kit_tt (ge_var 0) (ge_ty o Fr.tuple)))) (gw_or1 (gt_is (gt_not (gt_val (ge_allOf (its := ps) (f := fun _ => true) o Fr (ge_lc0 sco [("term", 1)] o (ic := fun q : List Int × Int => [tC_ K q]) (gi_tupU o (ge_var 0)) (gg_name (cok_blk o) 1) (fun q hq => ge_callA q (cok_blk o) F1 (ga_one (ge_var 1)) ?_) (by omega))))) ?_)))))
    (gb_ret (ge_eq (ge_allOf (its := List.range (ps.length - 1)) (f := fun i => HT.lexLt (ps.getD i ([], 0)).1 (ps.getD (i + 1) ([], 0)).1) o Fr (ge_lc0 sco [("place", 2)] o (ic := fun n : Nat => [cI (n : Int)]) (gi_rngN (n := (ps.length : Int) - 1) (ps.length - 1) o Fr.range (ge_subt (ge_eq (ge_lenU o Fr.len (ge_var 0)) (by rw [List.length_map])) ge_int) (by omega)) (gg_name (cok_blk o) 2)
      (fun i hi => ?_) (by rw [List.length_range]; omega))) (by rw [h3]))))
  · have := List.all_eq_true.mp h2 q hq
    simp only [Bool.and_eq_true, Bool.not_eq_true', decide_eq_false_iff_not] at this
    exact this
  · rw [List.all_eq_true.mpr (fun _ _ => rfl)] <;> rfl
  · have hi' := List.mem_range.mp hi
    exact ge_ltT (cok_blk o) (ge_ixT (cok_blk o) (ge_ixU (c := tC_ K (ps.getD i ([], 0))) (cok_blk o) (ge_var 0) (ge_var 2) (Int.natCast_nonneg i) (at_ i (by omega))) ge_int (by decide) rfl) (ge_ixT (cok_blk o) (ge_ixU (c := tC_ K (ps.getD (i + 1) ([], 0))) (cok_blk o) (ge_var 0) (ge_eq (ge_add (ge_var 2) ge_int) (c' := cI ((i + 1 : Nat) : Int)) rfl) (Int.natCast_nonneg _) (at_ (i + 1) (by omega))) ge_int (by decide) rfl)
/-! mixed -/
def mixS (ps : DI) : DI := ps.foldl (fun t q => bump t q.1 q.2) []
def mixI (ps : DI) : DI := (mixS ps).filter fun q => !decide (q.2 = 0)
theorem mixS_nodup : ∀ {ps t : DI}, (t.map (·.1)).Nodup → ((ps.foldl (fun t q => bump t q.1 q.2) t).map (·.1)).Nodup
  | [], _, h => h
  | q :: ps, t, h => mixS_nodup (ps := ps) (bump_nodup h)
theorem mixS_len : ∀ {ps t : DI}, (ps.foldl (fun t q => bump t q.1 q.2) t).length ≤ t.length + ps.length
  | [], _ => Nat.le_refl _
  | q :: ps, t => by
    have h1 := mixS_len (ps := ps) (t := bump t q.1 q.2)
    have h2 : (bump t q.1 q.2).length ≤ t.length + 1 := putI_len t q.1 _
    show (ps.foldl _ (bump t q.1 q.2)).length ≤ _
    rw [List.length_cons]
    omega
theorem mixI_nodup {ps : DI} : ((mixI ps).map (·.1)).Nodup := ((List.filter_sublist).map _).nodup (mixS_nodup (ps := ps) (t := []) List.nodup_nil)
theorem putC_new {t : Kvs} {k : List Int} {c : Cell} (h : k ∉ t.map (·.1)) : putC t k c = t ++ [(k, c)] := by
  unfold putC
  rw [if_neg]
  intro z
  obtain ⟨p, h1, h2⟩ := List.any_eq_true.mp z
  exact h (List.mem_map.mpr ⟨p, h1, of_decide_eq_true h2⟩)
theorem mergeC_nodup : ∀ {m t : Kvs}, ((t ++ m).map (·.1)).Nodup → mergeC t m = t ++ m
  | [], t, _ => by rw [List.append_nil] <;> rfl
  | q :: m, t, h => by
    show mergeC (putC t q.1 q.2) m = _
    have hq : q.1 ∉ t.map (·.1) := by
      rw [List.map_append, List.map_cons] at h
      have := (List.nodup_append.mp h).2.2
      intro z
      exact this _ z _ List.mem_cons_self rfl
    rw [putC_new hq, mergeC_nodup (m := m) (by rw [List.append_assoc]; exact h), List.append_assoc] <;> rfl
theorem merge_fP {ps : DI} (h : (ps.map (·.1)).Nodup) : mergeC [] (fP K ps) = fP K ps := mergeC_nodup (t := []) (by rw [List.nil_append, List.map_map]; exact h)
abbrev T_mixed (K : PySem.W.Frag) (mg : Str → Option Value) : Prop := FnK K mg "mixed" 4 1 (SpG (fun a : DI => a.length ≤ 16000000) (fun a => [cL (a.map (tC_ K))]) fun a => cD (fP K (mixI a)))
theorem k_mixed (Fr : Frees mg) (Tp : Tups K mg) (F1 : T_add K mg) (D : Def K mg "mixed" s_mixed) : T_mixed K mg := by
  refine def_okA ["pairs", "found", "shape", "number"] ["pairs"] D fun P w base f cd A outer s H E o sco ps hh => ?_
  have hh : ps.length ≤ 16000000 := hh
  refine .inl (gb_cons (gs_newmd 1 o) (gb_cons (gs_for (env := fun t : DI => [some (.im (cL (ps.map (tC_ K)))), some (.md (fP K t)), none, none]) (its := ps) (ic := fun q : List Int × Int => [cS q.1, cF K q.2 1]) (s0 := []) (fun t q => bump t q.1 q.2) o (gi_list o (ge_var 0)) (gg_two o 2 3) fun pre q post e => ?_) (gb_restD 1 (gb_ret ?_))))
  · have hl := mixS_len (ps := pre) (t := [])
    have hp : pre.length < ps.length := by rw [e, List.length_append, List.length_cons]; omega
    rw [List.length_nil] at hl
    generalize pre.foldl (fun t q => bump t q.1 q.2) [] = t at hl ⊢
    refine gb_post (gb_one (gs_put (kvs := fP K t) (ns := q.1) (c := cF K (getI t q.1 + q.2) 1) 1 o (ge_var 2) (ge_callA (getI t q.1, q.2) o F1 (ga_cons (ge_eq (ge_get o (gr_md 1) (ge_var 2) (ge_gF o Tp.zero)) (get_map (g := fun n => cF K n 1) t q.1)) (ga_one (ge_var 3))) trivial) (by rw [List.length_map]; omega))) ?_
    refine le_same (le_eq (congrArg (fun l => some (Slot.md l)) ?_) (le_none (le_none le_nil)))
    exact (put_map (g := fun n => cF K n 1) t q.1 _).symm
  · have hn := mixS_nodup (ps := ps) (t := []) List.nodup_nil
    have hl := mixS_len (ps := ps) (t := [])
    rw [List.length_nil] at hl
    refine ge_eq (ge_dictL (kvs := fP K (mixI ps)) o Fr.dict (ge_eq (ge_lcItemsM (its := mixS ps) (kv := fun q => (q.1, cF K q.2 1)) (pr := fun q => !decide (q.2 = 0)) (ec := tC_ K) sco [("shape", 2), ("number", 3)] o (gd_var 1) (gg_two (cok_blk o) 2 3) (fun q hq => ?_) (fun q hq _ => ge_tup (ga_cons (ge_var 2) (ga_one (ge_var 3)))) ?_) ?_)) (congrArg cD (merge_fP mixI_nodup))
    · refine gts_one (gt_is (gt_neD (d1 := .tuple [.int q.2, .int 1]) (d2 := .tuple [.int 0, .int 1]) (cok_blk o) dc_F dc_F rfl rfl (ge_var 3) (ge_gF (cok_blk o) Tp.zero)) ?_)
      by_cases z : q.2 = 0
      · rw [z, decide_eq_true rfl] <;> rfl
      · rw [eqv_zero z, decide_eq_false z]
    · exact Nat.le_trans hl (by omega)
    · rw [fP_pair] <;> rfl
/-! plus -/
def plusI (a b : DI) (c : Int) : DI := mixI (a ++ b.map fun q => (q.1, q.2 * c))
abbrev T_plus (K : PySem.W.Frag) (mg : Str → Option Value) : Prop := FnK K mg "plus" 5 3 (SpG (fun a : DI × DI × Int => a.1.length + a.2.1.length ≤ 10000 ∧ (-(2 ^ 64) < a.2.2 ∧ a.2.2 < 2 ^ 64)) (fun a => [cD (fP K a.1), cD (fP K a.2.1), cF K a.2.2 1]) fun a => cD (fP K (plusI a.1 a.2.1 a.2.2)))
theorem k_plus (Fr : Frees mg) (F1 : T_mixed K mg) (F2 : T_times K mg) (D : Def K mg "plus" s_plus) : T_plus K mg := by
  refine def_okA ["numbers", "others", "factor", "shape", "number"] ["numbers", "others", "factor"] D fun P w base f cd A outer s H E o sco ⟨a, b, c⟩ hh => ?_
  obtain ⟨h1, h2⟩ : a.length + b.length ≤ 10000 ∧ (-(2 ^ 64) < c ∧ c < 2 ^ 64) := hh
  refine .inl (gb_ret (ge_callA (a ++ b.map fun q => (q.1, q.2 * c)) o F1 (ga_one (ge_catM (f := tC_ K) (xs := a) (ys := b.map fun q => (q.1, q.2 * c)) (ge_eq (ge_listItems (kvs := fP K a) o Fr.list (gr_d (gd_var 0))) (by rw [fP_pair]))
    (ge_eq (ge_lcItemsM (its := b) (kv := fun q => (q.1, cF K q.2 1)) (pr := fun _ => true) (ec := fun q => tC_ K (q.1, q.2 * c)) sco [("shape", 3), ("number", 4)] o (gd_var 1) (gg_two (cok_blk o) 3 4) (fun q hq => gts_nil) (fun q hq _ => ge_tup (ga_cons (ge_var 3) (ga_one (ge_callA (q.2, c) (cok_blk o) F2 (ga_cons (ge_var 4) (ga_one (ge_var 2))) h2)))) (by omega)) ?_) ?_)) ?_))
  · rw [filt_all, List.map_map] <;> rfl
  · rw [List.length_map]; omega
  · show (a ++ _).length ≤ _
    rw [List.length_append, List.length_map]
    omega
/-! flipped_dict -/
def flipI (a : DI) : DI := mixI (a.map fun q => (flip1 q.1, q.2))
abbrev T_flipped_dict (K : PySem.W.Frag) (mg : Str → Option Value) : Prop := FnK K mg "flipped_dict" 5 1 (SpG (fun a : DI => a.length ≤ 10000 ∧ ∀ q ∈ a, shpB 40 q.1 = true) (fun a => [cD (fP K a)]) fun a => cD (fP K (flipI a)))
theorem k_flipped_dict (F1 : T_mixed K mg) (F2 : T_flipped_of K mg) (D : Def K mg "flipped_dict" s_flipped_dict) : T_flipped_dict K mg := by
  refine def_okA ["numbers", "shape", "number"] ["numbers"] D fun P w base f cd A outer s H E o sco a hh => ?_
  obtain ⟨h1, h2⟩ : a.length ≤ 10000 ∧ ∀ q ∈ a, shpB 40 q.1 = true := hh
  refine .inl (gb_ret (ge_callA (a.map fun q => (flip1 q.1, q.2)) o F1 (ga_one (ge_eq (ge_lcItemsM (its := a) (kv := fun q => (q.1, cF K q.2 1)) (pr := fun _ => true) (ec := fun q => tC_ K (flip1 q.1, q.2)) sco [("shape", 1), ("number", 2)] o (gd_var 0) (gg_two (cok_blk o) 1 2) (fun q hq => gts_nil) (fun q hq _ => ge_tup (ga_cons (ge_call (cok_blk o) F2 (ga_one (ge_var 1)) ⟨q.1, ?_, shp_top (h2 q hq), rfl, rfl⟩) (ga_one (ge_var 2)))) (by omega)) ?_)) ?_))
  · have := shp_len (h2 q hq); omega
  · rw [filt_all, List.map_map] <;> rfl
  · show (a.map _).length ≤ _
    rw [List.length_map]; omega
/-! with_rows, rows_for -/
def wrI (now : DI) (size : Int) : DI := mixI (now.flatMap fun q => (strips q.1 size).map fun y => (y, q.2))
def okWr (now : DI) (sizes : List Int) : Bool := okF wrI (fun (now : DI) size => now.all (fun q => okStrips q.1 size) && decide ((now.flatMap fun q => (strips q.1 size).map fun y => (y, q.2)).length ≤ 10000)) now sizes
abbrev T_with_rows (K : PySem.W.Frag) (mg : Str → Option Value) : Prop := FnK K mg "with_rows" 5 2 (SpG (fun a : DI × List Int => okWr a.1 a.2 = true) (fun a => [cD (fP K a.1), cS a.2]) fun a => cD (fP K (a.2.foldl wrI a.1)))
theorem k_with_rows (F1 : T_mixed K mg) (F2 : T_strips_on K mg) (D : Def K mg "with_rows" s_with_rows) : T_with_rows K mg := by
  refine def_okA ["numbers", "sizes", "size", "pairs", "shape", "number", "later"] ["numbers", "sizes"] D fun P w base f cd A outer s H E o sco ⟨a, sizes⟩ hh => ?_
  have hh : okWr a sizes = true := hh
  refine .inl (gb_cons (gs_for (env := fun t : DI => [some (.im (cD (fP K t))), some (.im (cS sizes)), none, none, none, none, none]) (its := sizes) (ic := fun m : Int => [cI m]) (s0 := a) wrI o (gi_tup o (ge_var 1)) (gg_name o 2) fun pre size post e => ?_) (gb_ret (ge_var 0)))
  have hck := okF_at (ck := fun (now : DI) size => now.all (fun q => okStrips q.1 size) && decide ((now.flatMap fun q => (strips q.1 size).map fun y => (y, q.2)).length ≤ 10000)) (e ▸ (show okF wrI _ a sizes = true from hh))
  generalize pre.foldl wrI a = now at hck ⊢
  simp only [Bool.and_eq_true, decide_eq_true_eq, List.all_eq_true] at hck
  obtain ⟨c1, c2⟩ := hck
  refine gb_cons (gs_set 3 o (ge_lst ga_nil)) (gb_cons (gs_forItemsM (env := fun t : DI => [some (.im (cD (fP K now))), some (.im (cS sizes)), some (.im (cI size)), some (.im (cL (t.map (tC_ K)))), none, none, none]) (its := now) (kv := fun q => (q.1, cF K q.2 1)) (s0 := []) (fun t q => t ++ (strips q.1 size).map fun y => (y, q.2)) o (gd_var 0) (gg_two o 4 5) fun pre2 q post2 e2 => ?_) ?_)
  · have hq := c1 q (by rw [e2]; exact List.mem_append_right _ List.mem_cons_self)
    have hlen : (pre2.foldl (fun t q => t ++ (strips q.1 size).map fun y => (y, q.2)) []).length + (strips q.1 size).length ≤ 10000 := by
      rw [foldl_app, List.nil_append]
      rw [e2, List.flatMap_append, List.flatMap_cons, List.length_append, List.length_append, List.length_map] at c2
      omega
    generalize pre2.foldl (fun t q => t ++ (strips q.1 size).map fun y => (y, q.2)) [] = t at hlen ⊢
    refine gb_post (gb_one (gs_set 3 o (ge_catM (f := tC_ K) (xs := t) (ys := (strips q.1 size).map fun y => (y, q.2)) (ge_var 3) (ge_eq (ge_lc0 (its := strips q.1 size) (ec := fun y => tC_ K (y, q.2)) sco [("later", 6)] o (ic := fun y : List Int => [cS y]) (gi_list o (ge_callA (q.1, size) o F2 (ga_cons (ge_var 4) (ga_one (ge_var 2))) hq)) (gg_name (cok_blk o) 6) (fun y _ => ge_tup (ga_cons (ge_var 6) (ga_one (ge_var 5)))) (by omega)) ?_) ?_))) (le_same (le_same (le_same (le_same (le_none (le_none (le_none le_nil)))))))
    · rw [List.map_map] <;> rfl
    · rw [List.length_map]; omega
  · rw [foldl_app, List.nil_append]
    exact gb_post (gb_one (gs_set 0 o (ge_callA (now.flatMap fun q => (strips q.1 size).map fun y => (y, q.2)) o F1 (ga_one (ge_var 3)) (by show _ ≤ _; omega)))) (le_same (le_same (le_none (le_none (le_none (le_none (le_none le_nil)))))))
def rowsI (sh : List Int) : DI := sh.foldl wrI [([], 1)]
abbrev T_rows_for (K : PySem.W.Frag) (mg : Str → Option Value) : Prop := FnK K mg "rows_for" 6 1 (SpG (fun a : List Int => okWr [([], 1)] a = true) (fun a => [cS a]) fun a => cD (fP K (rowsI a)))
theorem k_rows_for (Tp : Tups K mg) (F1 : T_with_rows K mg) (D : Def K mg "rows_for" s_rows_for) : T_rows_for K mg := by
  refine def_okA ["shape"] ["shape"] D fun P w base f cd A outer s H E o sco sh hh => ?_
  exact .inl (gb_ret (ge_callA ([([], 1)], sh) o F1 (ga_cons (ge_disp1 o (ge_tup ga_nil) (ge_gF o Tp.one)) (ga_one (ge_var 0))) hh))
end
end Ws
set_option Elab.async false
set_option linter.all false
set_option maxRecDepth 100000
set_option maxHeartbeats 4000000
namespace Ws
open PySem PySem.Spec L2
section
variable {I : Type} {X : I → Cx} {K : PySem.W.Frag} {mg : Str → Option Value} {k m : Nat} {cs : Cs} {x : Str} {a b e : Expr} {es : List Expr} {pos p : Pos} {l : List Cell} {c : Cell}
/-- a def known by its place -/
structure FnA (K : PySem.W.Frag) (mg : Str → Option Value) (f : Addr) (k n : Nat) (G : List Cell → Cell → Prop) : Prop where
  ex : ∃ (fd : FuncData) (ps : List Str), PySem.W.keepIn K (.ref f) = true ∧ Binds K fd ps [] ∧ ps.length = n ∧ ∀ (P : Program) (w : World) (base : Heap), FnOk P w K mg base CX0 k f fd ps (spC n G)
theorem fnA_of {n : Nat} {G : List Cell → Cell → Prop} (F : FnK K mg x k n G) : ∃ f, mg x = some (.ref f) ∧ FnA K mg f k n G := by
  obtain ⟨f, fd, ps, hm, h⟩ := F
  exact ⟨f, hm, ⟨fd, ps, h⟩⟩
theorem ge_callL {n : Nat} {G : List Cell → Cell → Prop} {f : Addr} (i : Nat) (o : Cok X K mg m) (F : FnA K mg f k n G) (ha : GA X (e :: es) cs l) (g : G l c) (hk : k ≤ m := by decide) (hl : l.length = n := by rfl) (hc : cs[i]? = some (some (.im (cR f))) := by rfl) (hN : ∀ j, (X j).N[i]? = some x := by intro _; rfl) (hv : ∀ j, Vis (X j).env.scope x := by intro _; first | exact Or.inl rfl | exact Or.inr (Or.inl rfl) | exact Or.inr (Or.inr rfl))
    (hdb : (x == ("__debug__" : Str)) = false := by decide) (hcd : (x == ("__classdict__" : Str)) = false := by decide) (he : ∀ j, starEach (e :: es) (X j).env = (false, eval e (X j).env) :: starEach es (X j).env := by intro _; rfl)
    (hpl : ∀ j, (backTo pos (starEach es (X j).env)).any (·.1) = false := by intro _; rfl) : GE X (.Call (.Name x p) (e :: es) [] pos) cs c := by
  obtain ⟨fd, ps, hkp, hb, hn, hF⟩ := F.ex
  obtain ⟨t, pt, v⟩ := ha
  refine ⟨tCallL i f (spC n G) [] E0 t, fun j => ?_, fun B0 H0 B H σ Q E q => ?_⟩
  · exact pe_callL (k := k) (fd := fd) (ps := ps) (ds := []) (by rw [o.K j, o.mg j]; exact hF _ _ _) ((o.room j).mono hk) (hN j) (hv j) (by rw [o.K j]; exact hkp) (by rw [o.K j]; exact hb) .nil pass0 (pt j) hdb hcd (he j) (hpl j)
  · obtain ⟨w, h1, h2⟩ := E.im hc
    obtain rfl : w = V.ref f := h2
    refine ⟨h1, v B0 H0 B H σ _ E fun vs B1 H1 g1 s1 => ?_⟩
    show spC n G (vs ++ []) H1 Q E0
    rw [List.append_nil]
    exact ⟨(sats_len s1).trans hl, l, c, B1, g, g1.bh, s1, fun w B2 H2 g2 s2 => q w B2 H2 (g1.trans g2) s2⟩
end
section
variable {K : PySem.W.Frag} {mg : Str → Option Value}
/-! summed, over rows_for -/
def outR (sh : List Int) : DI := plusI [] (rowsI sh) 1
def okOut (sh : List Int) : Bool := okWr [([], 1)] sh && decide ((rowsI sh).length ≤ 5000)
abbrev GR_ (K : PySem.W.Frag) : List Cell → Cell → Prop := SpG (fun a : List Int => okWr [([], 1)] a = true) (fun a => [cS a]) fun a => cD (fP K (rowsI a))
abbrev T_summed (K : PySem.W.Frag) (mg : Str → Option Value) (f : Addr) : Prop := FnK K mg "summed" 7 2 (SpG (fun a : List Int => okOut a = true) (fun a => [cD (fP K [(a, 1)]), cR f]) fun a => cD (fP K (outR a)))
theorem k_summed {f : Addr} (F0 : FnA K mg f 6 1 (GR_ K)) (F1 : T_plus K mg) (D : Def K mg "summed" s_summed) : T_summed K mg f := by
  refine def_okA ["numbers", "act", "found", "shape", "number"] ["numbers", "act"] D fun P w base f1 cd A outer s H E o sco sh hh => ?_
  have hh : okOut sh = true := hh
  simp only [okOut, Bool.and_eq_true, decide_eq_true_eq] at hh
  refine .inl (gb_cons (gs_set 2 o ge_disp0) (gb_cons (gs_forItemsM (env := fun t : DI => [some (.im (cD (fP K [(sh, 1)]))), some (.im (cR f)), some (.im (cD (fP K t))), none, none]) (its := [(sh, (1 : Int))]) (kv := fun q => (q.1, cF K q.2 1)) (s0 := []) (fun t q => plusI t (rowsI q.1) q.2) o (gd_var 0) (gg_two o 3 4) fun pre q post e => ?_) (gb_ret (ge_var 2))))
  have e1 : pre = [] ∧ q = (sh, 1) := by
    cases pre with
    | nil => exact ⟨rfl, (List.cons.inj e).1.symm⟩
    | cons p pre =>
      have := congrArg List.length e
      simp at this
  obtain ⟨rfl, rfl⟩ := e1
  exact gb_post (gb_one (gs_set 2 o (ge_callA (([] : DI), rowsI sh, (1 : Int)) o F1 (ga_cons (ge_var 2) (ga_cons (ge_callL (pos := _) 1 o F0 (ga_one (ge_var 3)) ⟨sh, hh.1, rfl, rfl⟩) (ga_one (ge_var 4)))) ⟨by show 0 + (rowsI sh).length ≤ 10000; have := hh.2; omega, by show -(2 ^ 64) < (1 : Int) ∧ (1 : Int) < 2 ^ 64; decide⟩))) (le_same (le_same (le_same (le_none (le_none le_nil)))))
/-! shapes_from, terms_of -/
def bsS (b : Bool) : Str := if b then "columns" else "rows"
def outI (b : Bool) (sh : List Int) : DI := if b then flipI (outR sh) else outR sh
def okOutB (sh : List Int) : Bool := okOut sh && (decide ((outR sh).length ≤ 10000) && (outR sh).all fun q => shpB 40 q.1)
abbrev T_shapes_from (K : PySem.W.Frag) (mg : Str → Option Value) : Prop := FnK K mg "shapes_from" 8 2 (SpG (fun a : Bool × List Int => okOutB a.2 = true) (fun a => [cZ (bsS a.1), cD (fP K [(a.2, 1)])]) fun a => cD (fP K (outI a.1 a.2)))
theorem k_shapes_from {f : Addr} (hf : mg "rows_for" = some (.ref f)) (F1 : T_summed K mg f) (F2 : T_flipped_dict K mg) (D : Def K mg "shapes_from" s_shapes_from) : T_shapes_from K mg := by
  refine def_okA ["basis", "numbers"] ["basis", "numbers"] D fun P w base f1 cd A outer s H E o sco ⟨b, sh⟩ hh => ?_
  have hh : okOutB sh = true := hh
  simp only [okOutB, Bool.and_eq_true, decide_eq_true_eq, List.all_eq_true] at hh
  obtain ⟨h1, h2, h3⟩ := hh
  have ne : ∀ {z : Str} {z' : Str}, z ≠ z' → decide (V.str z = V.str z') = false := fun h => decide_eq_false fun e => h (V.str.inj e)
  cases b with
  | false =>
    exact .inl (gb_cons (gs_skip (gt_is (gt_eqZ (ge_var 0) ge_str) (ne (z := "rows") (z' := "monomials") (by decide)))) (gb_stop (gs_ifT (gt_is (gt_eqZ (ge_var 0) ge_str) (decide_eq_true rfl)) (gb_ret (ge_callA sh o F1 (ga_cons (ge_var 1) (ga_one (ge_glob o hf rfl))) h1)))))
  | true =>
    exact .inl (gb_cons (gs_skip (gt_is (gt_eqZ (ge_var 0) ge_str) (ne (z := "columns") (z' := "monomials") (by decide)))) (gb_cons (gs_skip (gt_is (gt_eqZ (ge_var 0) ge_str) (ne (z := "columns") (z' := "rows") (by decide)))) (gb_stop (gs_ifT (gt_is (gt_eqZ (ge_var 0) ge_str) (decide_eq_true rfl)) (gb_ret (ge_callA (outR sh) o F2 (ga_one (ge_callA sh o F1 (ga_cons (ge_var 1) (ga_one (ge_glob o hf rfl))) h1)) ⟨h2, h3⟩))))))
abbrev T_terms_of (K : PySem.W.Frag) (mg : Str → Option Value) : Prop := FnK K mg "terms_of" 1 1 (SpG (fun a : DI => (a.map (·.1)).Nodup) (fun a => [cD (fP K a)]) fun a => cU ((fP K (sortK a)).map pairC))
theorem k_terms_of (Fr : Frees mg) (D : Def K mg "terms_of" s_terms_of) : T_terms_of K mg := by
  refine def_okA ["numbers"] ["numbers"] D fun P w base f cd A outer s H E o sco a hh => ?_
  exact .inl (gb_ret (ge_tupU o Fr.tuple (ge_sortK o hh Fr.sorted (ge_listItems o Fr.list (gr_d (gd_var 0))))))
/-! check_basis, check_mixture -/
abbrev T_check_basis (K : PySem.W.Frag) (mg : Str → Option Value) : Prop := FnK K mg "check_basis" 1 1 (SpG (fun _ : Bool => True) (fun a => [cZ (bsS a)]) fun a => cN)
theorem k_check_basis (Fr : Frees mg) (Tp : Tups K mg) (D : Def K mg "check_basis" s_check_basis) : T_check_basis K mg := by
  refine def_okA ["value"] ["value"] D fun P w base f cd A outer s H E o sco b _ => ?_
  obtain ⟨q, u, h1, h2, h3⟩ := Tp.bases
  exact .inr ⟨rfl, _, gb_one (gs_skip (gt_w (gw_orF (gt_not (gt_val (ge_isi o Fr.isinstance ty_Z kit_ss (ge_var 0) (ge_ty o Fr.str)))) (gw_or1 (gt_is (gt_notInT (v := .str (bsS b)) (q := q) o rfl h3 rfl (ge_var 0) (ge_glob o h1 h2)) (by cases b <;> decide))))))⟩
/-- the class as it stands -/
structure Mx (K : PySem.W.Frag) (mg : Str → Option Value) (C : Addr) : Prop where
  gl : mg "Mixture" = some (.ref C)
  cls : Cls K C
  no : NoAttr K C "by_shape"
  ins : C8.InsC K C
  mkr : ∃ f fd, Mk K C f ∧ FunD K "__init__" "Mixture.__init__" (defArgs s_M_init) (defBody s_M_init) (defScope s_M_init) [] [] f fd
  held : ∃ f fd, Meth K C "held" f ∧ FunD K "held" "Mixture.held" (defArgs s_M_held) (defBody s_M_held) (defScope s_M_held) [] [] f fd
  of : ∃ p g fd, SMet K C "of" p g ∧ FunD K "of" "Mixture.of" (defArgs s_M_of) (defBody s_M_of) (defScope s_M_of) [] [] g fd
def cM (C : Addr) (kvs : Kvs) : Cell := ⟨fun B v => ∃ p dx d xs, v = .ref p ∧ B p = some (.ins C dx [("by_shape", .ref d)]) ∧ Rd B d (.dT xs) ∧ SatK B xs kvs, fun x ⟨p, dx, d, xs, e, h, r, s⟩ => ⟨p, dx, d, xs, e, x.ins _ _ _ _ h, x.rd _ _ (fun _ _ e => nomatch e) r, satk_mono x s⟩⟩
abbrev T_check_mixture (K : PySem.W.Frag) (mg : Str → Option Value) (C : Addr) : Prop := FnK K mg "check_mixture" 1 1 (SpG (fun _ : Kvs => True) (fun a => [cM C a]) fun a => cN)
theorem k_check_mixture {C : Addr} (Fr : Frees mg) (M : Mx K mg C) (D : Def K mg "check_mixture" s_check_mixture) : T_check_mixture K mg C := by
  refine def_okA ["value"] ["value"] D fun P w base f cd A outer s H E o sco kvs _ => ?_
  refine .inr ⟨rfl, _, gb_one (gs_skip (gt_not (i := true) (gt_val (ge_cB (l := [cM C kvs, cR C]) o (fun j => C8.call_isC (C := C) (by rw [o.K j]; exact M.ins)) (rc_pure fun B H vs s hs => ?_) Fr.isinstance (ga_cons (ge_var 0) (ga_one (ge_glob o M.gl rfl))) PyProof.Rows.boot_isinstance (by intro _; rfl) (by decide) (by decide) (by intro _; rfl) (by intro _; rfl)))))⟩
  obtain ⟨v, w, rfl, ⟨p, dx, d, xs, rfl, hp, _⟩, rfl⟩ := sats2 hs
  exact ⟨_, rfl, fun Q q => ⟨p, dx, _, rfl, s _ _ hp, q⟩⟩
end
end Ws
set_option Elab.async false
set_option linter.all false
set_option maxRecDepth 100000
set_option maxHeartbeats 4000000
namespace Ws
open PySem PySem.Spec L2
section
variable {K : PySem.W.Frag} {mg : Str → Option Value} {C : Addr}
/-! Mixture.__init__ -/
def spInit (K : PySem.W.Frag) (C : Addr) : Sp := fun vs H Q _ => ∃ (x dx : Addr) (v : V) (ps : DI) (B : Hp), vs = [.ref x, v] ∧ (okTerms ps = true ∧ (ps.map (·.1)).Nodup) ∧ H x = some (.ins C dx []) ∧ Same B H ∧ (cU (ps.map (tC_ K))).sat B v ∧
  ∀ w B' H', Step B H B' H' → (cD (fP K ps)).sat B' w → Q .non (upd H' x (.ins C dx [("by_shape", w)]))
theorem ok_init {f : Addr} {fd : FuncData} (Fr : Frees mg) (M : Mx K mg C) (F1 : T_are_terms K mg) (F : FunD K "__init__" "Mixture.__init__" (defArgs s_M_init) (defBody s_M_init) (defScope s_M_init) [] [] f fd) (P : Program) (w : World) (base : Heap) : FnOk P w K mg base CX0 5 f fd ["self", "terms"] (spInit K C) := by
  have S : FnScope ["self", "terms"] ["self", "terms"] (defScope s_M_init) := ⟨rfl, rfl, rfl, by decide +kernel, rfl, by decide +kernel, by decide +kernel⟩
  refine F.ok S (fun vs H Q E ⟨_, _, _, _, _, h, _⟩ => by rw [h] <;> rfl) fun cdv A outer s H vs Q E hr h => ?_
  obtain ⟨x, dx, v, ps, B, rfl, ⟨ht, hn⟩, hx, sb, hv, q⟩ := h
  have o : Cok (fX P w K mg base ["self", "terms"] "Mixture.__init__" (defScope s_M_init) f cdv A outer s H E) K mg 4 := ⟨fun _ => rfl, fun _ => rfl, fun _ => S.nd, fun _ => rfl, fun _ => hr, fun _ => rfl⟩
  have k1 : GS (fX P w K mg base ["self", "terms"] "Mixture.__init__" (defScope s_M_init) f cdv A outer s H E) ((defBody s_M_init).getD 0 (.Pass ⟨0, 0, 0, 0⟩)) [some (.im (cR x)), some (.im (cU (ps.map (tC_ K))))] (.nx [some (.im (cR x)), some (.im (cU (ps.map (tC_ K))))]) :=
    gs_skip (gt_not (gt_val (ge_callA ps o F1 (ga_one (ge_var 1)) ht)))
  obtain ⟨t1, pt1, vt1⟩ := k1
  have k2 : ∃ te, (∀ j, PE (fX P w K mg base ["self", "terms"] "Mixture.__init__" (defScope s_M_init) f cdv A outer s H E j) (match (defBody s_M_init).getD 1 (.Pass ⟨0, 0, 0, 0⟩) with | .Assign _ e _ => e | _ => .Constant .none 0 ⟨0, 0, 0, 0⟩) te) ∧ EvC te [some (.im (cR x)), some (.im (cU (ps.map (tC_ K))))] (cD (fP K ps)) :=
    ge_eq (ge_dictU (kvs := fP K ps) o Fr.dict (ge_eq (ge_var (c := cU (ps.map (tC_ K))) 1) (by rw [fP_pair]))) (congrArg cD (merge_fP hn))
  obtain ⟨te, pe, ve⟩ := k2
  refine ⟨tSeq t1 (sFld K (tVar 0) te "by_shape"), PSs.nox (pss_cons (pt1 ()) (pss_one (ps_fld (pe_var (i := 0) rfl (Or.inl rfl) (by decide) (by decide)) (pe ()) rfl))), ?_⟩
  have E0 := env_start (N := ["self", "terms"]) (vs := [.ref x, v]) (l := [cR x, cU (ps.map (tC_ K))]) sb (.cons rfl (.cons hv .nil))
  refine vt1 B H B H _ _ E0 fun B1 H1 σ1 E1 => ?_
  refine ve B H B1 H1 σ1 _ E1 fun y B2 H2 g2 s2 => ?_
  obtain ⟨z, h1, h2⟩ := (E1.go g2).im (i := 0) rfl
  obtain rfl : z = V.ref x := h2
  have E2 := E1.go g2
  exact ⟨_, h1, x, C, dx, [], rfl, E2.st.h _ _ hx, M.cls, M.no, by show 0 < 1000; decide, q y B2 H2 E2.st s2⟩
section
variable {I : Type} {X : I → Cx} {k m : Nat} {cs : Cs} {x : Str} {a b e : Expr} {es : List Expr} {pos p : Pos}
/-- Mixture(e) -/
theorem ge_make {ps : DI} (Fr : Frees mg) (M : Mx K mg C) (F1 : T_are_terms K mg) (o : Cok X K mg m) (ha : GE X e cs (cU (ps.map (tC_ K)))) (h1 : okTerms ps = true) (h2 : (ps.map (·.1)).Nodup) (hk : 6 ≤ m := by decide) (hg : ∀ j, Gl (X j) "Mixture" := by intro _; rfl)
    (he : ∀ j, starEach [e] (X j).env = (false, eval e (X j).env) :: starEach [] (X j).env := by intro _; rfl) : GE X (.Call (.Name "Mixture" p) [e] [] pos) cs (cM C (fP K ps)) := by
  obtain ⟨f, fd, mk, F⟩ := M.mkr
  obtain ⟨t, pt, v⟩ := ga_one ha he
  have hb : Binds K fd ["self", "terms"] [] := F.bindsN fun _ _ _ _ _ _ us hl => match us, hl with | [_, _], _ => rfl
  refine ⟨tMake C (spInit K C) [] E0 t, fun j => ?_, fun B0 H0 B H σ Q E q => v B0 H0 B H σ _ E fun vs B1 H1 g1 s1 y dx hy hdx hne => ?_⟩
  · exact pe_make (k := 5) (fd := fd) (ps := ["self", "terms"]) (ds := []) (by rw [o.K j]; exact mk) (by rw [o.K j, o.mg j]; exact ok_init Fr M F1 F _ _ _) ((o.room j).mono hk) (hg j) (by rw [o.mg j]; exact M.gl) (by rw [o.K j]; exact hb) .nil pass0 (pt j) (by decide) (he j) rfl
  · obtain ⟨z, rfl, hz⟩ := sats1 s1
    have bn : ∀ {a : Addr}, H1 a = none → B1 a = none := fun h => same_none g1.bh h
    have sm : Same H1 (upd (upd H1 dx (.own y)) y (.ins C dx [])) := (same_new hdx).trans (same_new (by rw [upd_ne (Ne.symm hne)]; exact hy))
    refine ⟨y, dx, z, ps, B1, rfl, ⟨h1, h2⟩, upd_same, g1.bh.trans sm, hz, fun w B' H' g' hw => ⟨rfl, ?_⟩⟩
    have by_ : B' y = none := g'.nw y _ (bn hy) upd_same fun _ e => nomatch e
    refine q (.ref y) (upd B' y (.ins C dx [("by_shape", w)])) _ (g1.trans ⟨g'.b.trans (same_new by_), fun a u e => ?_, upd_same2 g'.bh, fun a u e f z => ?_⟩) ?_
    · rw [upd_ne (ne_of_none e hy)]
      exact g'.h _ _ (sm _ _ e)
    · rw [upd_ne (ne_of_none f hy)]
      exact g'.nw a u e (sm _ _ f) z
    · obtain ⟨d, xs, rfl, hr, ss⟩ := hw
      have x := same_xt (same_new (o := .ins C dx [("by_shape", .ref d)]) by_)
      exact ⟨y, dx, d, xs, rfl, upd_same, x.rd _ _ (fun _ _ e => nomatch e) hr, satk_mono x ss⟩
/-- e.by_shape -/
theorem gd_fld {kvs : Kvs} (i : Nat) (M : Mx K mg C) (o : Cok X K mg m) {p1 : Pos} (hc : cs[i]? = some (some (.im (cM C kvs))) := by rfl) (hN : ∀ j, (X j).N[i]? = some x := by intro _; rfl) (hv : ∀ j, Vis (X j).env.scope x := by intro _; first | exact Or.inl rfl | exact Or.inr (Or.inl rfl) | exact Or.inr (Or.inr rfl))
    (hd : (x == ("__debug__" : Str)) = false := by decide) (hcd : (x == ("__classdict__" : Str)) = false := by decide) (hb : ∀ j, attributeBase (.Name x p1) "by_shape" (X j).env (eval (.Name x p1) (X j).env) = eval (.Name x p1) (X j).env := by intro _; rfl) : GD X (.Attribute (.Name x p1) "by_shape" pos) cs kvs := by
  refine ⟨tFld K (tVar i) "by_shape", fun j => by have h := pe_fld (pos := pos) (pe_var (pos := p1) (i := i) (hN j) (hv j) hd hcd) (hb j); rw [o.K j] at h; exact h, fun B0 H0 B H σ E => ?_⟩
  obtain ⟨v, h1, q, dx, d, xs, rfl, hq, hr, ss⟩ := E.im hc
  exact ⟨d, xs, hr, ss, fun B' H' Q x s q' => ⟨_, h1, q, C, dx, _, _, rfl, s _ _ (x.ins _ _ _ _ hq), M.cls, M.no, rfl, q'⟩⟩
end
/-! Mixture.held -/
def heldI (a b : DI) : Int := a.foldl (fun s q => s + q.2 * getI b q.1) 0
def okHeld (a b : DI) : Prop := ∀ q ∈ a, -(2 ^ 64) < getI b q.1 ∧ getI b q.1 < 2 ^ 64
abbrev G_held (K : PySem.W.Frag) (C : Addr) : List Cell → Cell → Prop := SpG (fun a : DI × DI => okHeld a.1 a.2) (fun a => [cM C (fP K a.1), cM C (fP K a.2)]) fun a => cF K (heldI a.1 a.2) 1
theorem ok_held {f : Addr} {fd : FuncData} (Tp : Tups K mg) (M : Mx K mg C) (F1 : T_check_mixture K mg C) (F2 : T_add K mg) (F3 : T_times K mg) (F : FunD K "held" "Mixture.held" (defArgs s_M_held) (defBody s_M_held) (defScope s_M_held) [] [] f fd) (P : Program) (w : World) (base : Heap) : FnOk P w K mg base CX0 4 f fd ["self", "other"] (spC 2 (G_held K C)) := by
  refine fn_ok (N := ["self", "other", "found", "shape", "number"]) F ⟨rfl, rfl, rfl, by decide +kernel, rfl, by decide +kernel, by decide +kernel⟩ (fun l c ⟨a, _, h, _⟩ => by rw [h] <;> rfl) (fun P w base f cd A outer s H E o sco l c ⟨⟨a, b⟩, hh, h2, h3⟩ => ?_) P w base
  subst h2 h3
  have hh : okHeld a b := hh
  refine .inl (gb_cons (gs_expr (ge_callA (fP K b) o F1 (ga_one (ge_var 1)) trivial)) (gb_cons (gs_set 2 o (ge_gF o Tp.zero)) (gb_cons (gs_forItemsM (env := fun t : Int => [some (.im (cM C (fP K a))), some (.im (cM C (fP K b))), some (.im (cF K t 1)), none, none]) (its := a) (kv := fun q => (q.1, cF K q.2 1)) (s0 := 0) (fun s q => s + q.2 * getI b q.1) o (gd_fld 0 M o) (gg_two o 3 4) fun pre q post e => ?_) (gb_ret (ge_var 2)))))
  generalize pre.foldl (fun s q => s + q.2 * getI b q.1) 0 = t
  exact gb_post (gb_one (gs_set 2 o (ge_callA (t, q.2 * getI b q.1) o F2 (ga_cons (ge_var 2) (ga_one (ge_callA (q.2, getI b q.1) o F3 (ga_cons (ge_var 4) (ga_one (ge_eq (ge_get o (gr_d (gd_fld 1 M o)) (ge_var 3) (ge_gF o Tp.zero)) (get_map (g := fun n => cF K n 1) b q.1)))) (hh q (by rw [e]; exact List.mem_append_right _ List.mem_cons_self))))) trivial))) (le_same (le_same (le_same (le_none (le_none le_nil)))))
/-! Mixture.of -/
def okOf (b : Bool) (sh : List Int) : Bool := okOutB sh && (okTerms [(sh, 1)] && okTerms (sortK (outI b sh)))
abbrev G_of (K : PySem.W.Frag) (C : Addr) : List Cell → Cell → Prop := SpG (fun a : Bool × List Int => okOf a.1 a.2 = true) (fun a => [cZ (bsS a.1), cU [tC_ K (a.2, 1)]]) fun a => cM C (fP K (sortK (outI a.1 a.2)))
theorem outI_nodup {b : Bool} {sh : List Int} : ((outI b sh).map (·.1)).Nodup := by
  cases b with
  | false => exact mixI_nodup
  | true => exact mixI_nodup
theorem ok_of {f : Addr} {fd : FuncData} (Fr : Frees mg) (M : Mx K mg C) (F1 : T_are_terms K mg) (F2 : T_check_basis K mg) (F3 : T_shapes_from K mg) (F4 : T_terms_of K mg) (F : FunD K "of" "Mixture.of" (defArgs s_M_of) (defBody s_M_of) (defScope s_M_of) [] [] f fd) (P : Program) (w : World) (base : Heap) : FnOk P w K mg base CX0 9 f fd ["basis", "terms"] (spC 2 (G_of K C)) := by
  refine fn_ok (N := ["basis", "terms"]) F ⟨rfl, rfl, rfl, by decide +kernel, rfl, by decide +kernel, by decide +kernel⟩ (fun l c ⟨a, _, h, _⟩ => by rw [h] <;> rfl) (fun P w base f cd A outer s H E o sco l c ⟨⟨b, sh⟩, hh, h2, h3⟩ => ?_) P w base
  subst h2 h3
  have hh : okOf b sh = true := hh
  simp only [okOf, Bool.and_eq_true] at hh
  obtain ⟨h1, h2, h3⟩ := hh
  have hn : ((sortK (outI b sh)).map (·.1)).Nodup := ((List.mergeSort_perm (outI b sh) _).map _).nodup_iff.mpr outI_nodup
  exact .inl (gb_cons (gs_expr (ge_callA b o F2 (ga_one (ge_var 0)) trivial)) (gb_cons (gs_skip (gt_not (gt_val (ge_callA [(sh, 1)] o F1 (ga_one (ge_var 1)) h2)))) (gb_ret (ge_make Fr M F1 o (ge_eq (ge_callA (outI b sh) o F4 (ga_one (ge_callA (b, sh) o F3 (ga_cons (ge_var 0) (ga_one (ge_eq (ge_dictU (kvs := fP K [(sh, 1)]) o Fr.dict (ge_var 1)) (congrArg cD (merge_fP (by simp)))))) h1)) outI_nodup) (congrArg cU fP_pair)) h3 hn))))
end
end Ws
set_option Elab.async false
set_option linter.all false
set_option maxRecDepth 100000
set_option maxHeartbeats 4000000
namespace Ws
open PySem PySem.Spec L2
section
variable {K : PySem.W.Frag} {mg : Str → Option Value} {C : Addr}
/-! _law_fallen -/
def fallen (ns : List Int) : List Int := ((ns.filter fun n => decide (0 < n)).mergeSort fun a b => decide (a ≤ b)).reverse
abbrev T_fallen (K : PySem.W.Frag) (mg : Str → Option Value) : Prop := FnK K mg "_law_fallen" 1 1 (SpG (fun a : List Int => a.length ≤ 1000) (fun a => [cS a]) fun a => cS (fallen a))
theorem k_fallen (Fr : Frees mg) (D : Def K mg "_law_fallen" s_law_fallen) : T_fallen K mg := by
  refine def_okA ["_law_some", "_law_x"] ["_law_some"] D fun P w base f cd A outer s H E o sco ns hh => ?_
  have hh : ns.length ≤ 1000 := hh
  refine .inl (gb_ret (ge_eq (ge_tupL o Fr.tuple (ge_revL o (ge_sortI o Fr.sorted (ge_lc (ec := cI) (pr := fun n : Int => decide (0 < n)) sco [("_law_x", 1)] o (ic := fun n : Int => [cI n]) (gi_tup o (ge_var 0)) (gg_name (cok_blk o) 1) (fun n _ => gts_one (gt_gt (ge_var 1) ge_int)) (fun n _ _ => ge_var 1) (by omega))))) ?_))
  unfold fallen cS
  rw [List.map_reverse]
/-! _law_rows_of -/
def lawG (most many room : Int) (b : List Int) : List (List Int) := (List.range (min (min room most) (many - b.sum) + 1).toNat).map fun (i : Nat) => b ++ [(i : Int)]
def lawStep (most many : Int) (fnd : List (List Int)) (room : Int) : List (List Int) := fnd.flatMap (lawG most many room)
def lawAll (many : Int) (rooms : List Int) (most : Int) : List (List Int) := rooms.foldl (lawStep most many) [[]]
def lawRows (many : Int) (rooms : List Int) (most : Int) : List (List Int) := (lawAll many rooms most).filter fun b => decide (b.sum = many)
def smallL (many : Int) (fnd : List (List Int)) : Bool := decide (fnd.length ≤ 10000) && fnd.all fun b => decide (b.length ≤ 100) && (decide (-1000 ≤ many - b.sum) && decide (many - b.sum ≤ 1000))
theorem smallL_at {many : Int} {fnd : List (List Int)} (h : smallL many fnd = true) : fnd.length ≤ 10000 ∧ ∀ b ∈ fnd, b.length ≤ 100 ∧ -1000 ≤ many - b.sum ∧ many - b.sum ≤ 1000 := by
  simp only [smallL, Bool.and_eq_true, decide_eq_true_eq, List.all_eq_true] at h
  exact ⟨h.1, fun q hq => ⟨(h.2 q hq).1, (h.2 q hq).2.1, (h.2 q hq).2.2⟩⟩
def okLR (many : Int) (rooms : List Int) (most : Int) : Bool := okF (lawStep most many) (fun fnd room => smallL many fnd && (smallL many (lawStep most many fnd room) && (decide (-1000 ≤ room) && decide (room ≤ 1000)))) [[]] rooms && (smallL many (lawAll many rooms most) && (decide (0 ≤ most) && decide (most ≤ 1000)))
abbrev T_lrows (K : PySem.W.Frag) (mg : Str → Option Value) : Prop := FnK K mg "_law_rows_of" 1 3 (SpG (fun a : Int × List Int × Int => okLR a.1 a.2.1 a.2.2 = true) (fun a => [cI a.1, cS a.2.1, cI a.2.2]) fun a => cL ((lawRows a.1 a.2.1 a.2.2).map cS))
theorem k_lrows (Fr : Frees mg) (D : Def K mg "_law_rows_of" s_law_rows_of) : T_lrows K mg := by
  refine def_okA ["_law_many", "_law_rooms", "_law_most", "_law_found", "_law_room", "_law_later", "_law_begun", "_law_x", "_law_each"] ["_law_many", "_law_rooms", "_law_most"] D fun P w base f cd A outer s H E o sco ⟨many, rooms, most⟩ hh => ?_
  have hh : okLR many rooms most = true := hh
  simp only [okLR, Bool.and_eq_true, decide_eq_true_eq] at hh
  obtain ⟨hf, hs, hm0, hm1⟩ := hh
  obtain ⟨hs1, hs2⟩ := smallL_at hs
  refine .inl (gb_cons (gs_set 3 o (ge_lst (ga_one (ge_tup ga_nil)))) (gb_cons (gs_for (env := fun t : List (List Int) => [some (.im (cI many)), some (.im (cS rooms)), some (.im (cI most)), some (.im (cL (t.map cS))), none, none, none, none, none]) (ic := fun r : Int => [cI r]) (s0 := [[]]) (lawStep most many) o
    (gi_tup o (ge_var 1)) (gg_name o 4) fun pre room post e => ?_) (gb_ret ?_)))
  · have hck := okF_at (ck := fun fnd room => smallL many fnd && (smallL many (lawStep most many fnd room) && (decide (-1000 ≤ room) && decide (room ≤ 1000)))) (e ▸ hf)
    generalize pre.foldl (lawStep most many) [[]] = fnd at hck ⊢
    simp only [Bool.and_eq_true, decide_eq_true_eq] at hck
    obtain ⟨c1, c2, c3, c4⟩ := hck
    obtain ⟨c5, c6⟩ := smallL_at c1
    obtain ⟨c7, c8⟩ := smallL_at c2
    refine gb_cons (gs_set 5 o (ge_lst ga_nil)) ?_
    refine gb_cons (gs_for (env := fun t : List (List Int) => [some (.im (cI many)), some (.im (cS rooms)), some (.im (cI most)), some (.im (cL (fnd.map cS))), some (.im (cI room)), some (.im (cL (t.map cS))), none, none, none]) (its := fnd) (ic := fun b : List Int => [cS b]) (s0 := []) (fun t b => t ++ lawG most many room b) o
      (gi_list o (ge_var 3)) (gg_name o 6) fun pre2 b post2 e2 => ?_) ?_
    · have hq := c6 b (by rw [e2]; exact List.mem_append_right _ List.mem_cons_self)
      have hlen : (pre2.foldl (fun t b => t ++ lawG most many room b) []).length + (lawG most many room b).length ≤ 10000 := by
        rw [foldl_app, List.nil_append]
        unfold lawStep at c7
        rw [e2, List.flatMap_append, List.flatMap_cons, List.length_append, List.length_append] at c7
        omega
      generalize pre2.foldl (fun t b => t ++ lawG most many room b) [] = t at hlen ⊢
      refine gb_post (gb_one (gs_set 5 o (ge_catM (f := cS) (xs := t) (ys := lawG most many room b) (ge_var 5) (ge_eq (ge_lc0 (its := List.range (min (min room most) (many - b.sum) + 1).toNat) (ec := fun i : Nat => cS (b ++ [(i : Int)])) sco [("_law_x", 7)] o (ic := fun i : Nat => [cI (i : Int)]) (gi_rngN (n := min (min room most) (many - b.sum) + 1) _ o Fr.range (ge_add (ge_min3 o Fr.min (ge_var 4) (ge_var 2) (ge_subt (ge_var 0) (ge_sumT o Fr.sum (ge_var 6)))) ge_int) rfl ?_ ?_) (gg_name (cok_blk o) 7)
        (fun i hi => ge_catS (cok_blk o) (ge_var 6) (ge_tup (ga_one (ge_var 7))) (by rw [List.length_cons, List.length_nil]; omega)) ?_) ?_) (by omega)))) (le_same (le_same (le_same (le_same (le_same (le_same (le_none (le_none (le_none le_nil)))))))))
      · omega
      · omega
      · rw [List.length_range]; omega
      · unfold lawG; rw [List.map_map] <;> rfl
    · rw [foldl_app, List.nil_append]
      exact gb_post (gb_one (gs_set 3 o (ge_var 5))) (le_same (le_same (le_same (le_same (le_none (le_none (le_none (le_none (le_none le_nil)))))))))
  · exact ge_lc (its := lawAll many rooms most) (pr := fun b => decide (b.sum = many)) (ec := cS) sco [("_law_each", 8)] o (ic := fun b : List Int => [cS b]) (gi_list o (ge_var 3)) (gg_name (cok_blk o) 8) (fun b _ => gts_one (gt_eqI (ge_sumT (cok_blk o) Fr.sum (ge_var 8)) (ge_var 0))) (fun b hq _ => ge_var 8) (by omega)
/-! _law_arrays -/
def LA : List Int → List Int → Int → Int
  | [], rooms, _ => if rooms.sum = 0 then 1 else 0
  | s :: ss, rooms, most => ((lawRows s rooms most).map fun row => LA ss (subL rooms row) most).sum
def okLA : List Int → List Int → Int → Prop
  | [], rooms, _ => rooms.length ≤ 1000
  | s :: ss, rooms, most => rooms.length ≤ 1000 ∧ (okLR s rooms most = true ∧ ∀ row ∈ lawRows s rooms most, okLA ss (subL rooms row) most)
theorem foldl_sum {α : Type} (g : α → Int) : ∀ (l : List α) (t : Int), l.foldl (fun t a => t + g a) t = t + (l.map g).sum
  | [], t => by rw [List.map_nil, List.sum_nil, Int.add_zero] <;> rfl
  | a :: l, t => by rw [List.foldl_cons, foldl_sum g l, List.map_cons, List.sum_cons, Int.add_assoc]
abbrev T_larr (K : PySem.W.Frag) (mg : Str → Option Value) (n : Nat) : Prop := FnK K mg "_law_arrays" (n + 2) 3 (SpG (fun a : List Int × List Int × Int => a.1.length ≤ n ∧ okLA a.1 a.2.1 a.2.2) (fun a => [cS a.1, cS a.2.1, cI a.2.2]) fun a => cI (LA a.1 a.2.1 a.2.2))
theorem eqv_nil {ns : List Int} : PyData.eqv (.tuple (ns.map PyData.int)) (.tuple []) = decide (ns = []) := eqv_ints ns []
theorem shaped_ints (ns : List Int) : SeqAt.shaped (.tuple (ns.map PyData.int)) = true := by
  have h1 : ∀ ns : List Int, PyData.canLayAll0 (ns.map PyData.int) = true := fun ns => by
    induction ns with
    | nil => rfl
    | cons n ns ih => simp [PyData.canLayAll0, PyData.canLay0, ih]
  have h2 : ∀ ns : List Int, PyData.depthAll (ns.map PyData.int) ≤ 2 := fun ns => by
    induction ns with
    | nil => simp [PyData.depthAll]
    | cons n ns ih => simp [PyData.depthAll, PyData.depth]; omega
  have := h2 ns
  simp [SeqAt.shaped, PyData.canLay0, PyData.depth, h1]
  omega
theorem k_larr (Fr : Frees mg) (F1 : T_lrows K mg) (D : Def K mg "_law_arrays" s_law_arrays) : ∀ n : Nat, T_larr K mg n
  | 0 => by
    refine def_okA ["_law_sums_here", "_law_rooms", "_law_most", "_law_found", "_law_row_here", "_law_x", "_law_y"] ["_law_sums_here", "_law_rooms", "_law_most"] D fun P w base f cd A outer s H E o sco ⟨ss, rooms, most⟩ hh => ?_
    obtain ⟨h1, h2⟩ : ss.length ≤ 0 ∧ okLA ss rooms most := hh
    match ss, h1 with
    | [], _ => exact .inl (gb_stop (gs_ifT (gt_is (gt_eqD (d1 := .tuple (([] : List Int).map PyData.int)) (d2 := .tuple []) o (dc_T (dcs_ints [])) (dc_T .nil) rfl rfl (ge_var 0) (ge_tup ga_nil)) (eqv_nil.trans (decide_eq_true rfl))) (gb_ret (ge_eq (ge_intB o Fr.int (ge_eqI (ge_sumT o Fr.sum (ge_var 1)) ge_int)) (congrArg cI (by unfold LA; simp only [decide_eq_true_eq]))))))
  | n + 1 => by
    have F2 := k_larr Fr F1 D n
    refine def_okA ["_law_sums_here", "_law_rooms", "_law_most", "_law_found", "_law_row_here", "_law_x", "_law_y"] ["_law_sums_here", "_law_rooms", "_law_most"] D fun P w base f cd A outer s H E o sco ⟨ss, rooms, most⟩ hh => ?_
    obtain ⟨h1, h2⟩ : ss.length ≤ n + 1 ∧ okLA ss rooms most := hh
    match ss, h1, h2 with
    | [], _, _ => exact .inl (gb_stop (gs_ifT (gt_is (gt_eqD (d1 := .tuple (([] : List Int).map PyData.int)) (d2 := .tuple []) o (dc_T (dcs_ints [])) (dc_T .nil) rfl rfl (ge_var 0) (ge_tup ga_nil)) (eqv_nil.trans (decide_eq_true rfl))) (gb_ret (ge_eq (ge_intB o Fr.int (ge_eqI (ge_sumT o Fr.sum (ge_var 1)) ge_int)) (congrArg cI (by unfold LA; simp only [decide_eq_true_eq]))))))
    | s0 :: ss, h1, h2 =>
      obtain ⟨q1, q2, q3⟩ : rooms.length ≤ 1000 ∧ (okLR s0 rooms most = true ∧ ∀ row ∈ lawRows s0 rooms most, okLA ss (subL rooms row) most) := h2
      have h1 : ss.length ≤ n := Nat.le_of_succ_le_succ h1
      refine .inl (gb_cons (gs_skip (gt_is (gt_eqD (d1 := .tuple ((s0 :: ss).map PyData.int)) (d2 := .tuple []) o (dc_T (dcs_ints (s0 :: ss))) (dc_T .nil) (shaped_ints _) rfl (ge_var 0) (ge_tup ga_nil)) (eqv_nil.trans (decide_eq_false (fun e => nomatch e))))) (gb_cons (gs_set 3 o ge_int) (gb_cons (gs_for (env := fun t : Int => [some (.im (cS (s0 :: ss))), some (.im (cS rooms)), some (.im (cI most)), some (.im (cI t)), none, none, none]) (its := lawRows s0 rooms most) (ic := fun b : List Int => [cS b]) (s0 := 0) (fun t row => t + LA ss (subL rooms row) most) o
        (gi_list o (ge_callA (s0, rooms, most) o F1 (ga_cons (ge_ixS (ns := s0 :: ss) 0 o (ge_var 0) ge_int rfl (Nat.succ_pos _)) (ga_cons (ge_var 1) (ga_one (ge_var 2)))) q2 (by omega))) (gg_name o 4) fun pre row post e => ?_) (gb_ret (ge_eq (ge_var 3) (congrArg cI ?_))))))
      · generalize pre.foldl (fun t row => t + LA ss (subL rooms row) most) 0 = t
        exact gb_post (gb_one (gs_set 3 o (ge_add (ge_var 3) (ge_callA (ss, subL rooms row, most) o F2 (ga_cons (ge_tail (c := cI s0) (l := ss.map cI) o (ge_var 0)) (ga_cons (ge_tupOf (its := rooms.zip row) (f := fun q => q.1 - q.2) o Fr (ge_lc0 sco [("_law_x", 5), ("_law_y", 6)] o (ic := fun q : Int × Int => [cI q.1, cI q.2]) (gi_zipT o Fr.zip (ge_var 1) (ge_var 4)) (gg_two (cok_blk o) 5 6) (fun z _ => ge_subt (ge_var 5) (ge_var 6)) (by rw [List.length_zip]; omega))) (ga_one (ge_var 2)))) ⟨h1, q3 row (by rw [e]; exact List.mem_append_right _ List.mem_cons_self)⟩ (by omega))))) (le_same (le_same (le_same (le_same (le_none (le_none (le_none le_nil)))))))
      · rw [foldl_sum, Int.zero_add] <;> rfl
/-! _law_held -/
section
variable {I : Type} {X : I → Cx} {k m : Nat} {cs : Cs} {x : Str} {a b e : Expr} {es : List Expr} {pos p apos : Pos}
theorem ge_smeth (Fr : Frees mg) (M : Mx K mg C) (F1 : T_are_terms K mg) (F2 : T_check_basis K mg) (F3 : T_shapes_from K mg) (F4 : T_terms_of K mg) (o : Cok X K mg m) {bb : Bool} {sh : List Int} (ha : GA X [a, b] cs [cZ (bsS bb), cU [tC_ K (sh, 1)]]) (h : okOf bb sh = true) (hk : 9 ≤ m := by decide) (hg : ∀ j, Gl (X j) "Mixture" := by intro _; rfl)
    (he : ∀ j, starEach [a, b] (X j).env = (false, eval a (X j).env) :: starEach [b] (X j).env := by intro _; rfl) (hpl : ∀ j, (backTo pos (starEach [b] (X j).env)).any (·.1) = false := by intro _; rfl) {pl : I → Sem Bool}
    (ht : ∀ j, eval (.Call (.Attribute (.Name "Mixture" p) "of" apos) [a, b] [] pos) (X j).env = (do
      let ov ← eval (.Name "Mixture" p) (X j).env
      standAt apos.atName
      let (f, first) ← holding [ov] (getMethod ov "of" (pl j))
      callWith pos f first (backTo pos (starEach [a, b] (X j).env)) (backToKw pos (keywordEach [] (X j).env))) := by intro _; rfl) : GE X (.Call (.Attribute (.Name "Mixture" p) "of" apos) [a, b] [] pos) cs (cM C (fP K (sortK (outI bb sh)))) := by
  obtain ⟨q, g, fd, sm, F⟩ := M.of
  obtain ⟨t, pt, v⟩ := ha
  have hb : Binds K fd ["basis", "terms"] [] := F.bindsN fun _ _ _ _ _ _ us hl => match us, hl with | [_, _], _ => rfl
  refine ⟨tSMeth C (spC 2 (G_of K C)) E0 (tC (.ref C)) t, fun j => ?_, fun B0 H0 B H σ Q E q => ⟨rfl, v B0 H0 B H σ _ E fun vs B1 H1 g1 s1 => ?_⟩⟩
  · exact pe_smeth (pe_glob (hg j) (by rw [o.mg j]; exact M.gl) rfl) (by rw [o.K j]; exact sm) (by rw [o.K j, o.mg j]; exact ok_of Fr M F1 F2 F3 F4 F _ _ _) (by rw [o.K j]; exact hb) ((o.room j).mono hk) pass0 (pt j) (he j) (hpl j) (ht j)
  · exact ⟨sats_len s1, _, _, B1, ⟨(bb, sh), h, rfl, rfl⟩, g1.bh, s1, fun w B2 H2 g2 s2 => q w B2 H2 (g1.trans g2) s2⟩
theorem ge_heldM (Tp : Tups K mg) (M : Mx K mg C) (F1 : T_check_mixture K mg C) (F2 : T_add K mg) (F3 : T_times K mg) (o : Cok X K mg m) {u v : DI} (ha : GE X a cs (cM C (fP K u))) (hb : GE X b cs (cM C (fP K v))) (h : okHeld u v) (hk : 4 ≤ m := by decide)
    (he : ∀ j, starEach [b] (X j).env = (false, eval b (X j).env) :: starEach [] (X j).env := by intro _; rfl) (hpl : ∀ j, (backTo pos (starEach [] (X j).env)).any (·.1) = false := by intro _; rfl) {pl : I → Sem Bool}
    (ht : ∀ j, eval (.Call (.Attribute a "held" apos) [b] [] pos) (X j).env = (do
      let ov ← eval a (X j).env
      standAt apos.atName
      let (f, first) ← holding [ov] (getMethod ov "held" (pl j))
      callWith pos f first (backTo pos (starEach [b] (X j).env)) (backToKw pos (keywordEach [] (X j).env))) := by intro _; rfl) : GE X (.Call (.Attribute a "held" apos) [b] [] pos) cs (cF K (heldI u v) 1) := by
  obtain ⟨f, fd, mt, F⟩ := M.held
  obtain ⟨ta, pa, va⟩ := ha
  obtain ⟨t, pt, vb⟩ := ga_one hb he
  have hb : Binds K fd ["self", "other"] [] := F.bindsN fun _ _ _ _ _ _ us hl => match us, hl with | [_, _], _ => rfl
  refine ⟨tMeth C "held" (spC 2 (G_held K C)) [] E0 ta t, fun j => ?_, fun B0 H0 B H σ Q E q => va B0 H0 B H σ _ E fun y B1 H1 g1 s1 => ?_⟩
  · exact pe_meth (pa j) (by rw [o.K j]; exact M.cls) (by rw [o.K j]; exact mt) (by rw [o.K j, o.mg j]; exact ok_held Tp M F1 F2 F3 F _ _ _) ((o.room j).mono hk) (by rw [o.K j]; exact hb) .nil pass0 (pt j) (he j) (hpl j) (ht j)
  · have s1' := s1
    obtain ⟨q1, dx, d, xs, rfl, hq, _⟩ := s1
    refine ⟨q1, dx, _, rfl, g1.bh _ _ hq, rfl, vb B0 H0 B1 H1 σ _ (E.go g1) fun vs B2 H2 g2 s2 => ?_⟩
    obtain ⟨z, rfl, hz⟩ := sats1 s2
    exact ⟨rfl, [cM C (fP K u), cM C (fP K v)], _, B2, ⟨(u, v), h, rfl, rfl⟩, g2.bh, .cons (Cell.mono _ (same_xt g2.b) s1') (.cons hz .nil), fun w B3 H3 g3 s3 => q w B3 H3 ((g1.trans g2).trans g3) s3⟩
end
def okLH (b : Bool) (ps qs : List Int) : Prop := (ps.length ≤ 1000 ∧ qs.length ≤ 1000) ∧ (okOf false (fallen ps) = true ∧ (okOf b (fallen qs) = true ∧ okHeld (sortK (outI false (fallen ps))) (sortK (outI b (fallen qs)))))
def lawHeld (b : Bool) (ps qs : List Int) : Int := heldI (sortK (outI false (fallen ps))) (sortK (outI b (fallen qs)))
abbrev T_lheld (K : PySem.W.Frag) (mg : Str → Option Value) : Prop := FnK K mg "_law_held" 10 3 (SpG (fun a : Bool × List Int × List Int => okLH a.1 a.2.1 a.2.2) (fun a => [cS a.2.1, cS a.2.2, cZ (bsS a.1)]) fun a => cF K (lawHeld a.1 a.2.1 a.2.2) 1)
theorem k_lheld (Fr : Frees mg) (Tp : Tups K mg) (M : Mx K mg C) (F1 : T_are_terms K mg) (F2 : T_check_basis K mg) (F3 : T_shapes_from K mg) (F4 : T_terms_of K mg) (F5 : T_check_mixture K mg C) (F6 : T_add K mg) (F7 : T_times K mg) (F8 : T_fallen K mg) (D : Def K mg "_law_held" s_law_held) : T_lheld K mg := by
  refine def_okA ["_law_parts", "_law_others", "_law_basis_here", "_law_one"] ["_law_parts", "_law_others", "_law_basis_here"] D fun P w base f cd A outer s H E o sco ⟨b, ps, qs⟩ hh => ?_
  obtain ⟨⟨h1, h2⟩, h3, h4, h5⟩ : okLH b ps qs := hh
  exact .inl (gb_cons (gs_set 3 o (ge_smeth (bb := false) (sh := fallen ps) Fr M F1 F2 F3 F4 o (ga_cons ge_str (ga_one (ge_tupD (ga_one (ge_tup (ga_cons (ge_callA ps o F8 (ga_one (ge_var 0)) h1) (ga_one (ge_mkF (ge_tup (ga_cons ge_int (ga_one ge_int))))))))))) h3))
    (gb_ret (ge_heldM Tp M F5 F6 F7 o (ge_var 3) (ge_smeth (bb := b) (sh := fallen qs) Fr M F1 F2 F3 F4 o (ga_cons (ge_var 2) (ga_one (ge_tupD (ga_one (ge_tup (ga_cons (ge_callA qs o F8 (ga_one (ge_var 1)) h2) (ga_one (ge_mkF (ge_tup (ga_cons ge_int (ga_one ge_int))))))))))) h4) h5)))
end
end Ws
set_option Elab.async false
set_option linter.all false
set_option maxRecDepth 100000
set_option maxHeartbeats 4000000
namespace Ws
open PySem PySem.Spec L2
section
variable {K : PySem.W.Frag} {mg : Str → Option Value}
def drawF (a b m : Int) : Int × Int × Int := if 0 < a then (a % m, a / m, b) else (((b * 40692 + 40503) % 2147483647 / 1024) % m, a, (b * 40692 + 40503) % 2147483647)
def spDraw : Sp := fun vs H Q _ => ∃ (p : Addr) (a b m : Int), vs = [.ref p, .int m] ∧ (0 < m ∧ m < 1000) ∧ H p = some (.lst [.int a, .int b]) ∧ ∀ H', (∀ q u, q ≠ p → H q = some u → H' q = some u) → H' p = some (.lst [.int (drawF a b m).2.1, .int (drawF a b m).2.2]) → Q (.int (drawF a b m).1) H'
theorem ok_draw {f : Addr} {fd : FuncData} (Fr : Frees mg) (F : FunD K "_law_draw" "_law_draw" (defArgs s_law_draw) (defBody s_law_draw) (defScope s_law_draw) [] [] f fd) (P : Program) (w : World) (base : Heap) : FnOk P w K mg base CX0 1 f fd ["_law_purse_here", "_law_many"] spDraw := by
  have S : FnScope ["_law_purse_here", "_law_many", "_law_digit"] ["_law_purse_here", "_law_many"] (defScope s_law_draw) := ⟨rfl, rfl, rfl, by decide +kernel, rfl, by decide +kernel, by decide +kernel⟩
  refine F.ok S (fun vs H Q E ⟨_, _, _, _, h, _⟩ => by rw [h] <;> rfl) fun cdv A outer s H vs Q E hr h => ?_
  refine ⟨_, PSs.nox (pss_cons (ps_if (pt_cmpR op_gt (pe_ix ix_list (pe_var (i := 0) rfl (Or.inl rfl) (by decide) (by decide)) pe_int (by intro _ _; rfl)) pe_int (nomark _))
      (pss_cons (ps_asg (pe_callB call_divmod rfl Fr.divmod (by decide +kernel) (pa_cons (pe_ix ix_list (pe_var (i := 0) rfl (Or.inl rfl) (by decide) (by decide)) pe_int (by intro _ _; rfl)) (pa_cons (pe_var (i := 1) rfl (Or.inl rfl) (by decide) (by decide)) pa_nil)))
        (pg_tup rfl (pgs_cons (pg_sub (pe_var (i := 0) rfl (Or.inl rfl) (by decide) (by decide)) pe_int set_list) (pgs_cons (pg_name (i := 2) S.nd rfl (Or.inl rfl)) pgs_nil))))
        (pss_one (ps_ret (pe_var (i := 2) rfl (Or.inl rfl) (by decide) (by decide))))) pss_nil)
      (pss_cons (ps_asg (pe_op op_mod (pe_callTy call_int1 rfl Fr.int PyProof.Rows.boot_int (pa_cons (pe_op op_add (pe_op op_mul (pe_ix ix_list (pe_var (i := 0) rfl (Or.inl rfl) (by decide) (by decide)) pe_int (by intro _ _; rfl)) pe_int) pe_int) pa_nil)) pe_int) (pg_sub (pe_var (i := 0) rfl (Or.inl rfl) (by decide) (by decide)) pe_int set_list))
        (pss_one (ps_ret (pe_op op_mod (pe_callTy call_int1 rfl Fr.int PyProof.Rows.boot_int (pa_cons (pe_op op_fdiv (pe_ix ix_list (pe_var (i := 0) rfl (Or.inl rfl) (by decide) (by decide)) pe_int (by intro _ _; rfl)) pe_int) pa_nil)) (pe_var (i := 1) rfl (Or.inl rfl) (by decide) (by decide))))))), ?_⟩
  obtain ⟨p, a, b, m, rfl, ⟨h1, h2⟩, hp, q⟩ := h
  refine ⟨_, rfl, p, _, 0, _, rfl, rfl, SqL.of hp, rfl, a, 0, rfl, rfl, _, rfl, ?_⟩
  by_cases z : 0 < a
  · rw [show decide (a > 0) = true from decide_eq_true z]
    refine iteT ?_
    refine ⟨_, rfl, p, _, 0, _, rfl, rfl, SqL.of hp, rfl, _, rfl, a, m, rfl, ⟨h1, by omega⟩, fun d hd => ?_⟩
    have ne : p ≠ d := ne_of_none hp hd
    refine ⟨d, _, rfl, SqT.of upd_same, rfl, _, _, rfl, _, rfl, p, [.int a, .int b], 0, 0, rfl, rfl, by rw [upd_ne ne]; exact hp, rfl, _, _, rfl, rfl, ?_⟩
    refine ⟨_, rfl, ?_⟩
    have e : drawF a b m = (a % m, a / m, b) := if_pos z
    rw [e] at q
    refine q _ (fun r u hr hu => ?_) upd_same
    rw [upd_ne hr, upd_ne (ne_of_none hu hd)]
    exact hu
  · rw [show decide (a > 0) = false from decide_eq_false z]
    refine iteF ?_
    refine ⟨_, rfl, p, _, 1, _, rfl, rfl, SqL.of hp, rfl, b, 40692, rfl, rfl, .inr ⟨by decide, by decide⟩, b * 40692, 40503, rfl, rfl, .inl ⟨b * 40692 + 40503, rfl, b * 40692 + 40503, 2147483647, rfl, rfl, (show (0 : Int) < 2147483647 by decide), ?_⟩⟩
    refine ⟨_, rfl, p, [.int a, .int b], 1, 1, rfl, rfl, hp, rfl, ?_⟩
    refine ⟨_, rfl, p, _, 1, _, rfl, rfl, SqL.of upd_same, rfl, (b * 40692 + 40503) % 2147483647, 1024, rfl, rfl, ⟨by decide, by decide⟩, .inl ⟨(b * 40692 + 40503) % 2147483647 / 1024, rfl, _, rfl, _, m, rfl, rfl, h1, ?_⟩⟩
    have e : drawF a b m = (((b * 40692 + 40503) % 2147483647 / 1024) % m, a, (b * 40692 + 40503) % 2147483647) := if_neg z
    rw [e] at q
    refine q _ (fun r u hr hu => ?_) upd_same
    rw [upd_ne hr]
    exact hu
/-- a def with a promise of its own -/
def FnS (K : PySem.W.Frag) (mg : Str → Option Value) (x : Str) (k : Nat) (ps : List Str) (sp : Sp) : Prop := ∃ (f : Addr) (fd : FuncData), mg x = some (.ref f) ∧ PySem.W.keepIn K (.ref f) = true ∧ Binds K fd ps [] ∧ ∀ (P : Program) (w : World) (base : Heap), FnOk P w K mg base CX0 k f fd ps sp
theorem k_draw (Fr : Frees mg) (D : Def K mg "_law_draw" s_law_draw) : FnS K mg "_law_draw" 1 ["_law_purse_here", "_law_many"] spDraw := by
  obtain ⟨f, fd, hm, F⟩ := D.ex
  exact ⟨f, fd, hm, F.kp, F.bindsN fun _ _ _ _ _ _ us hl => match us, hl with | [_, _], _ => rfl, ok_draw Fr F⟩
end
/-! the slots' own things may change -/
def EvCm (t : TE) (cs cs' : Cs) (c : Cell) : Prop := ∀ (B0 H0 B H : Hp) (σ : St) (Q : VK), Env B0 H0 B H σ cs → (∀ v B' H', Same B B' → Env B0 H0 B' H' σ cs' → c.sat B' v → Q v H') → t σ H Q
theorem Env.mutX {B0 H0 B H H' : Hp} {σ : St} {cs : Cs} {i : Nat} {s s' : Slot} {q : Addr} (E : Env B0 H0 B H σ cs) (hi : cs[i]? = some (some s)) (hv : σ[i]? = some (some (.ref q))) (m : s.isMut = true) (m' : s'.isMut = true) (h0 : H0 q = none) (hb : B q = none) (hx : ∀ r u, r ≠ q → H r = some u → H' r = some u) (hs : s'.ok H0 B H' (.ref q)) : Env B0 H0 B H' σ (cs.set i (some s')) := by
  have gs : Step B0 H0 B H' := ⟨E.st.b, fun a w e => hx _ _ (ne_of_none e h0) (E.st.h _ _ e), fun a w e => hx _ _ (ne_of_none e hb) (E.bh _ _ e), E.st.nw⟩
  have hi' := (List.getElem?_eq_some_iff.mp hi).1
  have old : ∀ {j : Nat} {t : Slot}, (cs.set i (some s'))[j]? = some (some t) → t.isMut = true → ∃ t', cs[j]? = some (some t') ∧ t'.isMut = true := fun {j t} hj mt => by
    by_cases z : i = j
    · subst z
      exact ⟨s, hi, m⟩
    · rw [List.getElem?_set_ne z] at hj
      exact ⟨t, hj, mt⟩
  refine ⟨gs, by rw [List.length_set]; exact E.len, fun j t hj => ?_, fun j n t r w hj hn mt mr vj vn => ?_⟩
  · by_cases z : i = j
    · subst z
      rw [List.getElem?_set_self hi'] at hj
      cases hj
      exact ⟨.ref q, hv, hs⟩
    · rw [List.getElem?_set_ne z] at hj
      obtain ⟨v, h1, h2⟩ := E.sl j t hj
      refine ⟨v, h1, ?_⟩
      cases t with
      | im c => exact h2
      | ml l =>
        obtain ⟨p, xs, rfl, e0, eb, hh, ss⟩ := h2
        exact ⟨p, xs, rfl, e0, eb, hx _ _ (fun e => by subst e; exact z (E.ap i j s _ p hi hj m rfl hv h1)) hh, ss⟩
      | md l =>
        obtain ⟨p, xs, rfl, e0, eb, hh, ss⟩ := h2
        exact ⟨p, xs, rfl, e0, eb, hx _ _ (fun e => by subst e; exact z (E.ap i j s _ p hi hj m rfl hv h1)) hh, ss⟩
      | pm p l =>
        obtain ⟨rfl, xs, e0, eb, hh, ss⟩ := h2
        exact ⟨rfl, xs, e0, eb, hx _ _ (fun e => by subst e; exact z (E.ap i j s _ p hi hj m rfl hv h1)) hh, ss⟩
  · obtain ⟨t', a1, a2⟩ := old hj mt
    obtain ⟨r', b1, b2⟩ := old hn mr
    exact E.ap j n t' r' w a1 b1 a2 b2 vj vn
abbrev purse (r : Addr) (a b : Int) : Slot := .pm r [cI a, cI b]
section
variable {I : Type} {X : I → Cx} {K : PySem.W.Frag} {mg : Str → Option Value} {k m : Nat} {cs cs' cs2 : Cs} {x y z : Str} {a b e e1 e2 : Expr} {es : List Expr} {pos p p1 p2 p3 apos : Pos} {c c1 c2 : Cell} {l : List Cell}
def GEm (X : I → Cx) (e : Expr) (cs cs' : Cs) (c : Cell) : Prop := ∃ t, (∀ i, PE (X i) e t) ∧ EvCm t cs cs' c
theorem gem_of (h : GE X e cs c) : GEm X e cs cs c := by
  obtain ⟨t, pt, v⟩ := h
  exact ⟨t, pt, fun B0 H0 B H σ Q E q => v B0 H0 B H σ Q E fun w B' H' g s => q w B' H' g.b (E.go g) s⟩
theorem gem_add {i j : Int} (ha : GE X a cs (cI i)) (hb : GEm X b cs cs' (cI j)) : GEm X (.BinOp a .Add b pos) cs cs' (cI (i + j)) := by
  obtain ⟨ta, pa, va⟩ := ha
  obtain ⟨tb, pb, vb⟩ := hb
  exact ⟨_, fun n => pe_op op_add (pa n) (pb n), fun B0 H0 B H σ Q E q => va B0 H0 B H σ _ E fun x B1 H1 g1 s1 => vb B0 H0 B1 H1 σ _ (E.go g1) fun y B2 H2 sm E2 s2 => ⟨i, j, s1, s2, q _ B2 H2 (g1.b.trans sm) E2 rfl⟩⟩
theorem ints2 {B : Hp} {xs : List V} {a b : Int} (h : Sats B xs [cI a, cI b]) : xs = [.int a, .int b] := sats_ints (ns := [a, b]) h
/-- draw(purse, e) -/
theorem gem_draw {r : Addr} {u v n : Int} (i : Nat) (o : Cok X K mg m) (F : FnS K mg "_law_draw" 1 ["_law_purse_here", "_law_many"] spDraw) (hb : GE X b cs (cI n)) (h1 : 0 < n) (h2 : n < 1000) (hk : 1 ≤ m := by decide) (hi : cs[i]? = some (some (purse r u v)) := by rfl) (hN : ∀ j, (X j).N[i]? = some x := by intro _; rfl) (hv : ∀ j, Vis (X j).env.scope x := by intro _; first | exact Or.inl rfl | exact Or.inr (Or.inl rfl) | exact Or.inr (Or.inr rfl))
    (hd : (x == ("__debug__" : Str)) = false := by decide) (hcd : (x == ("__classdict__" : Str)) = false := by decide) (hg : ∀ j, Gl (X j) "_law_draw" := by intro _; rfl) (he : ∀ j, starEach [.Name x p1, b] (X j).env = (false, eval (.Name x p1) (X j).env) :: starEach [b] (X j).env := by intro _; rfl)
    (he2 : ∀ j, starEach [b] (X j).env = (false, eval b (X j).env) :: starEach [] (X j).env := by intro _; rfl) (hpl : ∀ j, (backTo pos (starEach [b] (X j).env)).any (·.1) = false := by intro _; rfl) :
    GEm X (.Call (.Name "_law_draw" p) [.Name x p1, b] [] pos) cs (cs.set i (some (purse r (drawF u v n).2.1 (drawF u v n).2.2))) (cI (drawF u v n).1) := by
  obtain ⟨f, fd, hm, hkp, hbd, hF⟩ := F
  obtain ⟨t, pt, vt⟩ := ga_one hb he2
  refine ⟨tCall spDraw [] E0 (tCons (tVar i) t), fun j => pe_call (k := 1) (fd := fd) (ps := ["_law_purse_here", "_law_many"]) (ds := []) (by rw [o.K j, o.mg j]; exact hF _ _ _) ((o.room j).mono hk) (hg j) (by rw [o.mg j]; exact hm) (by rw [o.K j]; exact hkp) (by rw [o.K j]; exact hbd) .nil pass0 (pa_cons (pe_var (hN j) (hv j) hd hcd) (pt j) (he j)) (by decide) (he j) (hpl j), fun B0 H0 B H σ Q E q => ?_⟩
  obtain ⟨w, hw, rfl, xs, e0, eb, eh, ss⟩ := E.sl i _ hi
  refine ⟨_, hw, vt B0 H0 B H σ _ E fun vs B1 H1 g1 s1 => ?_⟩
  obtain ⟨z, rfl, rfl⟩ := sats1 s1
  rw [ints2 ss] at eh
  have E1 := E.go g1
  have eh1 := g1.h _ _ eh
  have eb1 := g1.nw _ _ eb eh fun _ e => nomatch e
  refine ⟨r, u, v, n, rfl, ⟨h1, h2⟩, eh1, fun H' hx hp => q _ B1 H' g1.b (E1.mutX (s' := purse r _ _) hi hw rfl rfl e0 eb1 hx ⟨rfl, _, e0, eb1, hp, ints_sats [_, _]⟩) rfl⟩
theorem gs_setM (i : Nat) {p' : Pos} (ok : Cok X K mg k) (h : GEm X e cs cs' c) (hN : ∀ j, (X j).N[i]? = some x := by intro _; rfl) (hx : ∀ j, Loc (X j).env.scope x := by intro _; first | exact Or.inl rfl | exact Or.inr rfl) (hs : ∀ j, swapsWith e (some (.Name x p')) pos.line (X j).env = pure false := by intro _; rfl)
    (hf : ∀ j, (X j).fn x = true ∨ (X j).env.scope.names.lookup x = some .local := by intro _; first | exact Or.inl rfl | exact Or.inr rfl) : GS X (.Assign [.Name x p'] e pos) cs (.nx (cs'.set i (some (.im c)))) := by
  obtain ⟨t, pt, v⟩ := h
  exact ⟨_, fun j => ps_set (ok.nd j) (hN j) (hx j) (pt j) (hs j) (hf j), fun B0 H0 B H σ D E W => v B0 H0 B H σ _ E fun v B' H' sm E' s => W B' H' _ (E'.set s)⟩
/-- x.append(e), e changes another slot's thing -/
theorem gs_appX (i : Nat) (ok : Cok X K mg k) (h : GEm X e cs cs' c) (hz : l.length < 16000000) (hi : cs[i]? = some (some (.ml l)) := by rfl) (hi' : cs'[i]? = some (some (.ml l)) := by rfl) (hN : ∀ j, (X j).N[i]? = some x := by intro _; rfl) (hv : ∀ j, Vis (X j).env.scope x := by intro _; first | exact Or.inl rfl | exact Or.inr (Or.inl rfl) | exact Or.inr (Or.inr rfl))
    (hd : (x == ("__debug__" : Str)) = false := by decide) (hcd : (x == ("__classdict__" : Str)) = false := by decide)
    (hbase : ∀ j, attributeBase (.Name x p1) "append" (X j).env (eval (.Name x p1) (X j).env) = eval (.Name x p1) (X j).env := by intro _; rfl)
    (hfew : ∀ j, ((backTo p3 (starEach [e] (X j).env)).all (fun x => !x.1) && (backToKw p3 (keywordEach [] (X j).env)).all (fun x => x.1.isSome) && decide (([e] : List Expr).length + ([] : List Keyword).length + (if ([] : List Keyword).isEmpty then 0 else 1) < 30)) = true := by intro _; rfl)
    (hline : (p2.endLine == p3.line) = true := by rfl) (hs : ∀ j, starEach [e] (X j).env = (false, eval e (X j).env) :: starEach [] (X j).env := by intro _; rfl) (hpl : ∀ j, (backTo p3 (starEach ([] : List Expr) (X j).env)).any (·.1) = false := by intro _; rfl)
    (hsw : ∀ j, swapsWith (.Call (.Attribute (.Name x p1) "append" p2) [e] [] p3) none pos.line (X j).env = pure false := by intro _; rfl) : GS X (.Expr (.Call (.Attribute (.Name x p1) "append" p2) [e] [] p3) pos) cs (.nx (cs'.set i (some (.ml (l ++ [c]))))) := by
  obtain ⟨t, pt, v⟩ := h
  refine ⟨tDrop (tBM K "list" rAppend (tVar i) (tCons t tNil)), fun j => ps_expr (by
    have h := pe_bm PySem.F.plainAttrs_list PySem.F.slot_list_append PySem.F.type_list_append mt_append (pe_var (pos := p1) (i := i) (hN j) (hv j) hd hcd) (pa_cons (pt j) pa_nil (hs j)) (hbase j) (hfew j) hline (hs j) (hpl j)
    rw [ok.K j] at h
    exact h) (hsw j), fun B0 H0 B H σ D E W => ?_⟩
  obtain ⟨w, h1, q, xs, rfl, e0, eb, eh, ss⟩ := E.sl i _ hi
  refine ⟨_, h1, .inl ⟨rfl, _, SqL.of eh⟩, v B0 H0 B H σ _ E fun z B' H' sm E' hz' => ?_⟩
  obtain ⟨w2, h1', q2, xs2, e2, e02, eb2, eh2, ss2⟩ := E'.sl i _ hi'
  rw [h1] at h1'
  cases h1'
  cases e2
  refine ⟨q, xs2, z, rfl, rfl, eh2, ?_, W B' _ σ (E'.mutM hi' h1 rfl rfl e02 eb2 ⟨q, _, rfl, e02, eb2, upd_same, sats_app ss2 (.cons hz' .nil)⟩)⟩
  rw [sats_len ss2, sizeLine_eq]
  omega
/-- x, y = [], e -/
theorem gs_parN (i j n : Nat) {kt k2 : Nat} {px py pl pz pt pt2 : Pos} (ok : Cok X K mg k) (hc : cs[n]? = some (some (.im c)) := by rfl) (hij : i ≠ j := by decide) (hN : ∀ q, (X q).N[i]? = some x := by intro _; rfl) (hN2 : ∀ q, (X q).N[j]? = some y := by intro _; rfl) (hN3 : ∀ q, (X q).N[n]? = some z := by intro _; rfl) (hv : ∀ q, Vis (X q).env.scope z := by intro _; first | exact Or.inl rfl | exact Or.inr (Or.inl rfl) | exact Or.inr (Or.inr rfl))
    (hd : (z == ("__debug__" : Str)) = false := by decide) (hcd : (z == ("__classdict__" : Str)) = false := by decide)
    (hx : ∀ q, (X q).env.scope.names.lookup x = some .local := by intro _; rfl) (hy : ∀ q, (X q).env.scope.names.lookup y = some .local := by intro _; rfl) (hw : ∀ q, swappedStores [.Tuple [.Name x px, .Name y py] kt pt] (.Tuple [.List [] pl, .Name z pz] k2 pt2) (X q).env = pure (some [x, y]) := by intro _; rfl)
    (hs : ∀ q, swapsWithSole [.Tuple [.Name x px, .Name y py] kt pt] (.Tuple [.List [] pl, .Name z pz] k2 pt2) pos.line (X q).env = pure false := by intro _; rfl) : GS X (.Assign [.Tuple [.Name x px, .Name y py] kt pt] (.Tuple [.List [] pl, .Name z pz] k2 pt2) pos) cs (.nx ((cs.set i (some (.ml []))).set j (some (.im c)))) := by
  refine ⟨_, fun q => ps_par (ok.calm q) (ok.nd q) (hN q) (hN2 q) hij (hx q) (hy q) (pa_cons (pe_lst pa_nil) (pa_cons (pe_var (hN3 q) (hv q) hd hcd) pa_nil)) (hw q) (hs q), fun B0 H0 B H σ D E W => ⟨Nat.zero_le _, fun r hr => ?_⟩⟩
  obtain ⟨v, h1, h2⟩ := E.im hc
  exact ⟨v, h1, _, _, rfl, W B _ _ ((E.newM (s := .ml []) hr ⟨r, [], rfl, same_none E.st.h hr, same_none E.bh hr, upd_same, .nil⟩).set h2)⟩
/-- x[-1] -/
theorem ge_lastM (i : Nat) {n : Int} {kk : Nat} (ok : Cok X K mg k) (hi : cs[i]? = some (some (.ml (l ++ [cI n]))) := by rfl) (hN : ∀ j, (X j).N[i]? = some x := by intro _; rfl) (hv : ∀ j, Vis (X j).env.scope x := by intro _; first | exact Or.inl rfl | exact Or.inr (Or.inl rfl) | exact Or.inr (Or.inr rfl))
    (hd : (x == ("__debug__" : Str)) = false := by decide) (hcd : (x == ("__classdict__" : Str)) = false := by decide) (hp : PlainIx (.UnaryOp .USub (.Constant (.int 1) kk p2) p3) := by intro _ _; rfl) : GE X (.Subscript (.Name x p1) (.UnaryOp .USub (.Constant (.int 1) kk p2) p3) pos) cs (cI n) := by
  refine ⟨_, fun j => pe_ix (r := rIxL K) (by have h := ix_list (X := X j); rw [ok.K j] at h; exact h) (pe_var (pos := p1) (i := i) (hN j) (hv j) hd hcd) (pe_un un_neg pe_int) hp, fun B0 H0 B H σ Q E q => ?_⟩
  obtain ⟨w, h1, r, xs, rfl, e0, eb, eh, ss⟩ := E.sl i _ hi
  obtain ⟨ys, zs, rfl, s1, s2⟩ := sats_split ss
  obtain ⟨v, rfl, rfl⟩ := sats1 s2
  refine ⟨_, h1, 1, rfl, r, _, -1, .int n, rfl, rfl, SqL.of eh, ?_, q _ B H (Step.refl E.bh) rfl⟩
  exact atI_last ys (.int n)
theorem shaped_list (ns : List Int) : SeqAt.shaped (.list (ns.map PyData.int)) = true := by
  have h1 : ∀ ns : List Int, PyData.canLayAll0 (ns.map PyData.int) = true := fun ns => by
    induction ns with
    | nil => rfl
    | cons n ns ih => simp [PyData.canLayAll0, PyData.canLay0, ih]
  have h2 : ∀ ns : List Int, PyData.depthAll (ns.map PyData.int) ≤ 2 := fun ns => by
    induction ns with
    | nil => simp [PyData.depthAll]
    | cons n ns ih => simp [PyData.depthAll, PyData.depth]; omega
  have := h2 ns
  simp [SeqAt.shaped, PyData.canLay0, PyData.depth, h1]
  omega
theorem eqv_lnil {ns : List Int} : PyData.eqv (.list (ns.map PyData.int)) (.list []) = decide (ns = []) := by
  cases ns <;> simp [PyData.eqv, PyData.eqvAll]
/-- x != [] -/
theorem gt_neM (i : Nat) {ns : List Int} {pl : Pos} (ok : Cok X K mg k) (hi : cs[i]? = some (some (.ml (ns.map cI))) := by rfl) (hN : ∀ j, (X j).N[i]? = some x := by intro _; rfl) (hv : ∀ j, Vis (X j).env.scope x := by intro _; first | exact Or.inl rfl | exact Or.inr (Or.inl rfl) | exact Or.inr (Or.inr rfl))
    (hd : (x == ("__debug__" : Str)) = false := by decide) (hcd : (x == ("__classdict__" : Str)) = false := by decide) : GT X (.Compare (.Name x p1) [.NotEq] [.List [] pl] pos) cs (!decide (ns = [])) := by
  refine ⟨_, fun j => pt_cmpR (r := rNeD K) (by have h := op_neD (X := X j) (ok.room j).units; rw [ok.K j] at h; exact h) (pe_var (pos := p1) (i := i) (hN j) (hv j) hd hcd) (pe_lst pa_nil) (nomark _), fun B0 H0 B H σ Q E q => ?_⟩
  obtain ⟨w, h1, r, xs, rfl, e0, eb, eh, ss⟩ := E.sl i _ hi
  refine ⟨_, h1, Nat.zero_le _, fun d hd => ?_⟩
  have g := Step.new (o := .lst []) E.bh hd
  refine ⟨.list (ns.map PyData.int), .list [], .lst (SqL.of (g.h _ _ eh)) ((dcs_ints ns).all (sats_mono (same_xt (g.b.trans g.bh)) ss)), .lst (SqL.of upd_same) .nil, ?_, rfl, _, rfl, ?_⟩
  · exact shaped_list ns
  · rw [eqv_lnil]
    exact q _ _ g
end
end Ws
set_option Elab.async false
set_option linter.all false
set_option maxRecDepth 100000
set_option maxHeartbeats 4000000
namespace Ws
open PySem PySem.Spec L2
theorem env_startM {N : List Str} {B H : Hp} {p : Addr} {xs ws : List V} {l0 l : List Cell} (s : Same B H) (hb : B p = none) (hp : H p = some (.lst xs)) (s0 : Sats B xs l0) (ss : Sats B ws l) :
    Env B (fun a => if a = p then none else H a) B H (L2.start N (.ref p :: ws)) (some (.pm p l0) :: (l.map (fun c => some (.im c)) ++ List.replicate (N.length - (l.length + 1)) none)) := by
  have E := env_start (N := N) (vs := .ref p :: ws) (l := cR p :: l) s (.cons rfl ss)
  refine ⟨⟨Same.refl _, fun a u e => ?_, s, fun _ _ e _ _ => e⟩, E.len, fun i t h => ?_, fun i j t r q hi hj mt mr _ _ => ?_⟩
  · by_cases z : a = p
    · have e : (if a = p then none else H a) = some u := e
      rw [if_pos z] at e
      cases e
    · have e : (if a = p then none else H a) = some u := e
      rw [if_neg z] at e
      exact e
  · cases i with
    | zero =>
      cases h
      obtain ⟨v, h1, h2⟩ := E.sl 0 (.im (cR p)) rfl
      exact ⟨v, h1, h2, xs, if_pos rfl, hb, hp, s0⟩
    | succ i =>
      have h' : (l.map (fun c => some (Slot.im c)) ++ List.replicate (N.length - (l.length + 1)) none)[i]? = some (some t) := h
      obtain ⟨v, h1, h2⟩ := E.sl (i + 1) t h'
      refine ⟨v, h1, ?_⟩
      have hh : ∀ {a : Addr}, H a = none → (fun a => if a = p then none else H a) a = none := fun {a} e => by
        show (if a = p then none else H a) = none
        rw [e]
        split <;> rfl
      cases t with
      | im c => exact h2
      | ml l => obtain ⟨p, xs, e, e0, r⟩ := h2; exact ⟨p, xs, e, hh e0, r⟩
      | md l => obtain ⟨p, xs, e, e0, r⟩ := h2; exact ⟨p, xs, e, hh e0, r⟩
      | pm q l => obtain ⟨e, xs, e0, r⟩ := h2; exact ⟨e, xs, hh e0, r⟩
  · have nm : ∀ {i : Nat} {t : Slot}, (l.map (fun c => some (Slot.im c)) ++ List.replicate (N.length - (l.length + 1)) none)[i]? = some (some t) → t.isMut = true → False := fun {i t} h mt => by
      rcases List.mem_append.mp (List.mem_of_getElem? h) with h | h
      · obtain ⟨c, _, e⟩ := List.mem_map.mp h
        cases e
        cases mt
      · rw [List.mem_replicate] at h
        cases h.2
    cases i with
    | zero => cases j with
      | zero => rfl
      | succ j => exact (nm hj mr).elim
    | succ i => exact (nm hi mt).elim
section
variable {I : Type} {X : I → Cx} {K : PySem.W.Frag} {mg : Str → Option Value} {k m : Nat} {cs cs' cs2 : Cs} {st : Stmt} {sts : List Stmt} {e : Expr} {pos : Pos} {c : Cell} {l : List Cell}
/-- a body that returns c, the slots then being cs' -/
def GBx (X : I → Cx) (sts : List Stmt) (cs cs' : Cs) (c : Cell) : Prop := ∃ t, (∀ i, PSs (X i) sts t) ∧ ∀ (B0 H0 B H : Hp) (σ : St) (D : Ends), Env B0 H0 B H σ cs → (∀ v B' H' σ', Env B0 H0 B' H' σ' cs' → c.sat B' v → D.rt v H') → t D σ H
theorem gbx_cons (h1 : GS X st cs (.nx cs2)) (h2 : GBx X sts cs2 cs' c) : GBx X (st :: sts) cs cs' c := by
  obtain ⟨t, pt, vt⟩ := h1
  obtain ⟨u, pu, vu⟩ := h2
  exact ⟨tSeq t u, fun j => pss_cons (pt j) (pu j), fun B0 H0 B H σ D E W => vt B0 H0 B H σ _ E fun B' H' σ' E' => vu B0 H0 B' H' σ' D E' W⟩
theorem gbx_ret (h : GE X e cs c) : GBx X [.Return (some e) pos] cs cs c := by
  obtain ⟨t, pt, v⟩ := h
  exact ⟨tRet t, fun j => pss_one (ps_ret (pt j)), fun B0 H0 B H σ D E W => v B0 H0 B H σ _ E fun v B' H' g s => W v B' H' σ (E.go g) s⟩
theorem gbx_rest (i : Nat) (h : GBx X sts (cs.set i (some (.im (cL l)))) cs' c) (hs : cs[i]? = some (some (.ml l)) := by rfl) : GBx X sts cs cs' c := by
  obtain ⟨t, ht, hv⟩ := h
  refine ⟨t, ht, fun B0 H0 B H σ D E q => ?_⟩
  obtain ⟨v, h1, p, xs, rfl, e0, eb, eh, ss⟩ := E.sl i _ hs
  exact hv B0 H0 _ H σ D (E.rest hs h1 rfl e0 eb eh ⟨p, xs, rfl, upd_same, sats_mono (same_xt (same_new eb)) ss⟩) q
end
/-! _law_amounts -/
abbrev AS : Type := List Int × Int × Int × Int
def amtF (s : AS) (_ : Nat) : AS := (s.1 ++ [(drawF s.2.2.1 s.2.2.2 (s.2.1 + 1)).1], s.2.1 - (drawF s.2.2.1 s.2.2.2 (s.2.1 + 1)).1, (drawF s.2.2.1 s.2.2.2 (s.2.1 + 1)).2.1, (drawF s.2.2.1 s.2.2.2 (s.2.1 + 1)).2.2)
def amtS (a b many most : Int) : AS := (List.range (most - 1).toNat).foldl amtF ([], many, a, b)
def stripR : List Int → List Int
  | [] => []
  | x :: l => if x = 0 then stripR l else x :: l
def amtR (a b many most : Int) : List Int × Int × Int := ((stripR ((amtS a b many most).1 ++ [(amtS a b many most).2.1]).reverse).reverse, (amtS a b many most).2.2.1, (amtS a b many most).2.2.2)
theorem draw_rng {a b m : Int} (h : 0 < m) : 0 ≤ (drawF a b m).1 ∧ (drawF a b m).1 < m := by
  unfold drawF
  split
  · exact ⟨Int.emod_nonneg _ (by omega), Int.emod_lt_of_pos _ h⟩
  · exact ⟨Int.emod_nonneg _ (by omega), Int.emod_lt_of_pos _ h⟩
theorem amt_inv : ∀ (its : List Nat) (s : AS), 0 ≤ s.2.1 → (∀ n ∈ s.1, 0 ≤ n) → (0 ≤ (its.foldl amtF s).2.1 ∧ (its.foldl amtF s).2.1 ≤ s.2.1) ∧ (∀ n ∈ (its.foldl amtF s).1, 0 ≤ n) ∧ (its.foldl amtF s).1.sum + (its.foldl amtF s).2.1 = s.1.sum + s.2.1 ∧ (its.foldl amtF s).1.length = s.1.length + its.length
  | [], s, h, hn => ⟨⟨h, Int.le_refl _⟩, hn, rfl, rfl⟩
  | i :: its, s, h, hn => by
    obtain ⟨d1, d2⟩ := draw_rng (a := s.2.2.1) (b := s.2.2.2) (m := s.2.1 + 1) (by omega)
    have e1 : (amtF s i).2.1 = s.2.1 - (drawF s.2.2.1 s.2.2.2 (s.2.1 + 1)).1 := rfl
    have e2 : (amtF s i).1 = s.1 ++ [(drawF s.2.2.1 s.2.2.2 (s.2.1 + 1)).1] := rfl
    obtain ⟨⟨a1, a2⟩, a3, a4, a5⟩ := amt_inv its (amtF s i) (by rw [e1]; omega) (fun n hn' => by
      rw [e2] at hn'
      rcases List.mem_append.mp hn' with z | z
      · exact hn n z
      · rw [List.mem_singleton] at z
        rw [z]
        exact d1)
    rw [List.foldl_cons]
    refine ⟨⟨a1, by rw [e1] at a2; omega⟩, a3, ?_, ?_⟩
    · rw [a4, e1, e2, List.sum_append, List.sum_cons, List.sum_nil]
      omega
    · rw [a5, e2, List.length_append, List.length_cons, List.length_cons, List.length_nil]
      omega
def spAm : Sp := fun vs H Q _ => ∃ (p : Addr) (a b many most : Int), vs = [.ref p, .int many, .int most] ∧ (0 ≤ many ∧ many ≤ 100 ∧ 1 ≤ most ∧ most ≤ 100) ∧ H p = some (.lst [.int a, .int b]) ∧
  ∀ r H', (∀ q u, q ≠ p → H q = some u → H' q = some u) → H' p = some (.lst [.int (amtR a b many most).2.1, .int (amtR a b many most).2.2]) → H' r = some (.tup ((amtR a b many most).1.map V.int)) → Q (.ref r) H'
section
variable {K : PySem.W.Frag} {mg : Str → Option Value}
abbrev T_draw (K : PySem.W.Frag) (mg : Str → Option Value) : Prop := FnS K mg "_law_draw" 1 ["_law_purse_here", "_law_many"] spDraw
theorem ok_amounts {f : Addr} {fd : FuncData} (Fr : Frees mg) (F1 : T_draw K mg) (F : FunD K "_law_amounts" "_law_amounts" (defArgs s_law_amounts) (defBody s_law_amounts) (defScope s_law_amounts) [] [] f fd) (P : Program) (w : World) (base : Heap) : FnOk P w K mg base CX0 2 f fd ["_law_purse_here", "_law_many", "_law_most"] spAm := by
  have S : FnScope ["_law_purse_here", "_law_many", "_law_most", "_law_found", "_law_left", "_law_turn"] ["_law_purse_here", "_law_many", "_law_most"] (defScope s_law_amounts) := ⟨rfl, rfl, rfl, by decide +kernel, rfl, by decide +kernel, by decide +kernel⟩
  refine F.ok S (fun vs H Q E ⟨_, _, _, _, _, h, _⟩ => by rw [h] <;> rfl) fun cdv A outer s H vs Q E hr h => ?_
  obtain ⟨p, a, b, many, most, rfl, ⟨b1, b2, b3, b4⟩, hp, q⟩ := h
  have o : Cok (fX P w K mg base ["_law_purse_here", "_law_many", "_law_most", "_law_found", "_law_left", "_law_turn"] "_law_amounts" (defScope s_law_amounts) f cdv A outer s H E) K mg 1 := ⟨fun _ => rfl, fun _ => rfl, fun _ => S.nd, fun _ => rfl, fun _ => hr, fun _ => rfl⟩
  have inv := amt_inv (List.range (most - 1).toNat) ([], many, a, b) b1 (fun n hn => by cases hn)
  have k : GBx (fX P w K mg base ["_law_purse_here", "_law_many", "_law_most", "_law_found", "_law_left", "_law_turn"] "_law_amounts" (defScope s_law_amounts) f cdv A outer s H E) (defBody s_law_amounts) [some (purse p a b), some (.im (cI many)), some (.im (cI most)), none, none, none]
      [some (purse p (amtR a b many most).2.1 (amtR a b many most).2.2), some (.im (cI many)), some (.im (cI most)), some (.im (cL ((amtR a b many most).1.map cI))), some (.im (cI (amtS a b many most).2.1)), none] (cS (amtR a b many most).1) := by
    refine gbx_cons (gs_parN 3 4 1 o) (gbx_cons (gs_for (env := fun s : AS => [some (purse p s.2.2.1 s.2.2.2), some (.im (cI many)), some (.im (cI most)), some (.ml (s.1.map cI)), some (.im (cI s.2.1)), none]) (its := List.range (most - 1).toNat) (ic := fun i : Nat => [cI (i : Int)]) (s0 := ([], many, a, b)) amtF o
      (gi_rngN _ o Fr.range (ge_subt (ge_var 2) ge_int) rfl) (gg_name o 5) fun pre i post e => ?_) ?_)
    · obtain ⟨⟨i1, i2⟩, i3, i4, i5⟩ := amt_inv pre ([], many, a, b) b1 (fun n hn => by cases hn)
      have i2 : (pre.foldl amtF ([], many, a, b)).2.1 ≤ many := i2
      generalize pre.foldl amtF ([], many, a, b) = st at i1 i2 i5 ⊢
      have hpl : pre.length < 1000 := by
        have := congrArg List.length e
        rw [List.length_range, List.length_append, List.length_cons] at this
        omega
      have i5 : st.1.length = 0 + pre.length := i5
      refine gb_cons (gs_appX (l := st.1.map cI) 3 o (gem_draw 0 o F1 (ge_add (ge_var 4) ge_int) (by omega) (by omega)) (by rw [List.length_map]; omega)) ?_
      refine gb_post (gb_one (gs_set 4 o (ge_subt (ge_var 4) (ge_lastM (l := st.1.map cI) 3 o)))) ?_
      exact le_same (le_same (le_same (le_eq (congrArg (fun l => some (Slot.ml l)) (by rw [show (amtF st i).1 = st.1 ++ [(drawF st.2.2.1 st.2.2.2 (st.2.1 + 1)).1] from rfl, List.map_append] <;> rfl)) (le_same (le_none le_nil)))))
    · show GBx _ _ [some (purse p (amtS a b many most).2.2.1 (amtS a b many most).2.2.2), some (.im (cI many)), some (.im (cI most)), some (.ml ((amtS a b many most).1.map cI)), some (.im (cI (amtS a b many most).2.1)), none] _ _
      have inv5 : (amtS a b many most).1.length = 0 + (List.range (most - 1).toNat).length := inv.2.2.2
      rw [List.length_range] at inv5
      unfold amtR
      generalize amtS a b many most = st at inv5 ⊢
      refine gbx_cons (gs_appM (f := cI) (xs := st.1) 3 o (ge_var 4) (by omega)) (gbx_cons (gs_out (gs_pre (gs_while (S := List Int) (env := fun r => [some (purse p st.2.2.1 st.2.2.2), some (.im (cI many)), some (.im (cI most)), some (.ml (r.reverse.map cI)), some (.im (cI st.2.1)), none]) (s0 := (st.1 ++ [st.2.1]).reverse) (fun r => match r with | [] => false | x :: _ => decide (x = 0)) List.tail stripR List.length (fun _ => True) o trivial (fun r _ => ?_) (fun r _ hr => ?_) (fun _ _ _ => trivial) (fun r _ hr => ?_) (fun r _ hr => ?_) (fun r _ hr => ?_)) ?_) rfl) (gbx_rest 3 (gbx_ret (ge_tupL o Fr.tuple (ge_var 3)))))
      · cases r with
        | nil =>
          refine gt_w (gw_is (gw_and (i := false) (j := false) (gt_is (gt_neM (ns := []) 3 o) (by rw [decide_eq_true rfl] <;> rfl)) (fun h => nomatch h)) rfl)
        | cons x t =>
          refine gt_w (gw_andT (gt_is (gt_neM (ns := (x :: t).reverse) 3 o) (by rw [decide_eq_false] <;> simp)) (gw_and1 (gt_eqI (ge_lastM (l := t.reverse.map cI) 3 o (by show some (some (Slot.ml ((x :: t).reverse.map cI))) = _; rw [List.reverse_cons, List.map_append] <;> rfl)) ge_int)))
      · cases r with
        | nil => cases hr
        | cons x t => exact gb_one (gs_drop (l := t.reverse.map cI) (c := cI x) 3 o (by show some (some (Slot.ml ((x :: t).reverse.map cI))) = _; rw [List.reverse_cons, List.map_append] <;> rfl))
      · cases r with
        | nil => cases hr
        | cons x t => exact Nat.lt_succ_self _
      · cases r with
        | nil => rfl
        | cons x t =>
          have hr := of_decide_eq_false hr
          exact if_neg hr
      · cases r with
        | nil => cases hr
        | cons x t =>
          have hr := of_decide_eq_true hr
          exact if_pos hr
      · exact le_same (le_same (le_same (le_eq (by rw [List.reverse_reverse] <;> rfl) (le_same (le_none le_nil)))))
  obtain ⟨t, pt, vt⟩ := k
  refine ⟨t, PSs.nox (pt ()), vt (fun _ => none) _ (fun _ => none) H _ _ (env_startM (N := ["_law_purse_here", "_law_many", "_law_most", "_law_found", "_law_left", "_law_turn"]) (l := [cI many, cI most]) (fun _ _ e => nomatch e) rfl hp (ints_sats [a, b]) (.cons rfl (.cons rfl .nil))) fun v B' H' σ' E' sv => ?_⟩
  obtain ⟨w, h1, rfl, xs, e0, eb, eh, ss⟩ := E'.sl 0 _ rfl
  rw [ints2 ss] at eh
  obtain ⟨r, rfl, hr⟩ := cS_at sv
  refine q r H' (fun z u hz hu => E'.st.h _ _ ?_) eh (E'.bh _ _ hr)
  show (if z = p then none else H z) = some u
  rw [if_neg hz]
  exact hu
theorem k_amounts (Fr : Frees mg) (F1 : T_draw K mg) (D : Def K mg "_law_amounts" s_law_amounts) : FnS K mg "_law_amounts" 2 ["_law_purse_here", "_law_many", "_law_most"] spAm := by
  obtain ⟨f, fd, hm, F⟩ := D.ex
  exact ⟨f, fd, hm, F.kp, F.bindsN fun _ _ _ _ _ _ us hl => match us, hl with | [_, _, _], _ => rfl, ok_amounts Fr F1 F⟩
end
end Ws
set_option Elab.async false
set_option linter.all false
set_option maxRecDepth 100000
set_option maxHeartbeats 4000000
namespace Ws
open PySem PySem.Spec L2
section
variable {X : Cx} {CX : CXT} {k : Nat} {f : Addr} {fd : FuncData} {ps ks : List Str} {sp : Sp} {E : XK} {x : Str} {p pos : Pos} {kws : List Keyword} {tk : TA} {g : List Value → List Value → List Value} {gV : List V → List V → List V}
/-- f(k = v, ..), no written arguments -/
theorem pe_callK0 (F : FnOk X.prog X.w X.K X.mg X.base CX k f fd ps sp) (hr : Room k X.A) (hg : Gl X x) (hm : X.mg x = some (.ref f)) (hk : PySem.W.keepIn X.K (.ref f) = true) (hb : KBinds X.K fd ps ks g gV) (hx : Passes CX X E) (hkw : PK X kws tk)
    (hall : (backToKw pos (keywordEach kws X.env)).all (·.1.isSome) = true := by rfl) (hks : (backToKw pos (keywordEach kws X.env)).filterMap (·.1) = ks := by rfl) (hdb : (x == ("__debug__" : Str)) = false := by decide)
    (hpl : ((backTo pos (starEach [] X.env)).any (·.1) || (backToKw pos (keywordEach kws X.env)).any (·.1.isNone)) = false := by rfl) :
    PE X (.Call (.Name x p) [] kws pos) (tCallK sp gV E tNil tk) := by
  refine ⟨fun pins s σ H Q I h => ?_⟩
  refine wpAny_Call_Name_kw (ld_glob I hg hm ?_ hdb)
  refine PySem.W.callWith_KW0 (h₀ := X.base) I.ok.mod.kin hk hall ?_ hpl
  refine thn (hkw.run pos pins s σ H _ I h) fun ws s2 ⟨zs, H2, I2, rz, q2⟩ => ⟨I2.kIn, ?_⟩
  rw [hks]
  exact run_fnk (us := []) (vs := []) F hr hb hx I2 .nil rz q2
end
section
variable {I : Type} {X : I → Cx} {K : PySem.W.Frag} {mg : Str → Option Value} {k m : Nat} {cs cs' cs1 cs2 : Cs} {x y z : Str} {a b e e1 e2 : Expr} {es : List Expr} {pos p p1 p2 p3 apos : Pos} {c c1 c2 : Cell} {l : List Cell}
abbrev T_am (K : PySem.W.Frag) (mg : Str → Option Value) : Prop := FnS K mg "_law_amounts" 2 ["_law_purse_here", "_law_many", "_law_most"] spAm
theorem gem_amounts {r : Addr} {u v many most : Int} (i : Nat) (o : Cok X K mg m) (F : T_am K mg) (h1 : GE X e1 cs (cI many)) (h2 : GEm X e2 cs cs1 (cI most)) (hr : 0 ≤ many ∧ many ≤ 100 ∧ 1 ≤ most ∧ most ≤ 100) (hk : 2 ≤ m := by decide) (hi0 : ∃ l, cs[i]? = some (some (.pm r l)) := by exact ⟨_, rfl⟩) (hi : cs1[i]? = some (some (purse r u v)) := by rfl)
    (hN : ∀ j, (X j).N[i]? = some x := by intro _; rfl) (hv : ∀ j, Vis (X j).env.scope x := by intro _; first | exact Or.inl rfl | exact Or.inr (Or.inl rfl) | exact Or.inr (Or.inr rfl))
    (hd : (x == ("__debug__" : Str)) = false := by decide) (hcd : (x == ("__classdict__" : Str)) = false := by decide) (hg : ∀ j, Gl (X j) "_law_amounts" := by intro _; rfl) (he : ∀ j, starEach [.Name x p1, e1, e2] (X j).env = (false, eval (.Name x p1) (X j).env) :: starEach [e1, e2] (X j).env := by intro _; rfl)
    (he1 : ∀ j, starEach [e1, e2] (X j).env = (false, eval e1 (X j).env) :: starEach [e2] (X j).env := by intro _; rfl) (he2 : ∀ j, starEach [e2] (X j).env = (false, eval e2 (X j).env) :: starEach [] (X j).env := by intro _; rfl) (hpl : ∀ j, (backTo pos (starEach [e1, e2] (X j).env)).any (·.1) = false := by intro _; rfl) :
    GEm X (.Call (.Name "_law_amounts" p) [.Name x p1, e1, e2] [] pos) cs (cs1.set i (some (purse r (amtR u v many most).2.1 (amtR u v many most).2.2))) (cS (amtR u v many most).1) := by
  obtain ⟨f, fd, hm, hkp, hbd, hF⟩ := F
  obtain ⟨t1, pt1, v1⟩ := h1
  obtain ⟨t2, pt2, v2⟩ := h2
  refine ⟨tCall spAm [] E0 (tCons (tVar i) (tCons t1 (tCons t2 tNil))), fun j => pe_call (k := 2) (fd := fd) (ps := ["_law_purse_here", "_law_many", "_law_most"]) (ds := []) (by rw [o.K j, o.mg j]; exact hF _ _ _) ((o.room j).mono hk) (hg j) (by rw [o.mg j]; exact hm) (by rw [o.K j]; exact hkp) (by rw [o.K j]; exact hbd) .nil pass0 (pa_cons (pe_var (hN j) (hv j) hd hcd) (pa_cons (pt1 j) (pa_cons (pt2 j) pa_nil (he2 j)) (he1 j)) (he j)) (by decide) (he j) (hpl j), fun B0 H0 B H σ Q E q => ?_⟩
  obtain ⟨l0, hi0⟩ := hi0
  obtain ⟨w, hw, rfl, xs0, _, _, _, _⟩ := E.sl i _ hi0
  refine ⟨_, hw, v1 B0 H0 B H σ _ E fun w1 B1 H1 g1 s1 => v2 B0 H0 B1 H1 σ _ (E.go g1) fun w2 B2 H2 sm E2 s2 => ?_⟩
  obtain rfl : w1 = V.int many := s1
  obtain rfl : w2 = V.int most := s2
  obtain ⟨w, hw2, rfl, xs, e0, eb, eh, ss⟩ := E2.sl i _ hi
  rw [ints2 ss] at eh
  refine ⟨r, u, v, many, most, rfl, hr, eh, fun q1 H' hx hp hq => ?_⟩
  have E3 := E2.mutX (s' := purse r _ _) hi hw2 rfl rfl e0 eb hx ⟨rfl, _, e0, eb, hp, ints_sats [_, _]⟩
  have g3 := learn E3.bh hq
  exact q _ _ H' ((g1.b.trans sm).trans g3.b) (E3.go g3) (cS_mk upd_same)
theorem gs_parMM (i j : Nat) {kt k2 : Nat} {px py pt pt2 : Pos} (ok : Cok X K mg k) (ha : GEm X a cs cs1 c1) (hb : GEm X b cs1 cs2 c2) (hij : i ≠ j := by decide) (hN : ∀ n, (X n).N[i]? = some x := by intro _; rfl) (hN2 : ∀ n, (X n).N[j]? = some y := by intro _; rfl)
    (hx : ∀ n, (X n).env.scope.names.lookup x = some .local := by intro _; rfl) (hy : ∀ n, (X n).env.scope.names.lookup y = some .local := by intro _; rfl) (h1 : ∀ n, starEach [a, b] (X n).env = (false, eval a (X n).env) :: starEach [b] (X n).env := by intro _; rfl) (h2 : ∀ n, starEach [b] (X n).env = (false, eval b (X n).env) :: starEach [] (X n).env := by intro _; rfl)
    (hw : ∀ n, swappedStores [.Tuple [.Name x px, .Name y py] kt pt] (.Tuple [a, b] k2 pt2) (X n).env = pure (some [x, y]) := by intro _; rfl)
    (hs : ∀ n, swapsWithSole [.Tuple [.Name x px, .Name y py] kt pt] (.Tuple [a, b] k2 pt2) pos.line (X n).env = pure false := by intro _; rfl) : GS X (.Assign [.Tuple [.Name x px, .Name y py] kt pt] (.Tuple [a, b] k2 pt2) pos) cs (.nx ((cs2.set i (some (.im c1))).set j (some (.im c2)))) := by
  obtain ⟨t, pa, v⟩ := ha
  obtain ⟨u, pb, w⟩ := hb
  exact ⟨_, fun n => ps_par (ok.calm n) (ok.nd n) (hN n) (hN2 n) hij (hx n) (hy n) (pa_cons (pa n) (pa_cons (pb n) pa_nil (h2 n)) (h1 n)) (hw n) (hs n), fun B0 H0 B H σ D E W => v B0 H0 B H σ _ E fun x1 B1 H1 sm E1 s1 => w B0 H0 B1 H1 σ _ E1 fun x2 B2 H2 sm2 E2 s2 => ⟨x1, x2, rfl, W B2 _ _ ((E2.set (c1.mono (same_xt sm2) s1)).set s2)⟩⟩
theorem gem_tup2 {kk : Nat} (ha : GEm X a cs cs1 c1) (hb : GEm X b cs1 cs2 c2) (h1 : ∀ n, starEach [a, b] (X n).env = (false, eval a (X n).env) :: starEach [b] (X n).env := by intro _; rfl) (h2 : ∀ n, starEach [b] (X n).env = (false, eval b (X n).env) :: starEach [] (X n).env := by intro _; rfl) : GEm X (.Tuple [a, b] kk pos) cs cs2 (cT [c1, c2]) := by
  obtain ⟨t, pa, v⟩ := ha
  obtain ⟨u, pb, w⟩ := hb
  refine ⟨_, fun n => pe_tup (pa_cons (pa n) (pa_cons (pb n) pa_nil (h2 n)) (h1 n)), fun B0 H0 B H σ Q E q => v B0 H0 B H σ _ E fun x1 B1 H1 sm E1 s1 => w B0 H0 B1 H1 σ _ E1 fun x2 B2 H2 sm2 E2 s2 => ⟨?_, fun r hr => ?_⟩⟩
  · rw [sizeLine_eq]
    show 2 ≤ _
    decide
  · have g := Step.new (o := .tup [x1, x2]) E2.bh hr
    exact q _ _ _ ((sm.trans sm2).trans g.b) (E2.go g) ⟨r, _, rfl, upd_same, .cons (c1.mono (same_xt (sm2.trans g.b)) s1) (.cons (c2.mono (same_xt g.b) s2) .nil)⟩
theorem gs_asgM {tg : Expr} {sl : List Nat} (ok : Cok X K mg k) (h : GEm X e cs cs' (itemCell l)) (hg : GG X tg sl) (hl : l.length = sl.length := by rfl) (hs : ∀ j, swapsWithSole [tg] e pos.line (X j).env = pure false := by intro _; rfl) (hw : ∀ j, swappedStores [tg] e (X j).env = pure none := by intro _; rfl)
    (h1 : ∀ j, (assignEach [tg] (X j).env).map (·.2) = [assign tg (X j).env] := by intro _; rfl) : GS X (.Assign [tg] e pos) cs (.nx (setC cs' sl l)) := by
  obtain ⟨t, pt, v⟩ := h
  obtain ⟨g, pg, vg⟩ := hg
  exact ⟨_, fun j => ps_asg (pt j) (pg j) (hs j) (hw j) (h1 j), fun B0 H0 B H σ D E W => v B0 H0 B H σ _ E fun v B' H' sm E' s => vg B' H' σ l v _ E'.bh hl s fun vs sv => W B' H' _ (E'.sets sv)⟩
/-- margin_count(columns = .., rows = ..) -/
theorem ge_marginK {ns ms : List Int} {kp1 kp2 : Pos} (o : Cok X K mg m) (D : Def K mg "margin_count" s_margin_count) (Cn : Consts mg) (F1 : T_check_margins K mg) (F2 : T_arrays K mg) (ha : GE X a cs (cS ms)) (hb : GE X b cs (cS ns)) (h : OkM ns ms 12) (hk : 3 ≤ m := by decide) (hg : ∀ j, Gl (X j) "margin_count" := by intro _; rfl)
    (hall : ∀ j, (backToKw pos (keywordEach [⟨some "columns", a, kp1⟩, ⟨some "rows", b, kp2⟩] (X j).env)).all (·.1.isSome) = true := by intro _; rfl) (hks : ∀ j, (backToKw pos (keywordEach [⟨some "columns", a, kp1⟩, ⟨some "rows", b, kp2⟩] (X j).env)).filterMap (·.1) = (["columns", "rows"] : List Str) := by intro _; rfl)
    (hpl : ∀ j, ((backTo pos (starEach [] (X j).env)).any (·.1) || (backToKw pos (keywordEach [⟨some "columns", a, kp1⟩, ⟨some "rows", b, kp2⟩] (X j).env)).any (·.1.isNone)) = false := by intro _; rfl) : GE X (.Call (.Name "margin_count" p) [] [⟨some "columns", a, kp1⟩, ⟨some "rows", b, kp2⟩] pos) cs (cI (arrays ns ms 12)) := by
  obtain ⟨f, fd, hm, F⟩ := D.ex
  obtain ⟨ta, pa, va⟩ := ha
  obtain ⟨tb, pb, vb⟩ := hb
  have hFn : ∀ P w base, FnOk P w K mg base CX0 3 f fd ["rows", "columns"] (spC 2 (SpG (fun a : List Int × List Int => OkM a.1 a.2 12) (fun a => [cS a.1, cS a.2]) fun a => cI (arrays a.1 a.2 12))) := fun P w base => by
    refine fn_ok (N := ["rows", "columns"]) F ⟨rfl, rfl, rfl, by decide +kernel, rfl, by decide +kernel, by decide +kernel⟩ (fun l c ⟨a, _, h, _⟩ => by rw [h] <;> rfl) (fun P w base f cd A outer s H E o sco l c ⟨⟨rows, cols⟩, hh, h2, h3⟩ => ?_) P w base
    subst h2 h3
    obtain ⟨h1, h2, h3, h4⟩ : OkM rows cols 12 := hh
    have := h2.1
    exact .inl (gb_cons (gs_expr (ge_callA rows o F1 (ga_one (ge_var 0)) h1)) (gb_cons (gs_expr (ge_callA cols o F1 (ga_one (ge_var 1)) h2)) (gb_ret (ge_callA (rows, cols, 12) o F2 (ga_cons (ge_var 0) (ga_cons (ge_var 1) (ga_one (ge_const o Cn.long)))) ⟨⟨h3, by show cols.length ≤ 1000; omega⟩, h4⟩))))
  have kb : KBinds K fd ["rows", "columns"] ["columns", "rows"] (fun us ws => match us, ws with | [], [c, r] => [r, c] | _, _ => []) (fun vs zs => match vs, zs with | [], [c, r] => [r, c] | _, _ => []) := by
    obtain ⟨oc, od, dV, kV, doc, pm, an, cdv, ct, osl, rfl, lk, hcd, hD, hK⟩ := F.ex
    rcases hD with ⟨_, rfl⟩ | ⟨e, _⟩
    · refine ⟨fun s us ws hin hl => ?_, fun {vs us zs ws} r1 r2 => ?_⟩
      · match us, ws, hl with
        | [], [c, r], _ => exact .of_eq rfl
      · cases r1 with
        | nil => cases r2 with
          | nil => exact .nil
          | cons h1 t1 => cases t1 with
            | nil => exact .nil
            | cons h2 t2 => cases t2 with
              | nil => exact .cons h2 (.cons h1 .nil)
              | cons h3 t3 => exact .nil
        | cons h t => exact .nil
    · exact absurd rfl e
  refine ⟨tCallK (spC 2 _) _ E0 tNil (tCons ta (tCons tb tNil)), fun j => pe_callK0 (k := 3) (fd := fd) (by rw [o.K j, o.mg j]; exact hFn _ _ _) ((o.room j).mono hk) (hg j) (by rw [o.mg j]; exact hm) (by rw [o.K j]; exact F.kp) (by rw [o.K j]; exact kb) pass0 (pk_cons (pa j) (pk_cons (pb j) pk_nil)) (hall j) (hks j) (by decide) (hpl j), fun B0 H0 B H σ Q E q => va B0 H0 B H σ _ E fun x1 B1 H1 g1 s1 => vb B0 H0 B1 H1 σ _ (E.go g1) fun x2 B2 H2 g2 s2 => ?_⟩
  exact ⟨rfl, [cS ns, cS ms], _, B2, ⟨(ns, ms), h, rfl, rfl⟩, g2.bh, .cons s2 (.cons (Cell.mono _ (same_xt g2.b) s1) .nil), fun w B3 H3 g3 s3 => q w B3 H3 ((g1.trans g2).trans g3) s3⟩
end
end Ws
set_option Elab.async false
set_option linter.all false
set_option maxRecDepth 100000
set_option maxHeartbeats 4000000
namespace Ws
open PySem PySem.Spec L2
/-! what is drawn -/
def rdD (a b : Int) : Int × Int × Int := drawF a b 6
def rdN (a b : Int) : Int := 1 + (rdD a b).1
def rdA (a b : Int) : List Int × Int × Int := amtR (rdD a b).2.1 (rdD a b).2.2 (rdN a b) 4
def rdE (a b : Int) : Int × Int × Int := drawF (rdA a b).2.1 (rdA a b).2.2 4
def rdB (a b : Int) : List Int × Int × Int := amtR (rdE a b).2.1 (rdE a b).2.2 (rdN a b) (1 + (rdE a b).1)
def Dom1 (n : Int) (p : List Int) : Prop := p.length ≤ 4 ∧ ((∀ x ∈ p, 0 ≤ x) ∧ p.sum = n)
theorem stripR_ok : ∀ l : List Int, (stripR l).sum = l.sum ∧ ((stripR l).length ≤ l.length ∧ ∀ x ∈ stripR l, x ∈ l)
  | [] => ⟨rfl, Nat.le_refl _, fun _ h => h⟩
  | x :: l => by
    unfold stripR
    by_cases h : x = 0
    · rw [if_pos h]
      obtain ⟨h1, h2, h3⟩ := stripR_ok l
      refine ⟨by rw [h1, h, List.sum_cons]; omega, by rw [List.length_cons]; omega, fun y hy => List.mem_cons_of_mem _ (h3 y hy)⟩
    · rw [if_neg h]
      exact ⟨rfl, Nat.le_refl _, fun _ h => h⟩
theorem sum_rev : ∀ l : List Int, l.reverse.sum = l.sum
  | [] => rfl
  | x :: l => by
    rw [List.reverse_cons, List.sum_append, sum_rev l, List.sum_cons, List.sum_cons, List.sum_nil]
    omega
theorem amtR_ok {a b many most : Int} (h1 : 0 ≤ many) (h2 : 1 ≤ most) (h3 : most ≤ 4) : Dom1 many (amtR a b many most).1 := by
  obtain ⟨⟨i1, i2⟩, i3, i4, i5⟩ := amt_inv (List.range (most - 1).toNat) ([], many, a, b) h1 (fun n hn => by cases hn)
  obtain ⟨s1, s2, s3⟩ := stripR_ok ((amtS a b many most).1 ++ [(amtS a b many most).2.1]).reverse
  have i4 : (amtS a b many most).1.sum + (amtS a b many most).2.1 = 0 + many := i4
  have i5 : (amtS a b many most).1.length = 0 + (List.range (most - 1).toNat).length := i5
  rw [List.length_range] at i5
  unfold amtR
  refine ⟨?_, fun x hx => ?_, ?_⟩
  · show (stripR _).reverse.length ≤ 4
    rw [List.length_reverse]
    rw [List.length_reverse, List.length_append, List.length_cons, List.length_nil] at s2
    omega
  · have hx : x ∈ (stripR ((amtS a b many most).1 ++ [(amtS a b many most).2.1]).reverse).reverse := hx
    rw [List.mem_reverse] at hx
    have := s3 x hx
    rw [List.mem_reverse] at this
    rcases List.mem_append.mp this with z | z
    · exact i3 x z
    · rw [List.mem_singleton] at z
      rw [z]
      exact i1
  · show (stripR _).reverse.sum = many
    rw [sum_rev, s1, sum_rev, List.sum_append, List.sum_cons, List.sum_nil]
    omega
theorem dom_rd (a b : Int) : (1 ≤ rdN a b ∧ rdN a b ≤ 6) ∧ Dom1 (rdN a b) (rdA a b).1 ∧ Dom1 (rdN a b) (rdB a b).1 := by
  obtain ⟨d1, d2⟩ := draw_rng (a := a) (b := b) (m := 6) (by decide)
  obtain ⟨d3, d4⟩ := draw_rng (a := (rdA a b).2.1) (b := (rdA a b).2.2) (m := 4) (by decide)
  have hn : 1 ≤ rdN a b ∧ rdN a b ≤ 6 := by
    unfold rdN rdD
    omega
  refine ⟨hn, amtR_ok (by omega) (by decide) (by decide), amtR_ok (by omega) ?_ ?_⟩
  · unfold rdE; omega
  · unfold rdE; omega
/-! what the drawn ones fulfil -/
structure GoodL (L : List (List Int)) (p q : List Int) : Prop where
  len : L.length ≤ 1000
  x1 : ∀ x ∈ L, shpB 40 x = true ∧ (p.sum = x.sum ∧ q.sum = x.sum)
  x2 : ∀ x ∈ L, shpB 40 (flip1 x) = true ∧ q.sum = (flip1 x).sum
  u1 : ∀ x ∈ L, ∃ U, x ∈ U ∧ OkU U p
  u2 : ∀ x ∈ L, ∃ U, x ∈ U ∧ OkU U q
  u3 : ∀ x ∈ L, ∃ U, flip1 x ∈ U ∧ OkU U q
  m1 : ∀ x ∈ L, CMul (tables x p) (tables x q)
  m2 : ∀ x ∈ L, CMul (tables x p) (tables (flip1 x) q)
  s9 : (L.map fun x => tables x p * tables x q).sum = LA p q 9
  s1 : (L.map fun x => tables x p * tables (flip1 x) q).sum = LA p q 1
  hv : ∀ x ∈ L, decide (0 < tables x p) = decide (lightV x (fallen p) = .non)
structure Good (n : Int) (p q : List Int) : Prop where
  a9 : okLA p q 9
  a1 : okLA p q 1
  m1 : OkM p q 12
  m2 : OkM q p 12
  z1 : OkM p q 1
  z2 : OkM q p 1
  e1 : arrays p q 12 = LA p q 9
  e2 : arrays q p 12 = LA p q 9
  e3 : arrays p q 1 = LA p q 1
  e4 : arrays q p 1 = LA p q 1
  sh : ∃ m, okA ([], [([], n, n)]) m = true ∧ GoodL (runA m ([], [([], n, n)])).1 p q
  fp : shpB 40 (fallen p) = true ∧ (fallen p).sum = p.sum
  fq : shpB 40 (fallen q) = true ∧ (shpB 40 (flip1 (fallen q)) = true ∧ (flip1 (fallen q)).sum = (fallen p).sum)
  h1 : okLH false p q
  h2 : okLH true p q
  h3 : lawHeld false p q = LA p q 9
  h4 : lawHeld true p q = LA p q 1
  lst : decide (0 < LA p q 1) = decide (lightV (flip1 (fallen q)) (fallen p) = .non)
structure LastOk : Prop where
  o1 : OkM [1] [2] 12
  o2 : OkM [2] [2] 1
  o3 : OkM [0, 2] [2] 12
  v1 : arrays [1] [2] 12 = 0
  v2 : arrays [2] [2] 1 = 0
  v3 : arrays [0, 2] [2] 12 = 1
def spRight : Sp := fun vs H Q _ => ∃ (p : Addr) (a b : Int), vs = [.ref p] ∧ H p = some (.lst [.int a, .int b]) ∧ ∀ H', (∀ q u, q ≠ p → H q = some u → H' q = some u) → Q (.bl true) H'
section
variable {K : PySem.W.Frag} {mg : Str → Option Value} {C : Addr}
/-- all that _law_right calls -/
structure Kit (K : PySem.W.Frag) (mg : Str → Option Value) : Prop where
  Fr : Frees mg
  Cn : Consts mg
  draw : T_draw K mg
  am : T_am K mg
  larr : T_larr K mg 4
  mgn : T_margin K mg
  mgD : Def K mg "margin_count" s_margin_count
  cm : T_check_margins K mg
  arr : T_arrays K mg
  zo : T_zero_one K mg
  so : T_shapes_of K mg
  tc : T_table_count K mg
  fl : T_flipped K mg
  hv : T_heavier K mg
  fa : T_fallen K mg
  he : T_lheld K mg
theorem refl2 {d : PyData} (h : SeqAt.shaped d = true) : PyData.eqv d d = true := SeqAt.eqv_refl _ (SeqAt.canLay_of_shaped h)
theorem ok_right {f : Addr} {fd : FuncData} (T : Kit K mg) (LO : LastOk) (G : ∀ n p q, 1 ≤ n → n ≤ 6 → Dom1 n p → Dom1 n q → Good n p q) (F : FunD K "_law_right" "_law_right" (defArgs s_law_right) (defBody s_law_right) (defScope s_law_right) [] [] f fd) (P : Program) (w : World) (base : Heap) : FnOk P w K mg base CX0 11 f fd ["_law_purse_here"] spRight := by
  have S : FnScope ["_law_purse_here", "_law_turn", "_law_many", "_law_parts", "_law_others", "_law_whole", "_law_plain", "_law_seen", "_law_all_here", "_law_x"] ["_law_purse_here"] (defScope s_law_right) := ⟨rfl, rfl, rfl, by decide +kernel, rfl, by decide +kernel, by decide +kernel⟩
  refine F.ok S (fun vs H Q E ⟨_, _, _, h, _⟩ => by rw [h] <;> rfl) fun cdv A outer s H vs Q E hr h => ?_
  obtain ⟨r, a, b, rfl, hp, q⟩ := h
  have o : Cok (fX P w K mg base ["_law_purse_here", "_law_turn", "_law_many", "_law_parts", "_law_others", "_law_whole", "_law_plain", "_law_seen", "_law_all_here", "_law_x"] "_law_right" (defScope s_law_right) f cdv A outer s H E) K mg 10 := ⟨fun _ => rfl, fun _ => rfl, fun _ => S.nd, fun _ => rfl, fun _ => hr, fun _ => rfl⟩
  have sco : Sco (fX P w K mg base ["_law_purse_here", "_law_turn", "_law_many", "_law_parts", "_law_others", "_law_whole", "_law_plain", "_law_seen", "_law_all_here", "_law_x"] "_law_right" (defScope s_law_right) f cdv A outer s H E) ["_law_purse_here", "_law_turn", "_law_many", "_law_parts", "_law_others", "_law_whole", "_law_plain", "_law_seen", "_law_all_here", "_law_x"] (defScope s_law_right) := ⟨fun _ => rfl, fun _ => rfl⟩
  have k : GB (fX P w K mg base ["_law_purse_here", "_law_turn", "_law_many", "_law_parts", "_law_others", "_law_whole", "_law_plain", "_law_seen", "_law_all_here", "_law_x"] "_law_right" (defScope s_law_right) f cdv A outer s H E) (defBody s_law_right) [some (purse r a b), none, none, none, none, none, none, none, none, none] (.rt (cB true)) := by
    refine gb_cons (gs_for (env := fun s : Int × Int => [some (purse r s.1 s.2), none, none, none, none, none, none, none, none, none]) (its := List.range 2) (ic := fun i : Nat => [cI (i : Int)]) (s0 := (a, b)) (fun s _ => ((rdB s.1 s.2).2.1, (rdB s.1 s.2).2.2)) o (gi_rngN (n := 2) 2 o T.Fr.range ge_int rfl) (gg_name o 1) fun pre i post e => ?_) ?_
    · generalize pre.foldl (fun (s : Int × Int) (_ : Nat) => ((rdB s.1 s.2).2.1, (rdB s.1 s.2).2.2)) (a, b) = st
      obtain ⟨a, b⟩ := st
      obtain ⟨⟨n1, n2⟩, dp, dq⟩ := dom_rd a b
      have g := G _ _ _ n1 n2 dp dq
      obtain ⟨d3, d4⟩ := draw_rng (a := (rdA a b).2.1) (b := (rdA a b).2.2) (m := 4) (by decide)
      refine gb_cons (gs_setM 2 o (c := cI (rdN a b)) (gem_add ge_int (gem_draw (u := a) (v := b) 0 o T.draw ge_int (by decide) (by decide)))) ?_
      refine gb_cons (gs_asgM (l := [cS (rdA a b).1, cS (rdB a b).1]) o (gem_tup2 (gem_amounts (u := (rdD a b).2.1) (v := (rdD a b).2.2) (many := rdN a b) (most := 4) 0 o T.am (ge_var 2) (gem_of ge_int) ⟨by omega, by omega, by decide, by decide⟩)
        (gem_amounts (u := (rdE a b).2.1) (v := (rdE a b).2.2) (many := rdN a b) (most := 1 + (rdE a b).1) 0 o T.am (ge_var 2) (gem_add ge_int (gem_draw (u := (rdA a b).2.1) (v := (rdA a b).2.2) 0 o T.draw ge_int (by decide) (by decide))) ⟨by omega, by omega, by unfold rdE; omega, by unfold rdE; omega⟩)) (gg_two o 3 4)) ?_
      show GB _ _ [some (purse r (rdB a b).2.1 (rdB a b).2.2), some (.im (cI (i : Int))), some (.im (cI (rdN a b))), some (.im (cS (rdA a b).1)), some (.im (cS (rdB a b).1)), none, none, none, none, none] (.nx [some (purse r (rdB a b).2.1 (rdB a b).2.2), none, none, none, none, none, none, none, none, none])
      generalize (rdB a b).2.1 = a', (rdB a b).2.2 = b' at *
      generalize rdN a b = n, (rdA a b).1 = p, (rdB a b).1 = q at *
      obtain ⟨lp, np, sp⟩ := dp
      obtain ⟨lq, nq, sq⟩ := dq
      refine gb_cons (gs_par 5 6 o (ga_cons (ge_callA (p, q, 9) o T.larr (ga_cons (ge_var 3) (ga_cons (ge_var 4) (ga_one ge_int))) ⟨lp, g.a9⟩) (ga_one (ge_callA (p, q, 1) o T.larr (ga_cons (ge_var 3) (ga_cons (ge_var 4) (ga_one ge_int))) ⟨lp, g.a1⟩)))) ?_
      refine gb_cons (gs_set 7 o (ge_lst (l := [cI (LA p q 9), cI (LA p q 9)]) (ga_cons (ge_eq (ge_callA (p, q) o T.mgn (ga_cons (ge_var 3) (ga_one (ge_var 4))) g.m1) (congrArg cI g.e1)) (ga_one (ge_eq (ge_marginK o T.mgD T.Cn T.cm T.arr (ge_var 3) (ge_var 4) g.m2) (congrArg cI g.e2)))))) ?_
      refine gb_cons (gs_skip (gt_is (gt_neD (d1 := .list [.int (LA p q 9), .int (LA p q 9)]) (d2 := .list [.int (LA p q 9), .int (LA p q 9)]) o (dc_L (.cons dc_I (.cons dc_I .nil))) (dc_L (.cons dc_I (.cons dc_I .nil))) rfl rfl (ge_var 7) (ge_lst (ga_cons (ge_var 5) (ga_one (ge_var 5))))) (by rw [refl2 rfl] <;> rfl))) ?_
      refine gb_cons (gs_skip (gt_is (gt_neD (d1 := .list [.int (LA p q 1), .int (LA p q 1)]) (d2 := .list [.int (LA p q 1), .int (LA p q 1)]) o (dc_L (.cons dc_I (.cons dc_I .nil))) (dc_L (.cons dc_I (.cons dc_I .nil))) rfl rfl
        (ge_lst (ga_cons (ge_eq (ge_callA (p, q) o T.zo (ga_cons (ge_var 3) (ga_one (ge_var 4))) g.z1) (congrArg cI g.e3)) (ga_one (ge_eq (ge_callA (q, p) o T.zo (ga_cons (ge_var 4) (ga_one (ge_var 3))) g.z2) (congrArg cI g.e4))))) (ge_lst (ga_cons (ge_var 6) (ga_one (ge_var 6))))) (by rw [refl2 rfl] <;> rfl))) ?_
      obtain ⟨m, hm, gl⟩ := g.sh
      refine gb_cons (gs_set 8 o (ge_callA (n, m) o T.so (ga_one (ge_var 2)) ⟨⟨by show 0 ≤ n; omega, by show n ≤ 12; omega⟩, hm⟩)) ?_
      dsimp only
      generalize (runA m ([], [([], n, n)])).1 = L at gl ⊢
      have hL := gl.len
      refine gb_cons (gs_skip (gt_is (gt_neI (ge_sumOf (its := L) (f := fun x => tables x p * tables x q) o T.Fr (ge_lc0 sco [("_law_x", 9)] o (ic := fun x : List Int => [cS x]) (gi_tup o (ge_var 8)) (gg_name (cok_blk o) 9)
        (fun x hx => ge_mul (ge_callA (x, p) (cok_blk o) T.tc (ga_cons (ge_var 9) (ga_one (ge_var 3))) ⟨(gl.x1 x hx).1, ⟨by show (p.length : Int) ≤ 12; omega, np⟩, (gl.x1 x hx).2.1, gl.u1 x hx⟩) (ge_callA (x, q) (cok_blk o) T.tc (ga_cons (ge_var 9) (ga_one (ge_var 4))) ⟨(gl.x1 x hx).1, ⟨by show (q.length : Int) ≤ 12; omega, nq⟩, (gl.x1 x hx).2.2, gl.u2 x hx⟩) (gl.m1 x hx)) (by omega))) (ge_var 5)) (by rw [decide_eq_true gl.s9] <;> rfl))) ?_
      refine gb_cons (gs_skip (gt_is (gt_neI (ge_sumOf (its := L) (f := fun x => tables x p * tables (flip1 x) q) o T.Fr (ge_lc0 sco [("_law_x", 9)] o (ic := fun x : List Int => [cS x]) (gi_tup o (ge_var 8)) (gg_name (cok_blk o) 9)
        (fun x hx => ge_mul (ge_callA (x, p) (cok_blk o) T.tc (ga_cons (ge_var 9) (ga_one (ge_var 3))) ⟨(gl.x1 x hx).1, ⟨by show (p.length : Int) ≤ 12; omega, np⟩, (gl.x1 x hx).2.1, gl.u1 x hx⟩) (ge_callA (flip1 x, q) (cok_blk o) T.tc (ga_cons (ge_callA x (cok_blk o) T.fl (ga_one (ge_var 9)) (gl.x1 x hx).1) (ga_one (ge_var 4))) ⟨(gl.x2 x hx).1, ⟨by show (q.length : Int) ≤ 12; omega, nq⟩, (gl.x2 x hx).2, gl.u3 x hx⟩) (gl.m2 x hx)) (by omega))) (ge_var 6)) (by rw [decide_eq_true gl.s1] <;> rfl))) ?_
      refine gb_cons (gs_skip (gt_is (gt_neD (d1 := .list [.tuple [.int (LA p q 9), .int 1], .tuple [.int (LA p q 1), .int 1]]) (d2 := .list [.tuple [.int (LA p q 9), .int 1], .tuple [.int (LA p q 1), .int 1]]) o (dc_L (.cons dc_F (.cons dc_F .nil))) (dc_L (.cons (dc_T (.cons dc_I (.cons dc_I .nil))) (.cons (dc_T (.cons dc_I (.cons dc_I .nil))) .nil))) rfl rfl
        (ge_lst (ga_cons (ge_eq (ge_callA (false, p, q) o T.he (ga_cons (ge_var 3) (ga_cons (ge_var 4) (ga_one ge_str))) g.h1) (congrArg (fun z => cF K z 1) g.h3)) (ga_one (ge_eq (ge_callA (true, p, q) o T.he (ga_cons (ge_var 3) (ga_cons (ge_var 4) (ga_one ge_str))) g.h2) (congrArg (fun z => cF K z 1) g.h4)))))
        (ge_lst (ga_cons (ge_tup (ga_cons (ge_var 5) (ga_one ge_int))) (ga_one (ge_tup (ga_cons (ge_var 6) (ga_one ge_int))))))) (by rw [refl2 rfl] <;> rfl))) ?_
      have lfp := shp_len g.fp.1
      refine gb_cons (gs_skip (gt_is (gt_neD (d1 := .list []) (d2 := .list []) o (dc_L .nil) (dc_L .nil) rfl rfl (ge_eq (ge_lc (its := L) (pr := fun _ => false) (ec := cS) sco [("_law_x", 9)] o (ic := fun x : List Int => [cS x]) (gi_tup o (ge_var 8)) (gg_name (cok_blk o) 9)
        (fun x hx => gts_one (gt_is (gt_neB (ge_gt (ge_callA (x, p) (cok_blk o) T.tc (ga_cons (ge_var 9) (ga_one (ge_var 3))) ⟨(gl.x1 x hx).1, ⟨by show (p.length : Int) ≤ 12; omega, np⟩, (gl.x1 x hx).2.1, gl.u1 x hx⟩) ge_int) (ge_callA (x, fallen p) (cok_blk o) T.hv (ga_cons (ge_var 9) (ga_one (ge_callA p (cok_blk o) T.fa (ga_one (ge_var 3)) (by show p.length ≤ 1000; omega)))) ⟨⟨(gl.x1 x hx).1, g.fp.1⟩, by show x.sum = (fallen p).sum; rw [g.fp.2, (gl.x1 x hx).2.1]⟩)) (by show (!decide (decide (0 < tables x p) = decide (lightV x (fallen p) = .non))) = false; rw [gl.hv x hx, decide_eq_true rfl] <;> rfl)))
        (fun x hx h => nomatch h) (by omega)) (by rw [List.filter_eq_nil_iff.mpr (fun _ _ => Bool.false_ne_true)] <;> rfl)) (ge_lst ga_nil)) (by rw [refl2 rfl] <;> rfl))) ?_
      refine gb_cons (gs_skip (gt_is (gt_neB (ge_gt (ge_var 6) ge_int) (ge_callA (flip1 (fallen q), fallen p) o T.hv (ga_cons (ge_callA (fallen q) o T.fl (ga_one (ge_callA q o T.fa (ga_one (ge_var 4)) (by show q.length ≤ 1000; omega))) g.fq.1) (ga_one (ge_callA p o T.fa (ga_one (ge_var 3)) (by show p.length ≤ 1000; omega)))) ⟨⟨g.fq.2.1, g.fp.1⟩, g.fq.2.2⟩)) (by show (!decide (decide (0 < LA p q 1) = decide (lightV (flip1 (fallen q)) (fallen p) = .non))) = false; rw [g.lst, decide_eq_true rfl] <;> rfl))) ?_
      exact gb_post gb_nil (le_same (le_none (le_none (le_none (le_none (le_none (le_none (le_none (le_none (le_none le_nil))))))))))
    · refine gb_ret (ge_eq (ge_eqD (d1 := .list [.int 0, .int 0, .int 1]) (d2 := .list [.int 0, .int 0, .int 1]) o (dc_L (.cons dc_I (.cons dc_I (.cons dc_I .nil)))) (dc_L (.cons dc_I (.cons dc_I (.cons dc_I .nil)))) rfl rfl
        (ge_lst (ga_cons (ge_eq (ge_callA ([1], [2]) o T.mgn (ga_cons (ge_tup (ga_one ge_int)) (ga_one (ge_tup (ga_one ge_int)))) LO.o1) (congrArg cI LO.v1)) (ga_cons (ge_eq (ge_callA ([2], [2]) o T.zo (ga_cons (ge_tup (ga_one ge_int)) (ga_one (ge_tup (ga_one ge_int)))) LO.o2) (congrArg cI LO.v2)) (ga_one (ge_eq (ge_callA ([0, 2], [2]) o T.mgn (ga_cons (ge_tup (ga_cons ge_int (ga_one ge_int))) (ga_one (ge_tup (ga_one ge_int)))) LO.o3) (congrArg cI LO.v3))))))
        (ge_lst (ga_cons ge_int (ga_cons ge_int (ga_one ge_int))))) (by rw [refl2 rfl]))
  obtain ⟨t, pt, vt⟩ := k
  refine ⟨t, PSs.nox (pt ()), vt (fun _ => none) _ (fun _ => none) H _ _ (env_startM (N := ["_law_purse_here", "_law_turn", "_law_many", "_law_parts", "_law_others", "_law_whole", "_law_plain", "_law_seen", "_law_all_here", "_law_x"]) (l := []) (fun _ _ e => nomatch e) rfl hp (ints_sats [a, b]) .nil) fun v B' H' g' sv => ?_⟩
  obtain rfl : v = V.bl true := sv
  refine q H' (fun z u hz hu => g'.h _ _ ?_)
  show (if z = r then none else H z) = some u
  rw [if_neg hz]
  exact hu
end
end Ws
set_option Elab.async false
set_option linter.all false
set_option maxRecDepth 100000
set_option maxHeartbeats 4000000
namespace Ws
open PySem PySem.Spec L2
/-- the script: a list of ints -/
def cQ (K : PySem.W.Frag) (ns : List Int) : Cell := ⟨fun B v => ∃ p, v = .ref p ∧ SqL K B p (ns.map V.int), fun x ⟨p, e, h⟩ => ⟨p, e, x.sqL h⟩⟩
section
variable {I : Type} {X : I → Cx} {K : PySem.W.Frag} {mg : Str → Option Value} {k m : Nat} {cs cs' : Cs} {x y : Str} {a b e : Expr} {es : List Expr} {pos p p1 p3 : Pos} {ns : List Int} {l : List Cell} {st : Stmt} {sts : List Stmt}
theorem ge_lenQ (ok : Cok X K mg k) (Fr : Frees mg) (ha : GE X e cs (cQ K ns)) (hs : ∀ j, starEach [e] (X j).env = (false, eval e (X j).env) :: starEach [] (X j).env := by intro _; rfl) (hg : ∀ j, Gl (X j) "len" := by intro _; rfl) : GE X (.Call (.Name "len" p) [e] [] pos) cs (cI ns.length) :=
  ge_cB ok (cr_len ok) (rc_pure fun B H vs s hs => by
    obtain ⟨v, rfl, q, rfl, hp⟩ := sats1 hs
    exact ⟨.int ns.length, rfl, fun Q h => ⟨q, _, rfl, .inl ((same_xt s).sqL hp), by rw [List.length_map]; exact h⟩⟩) Fr.len (ga_one ha hs) PySem.boot_len hg (by decide) (by decide) hs (fun _ => rfl)
theorem ge_ixQ {j : Int} (n : Nat) (ok : Cok X K mg k) (ha : GE X a cs (cQ K ns)) (hb : GE X b cs (cI j)) (hj : j = (n : Int)) (hn : n < ns.length) (hp : PlainIx b := by intro _ _; rfl) : GE X (.Subscript a b pos) cs (cI (ns.getD n 0)) :=
  ge_ixR (ix := fun j => by have h := ix_list (X := X j); rw [ok.K j] at h; exact h) (fun B H x y Q s hx hy q => by
    obtain ⟨z, rfl, hz⟩ := hx
    obtain rfl : y = V.int j := hy
    subst hj
    exact ⟨z, _, _, .int (ns.getD n 0), rfl, rfl, (same_xt s).sqL hz, atI_nat (by rw [List.getElem?_map, List.getElem?_eq_getElem hn, List.getD_eq_getElem?_getD, List.getElem?_eq_getElem hn] <;> rfl), q _ B H (Step.refl s) rfl⟩) ha hb hp
def cut5 (xs : List Int) : List Int := (xs.drop (HT.sIx xs.length 0 none)).take (HT.sIx xs.length xs.length (some 5) - HT.sIx xs.length 0 none)
theorem cut_map (xs : List Int) : cutV (xs.map V.int) none (some 5) = (cut5 xs).map V.int := by
  unfold cutV cut5
  rw [List.length_map, List.map_take, List.map_drop]
theorem ge_cutQ {kk : Nat} (ok : Cok X K mg k) (ha : GE X e cs (cQ K ns)) : GE X (.Subscript e (.Slice none (some (.Constant (.int 5) kk p1)) none p3) pos) cs (cL ((cut5 ns).map cI)) := by
  obtain ⟨t, pt, v⟩ := ha
  refine ⟨tSl (rSlL K) t tNoPart (tPart (tC (.int 5))), fun j => by have h := pe_slice (X := X j) (p2 := p3) (pos := pos) sl_list (pt j) po_none (po_some (pe_int (j := kk) (pos := p1) (i := 5))); rw [ok.K j] at h; exact h, fun B0 H0 B H σ Q E q => v B0 H0 B H σ _ E fun w B1 H1 g1 s1 => ?_⟩
  obtain ⟨z, rfl, hz⟩ := s1
  refine ⟨5, rfl, z, _, rfl, (same_xt g1.bh).sqL hz, fun t ht => ?_⟩
  have g := Step.new (o := .lst (cutV (ns.map V.int) none (some 5))) g1.bh ht
  exact q _ _ _ (g1.trans g) ⟨t, _, rfl, upd_same, by rw [cut_map]; exact ints_sats _⟩
/-- a body that returns a new list -/
def GBf (X : I → Cx) (sts : List Stmt) (cs : Cs) (l : List Cell) : Prop := ∃ t, (∀ i, PSs (X i) sts t) ∧ ∀ (B0 H0 B H : Hp) (σ : St) (D : Ends), Env B0 H0 B H σ cs → (∀ r vs B' H', Step B0 H0 B' H' → H0 r = none → B' r = none → H' r = some (.lst vs) → Sats B' vs l → D.rt (.ref r) H') → t D σ H
theorem gbf_cons (h1 : GS X st cs (.nx cs')) (h2 : GBf X sts cs' l) : GBf X (st :: sts) cs l := by
  obtain ⟨t, pt, vt⟩ := h1
  obtain ⟨u, pu, vu⟩ := h2
  exact ⟨tSeq t u, fun j => pss_cons (pt j) (pu j), fun B0 H0 B H σ D E W => vt B0 H0 B H σ _ E fun B' H' σ' E' => vu B0 H0 B' H' σ' D E' W⟩
theorem gbf_ret (h : GA X es cs l) (hl : l.length ≤ 1000 := by exact Nat.le_of_ble_eq_true rfl) : GBf X [.Return (some (.List es p)) pos] cs l := by
  obtain ⟨t, pt, v⟩ := h
  refine ⟨tRet (tLst t), fun j => pss_one (ps_ret (pe_lst (pt j))), fun B0 H0 B H σ D E W => v B0 H0 B H σ _ E fun vs B' H' g s => ⟨?_, fun r hr => ?_⟩⟩
  · rw [sats_len s]
    exact Nat.le_of_lt (small1000 hl)
  · have E' := E.go g
    exact W r vs B' _ ⟨E'.st.b, E'.st.h.trans (same_new hr), E'.bh.trans (same_new hr), E'.st.nw⟩ (same_none E'.st.h hr) (same_none E'.bh hr) upd_same s
end
section
variable {K : PySem.W.Frag} {mg : Str → Option Value}
def spPurse (K : PySem.W.Frag) : Sp := fun vs H Q _ => ∃ (v : V) (ns : List Int) (i : Nat) (B : Hp), vs = [v, .int (i : Int)] ∧ i ≤ 1000 ∧ (cQ K ns).sat B v ∧ Same B H ∧ ∀ (a b : Int) r B' H', Step B H B' H' → H r = none → B' r = none → H' r = some (.lst [.int a, .int b]) → Q (.ref r) H'
theorem ok_purse {f : Addr} {fd : FuncData} (Fr : Frees mg) (F : FunD K "_law_purse" "_law_purse" (defArgs s_law_purse) (defBody s_law_purse) (defScope s_law_purse) [] [] f fd) (P : Program) (w : World) (base : Heap) : FnOk P w K mg base CX0 1 f fd ["_law_script", "_law_spot"] (spPurse K) := by
  have S : FnScope ["_law_script", "_law_spot", "_law_cell", "_law_seed", "_law_one"] ["_law_script", "_law_spot"] (defScope s_law_purse) := ⟨rfl, rfl, rfl, by decide +kernel, rfl, by decide +kernel, by decide +kernel⟩
  refine F.ok S (fun vs H Q E ⟨_, _, _, _, h, _⟩ => by rw [h] <;> rfl) fun cdv A outer s H vs Q E hr h => ?_
  obtain ⟨v, ns, i, B, rfl, hi, hv, sb, q⟩ := h
  have o : Cok (fX P w K mg base ["_law_script", "_law_spot", "_law_cell", "_law_seed", "_law_one"] "_law_purse" (defScope s_law_purse) f cdv A outer s H E) K mg 0 := ⟨fun _ => rfl, fun _ => rfl, fun _ => S.nd, fun _ => rfl, fun _ => hr, fun _ => rfl⟩
  have k : ∃ a b : Int, GBf (fX P w K mg base ["_law_script", "_law_spot", "_law_cell", "_law_seed", "_law_one"] "_law_purse" (defScope s_law_purse) f cdv A outer s H E) (defBody s_law_purse) [some (.im (cQ K ns)), some (.im (cI (i : Int))), none, none, none] [cI a, cI b] := by
    let cell : Int := if i < ns.length then ns.getD i 0 else 6679 * ((i : Int) + 5)
    let ab : Int := if cell < 0 then -cell else cell
    let its : List Int := cut5 ns ++ [cell]
    let stp : Int → Int → Int := fun seed one => (seed * 35219 + one % 2147483647 + 101) % 2147483647
    refine ⟨if (10 : Int) ^ (18 : Int).toNat ≤ ab then ab else 0, its.foldl stp (967 + (i : Int)), gbf_cons (gs_set 2 o (c := cI cell) (ge_if (i := decide (i < ns.length)) (gt_is (gt_lt (ge_var 1) (ge_lenQ o Fr (ge_var 0))) ?_) (fun h => ?_) (fun h => ?_))) (gbf_cons (gs_set 3 o (ge_add ge_int (ge_var 1))) (gbf_cons (gs_for (env := fun t : Int => [some (.im (cQ K ns)), some (.im (cI (i : Int))), some (.im (cI cell)), some (.im (cI t)), none]) (its := its) (ic := fun n : Int => [cI n]) (s0 := 967 + (i : Int)) stp o
      (gi_eq (gi_list o (ge_catM (f := cI) (xs := cut5 ns) (ys := [cell]) (ge_cutQ o (ge_var 0)) (ge_lst (ga_one (ge_var 2))) ?_)) rfl) (gg_name o 4) fun pre n post e => ?_) (gbf_ret (ga_cons (ge_if (i := decide ((10 : Int) ^ (18 : Int).toNat ≤ ab)) (gt_ge (ge_abs o Fr.abs (ge_var 2)) (ge_pow ge_int ge_int ⟨by decide, by decide, by decide⟩)) (fun h => ?_) (fun h => ?_)) (ga_one (ge_var 3))))))⟩
    · by_cases z : i < ns.length
      · rw [decide_eq_true z, decide_eq_true (by omega)]
      · rw [decide_eq_false z, decide_eq_false (by omega)]
    · have h := of_decide_eq_true h
      show GE _ _ _ (cI (if i < ns.length then ns.getD i 0 else 6679 * ((i : Int) + 5)))
      rw [if_pos h]
      exact ge_ixQ i o (ge_var 0) (ge_var 1) rfl h
    · have h := of_decide_eq_false h
      show GE _ _ _ (cI (if i < ns.length then ns.getD i 0 else 6679 * ((i : Int) + 5)))
      rw [if_neg h]
      exact ge_mul ge_int (ge_add (ge_var 1) ge_int) (.inl ⟨by decide, by decide⟩)
    · have : (cut5 ns).length ≤ 5 := by
        unfold cut5
        rw [List.length_take]
        have : HT.sIx ns.length ns.length (some 5) = min 5 ns.length := HT.sIx_nat _ _ 5
        omega
      rw [List.length_cons, List.length_nil]
      omega
    · generalize pre.foldl stp (967 + (i : Int)) = t
      exact gb_post (gb_one (gs_set 3 o (ge_mod (ge_intI o Fr.int (ge_add (ge_add (ge_mul (ge_var 3) ge_int (.inr ⟨by decide, by decide⟩)) (ge_mod (ge_intI o Fr.int (ge_var 4)) ge_int (by decide))) ge_int)) ge_int (by decide)))) (le_same (le_same (le_same (le_same (le_none le_nil)))))
    · rw [if_pos (of_decide_eq_true h)]
      exact ge_abs o Fr.abs (ge_var 2)
    · rw [if_neg (of_decide_eq_false h)]
      exact ge_int
  obtain ⟨a, b, t, pt, vt⟩ := k
  refine ⟨t, PSs.nox (pt ()), vt B H B H _ _ (env_start (N := ["_law_script", "_law_spot", "_law_cell", "_law_seed", "_law_one"]) (l := [cQ K ns, cI (i : Int)]) sb (.cons hv (.cons rfl .nil))) fun r vs B' H' g h0 hb hh ss => ?_⟩
  rw [ints2 ss] at hh
  exact q a b r B' H' g h0 hb hh
def spLaw (K : PySem.W.Frag) : Sp := fun vs H Q _ => ∃ (p : Addr) (ns : List Int), vs = [.ref p] ∧ SqL K H p (ns.map V.int) ∧ ∀ H', Q (.bl true) H'
theorem ok_law {f fp fr : Addr} {fd fdp fdr : FuncData} (T : Kit K mg) (LO : LastOk) (G : ∀ n p q, 1 ≤ n → n ≤ 6 → Dom1 n p → Dom1 n q → Good n p q)
    (F : FunD K "law" "law" (defArgs s_law) (defBody s_law) (defScope s_law) [] [] f fd)
    (mP : mg "_law_purse" = some (.ref fp)) (Fp : FunD K "_law_purse" "_law_purse" (defArgs s_law_purse) (defBody s_law_purse) (defScope s_law_purse) [] [] fp fdp)
    (mR : mg "_law_right" = some (.ref fr)) (Fr : FunD K "_law_right" "_law_right" (defArgs s_law_right) (defBody s_law_right) (defScope s_law_right) [] [] fr fdr) (P : Program) (w : World) (base : Heap) : FnOk P w K mg base CX0 12 f fd ["_law_script"] (spLaw K) := by
  have S : FnScope ["_law_script", "_law_spot"] ["_law_script"] (defScope s_law) := ⟨rfl, rfl, rfl, by decide +kernel, rfl, by decide +kernel, by decide +kernel⟩
  refine F.ok S (fun vs H Q E ⟨_, _, h, _⟩ => by rw [h] <;> rfl) fun cdv A outer s H vs Q E hr h => ?_
  obtain ⟨p, ns, rfl, hS, q⟩ := h
  have o : Cok (fX P w K mg base ["_law_script", "_law_spot"] "law" (defScope s_law) f cdv A outer s H E) K mg 11 := ⟨fun _ => rfl, fun _ => rfl, fun _ => S.nd, fun _ => rfl, fun _ => hr, fun _ => rfl⟩
  have sco : Sco (fX P w K mg base ["_law_script", "_law_spot"] "law" (defScope s_law) f cdv A outer s H E) ["_law_script", "_law_spot"] (defScope s_law) := ⟨fun _ => rfl, fun _ => rfl⟩
  have bp : Binds K fdp ["_law_script", "_law_spot"] [] := Fp.bindsN fun _ _ _ _ _ _ us hl => match us, hl with | [_, _], _ => rfl
  have br : Binds K fdr ["_law_purse_here"] [] := Fr.bindsN fun _ _ _ _ _ _ us hl => match us, hl with | [_], _ => rfl
  have k : GB (fX P w K mg base ["_law_script", "_law_spot"] "law" (defScope s_law) f cdv A outer s H E) (defBody s_law) [some (.im (cQ K ns)), none] (.rt (cB true)) := by
    refine gb_ret (ge_eq (ge_allOf (its := List.range (max 2 (min ns.length 3))) (f := fun _ => true) o T.Fr (ge_lc0 sco [("_law_spot", 1)] o (ic := fun i : Nat => [cI (i : Int)]) (gi_rngN (n := max 2 (min (ns.length : Int) 3)) _ o T.Fr.range (ge_max2 o T.Fr.max ge_int (ge_min2 o T.Fr.min (ge_lenQ o T.Fr (ge_var 0)) ge_int)) (by omega)) (gg_name (cok_blk o) 1) (fun i hi => ?_) (by rw [List.length_range]; omega))) ?_)
    · have hi' := List.mem_range.mp hi
      refine ⟨tCall spRight [] E0 (tCons (tCall (spPurse K) [] E0 (tCons (tVar 0) (tCons (tVar 1) tNil))) tNil), fun j => pe_call (k := 11) (fd := fdr) (ps := ["_law_purse_here"]) (ds := []) (ok_right T LO G Fr _ _ _) hr rfl mR Fr.kp br .nil pass0
        (pa_cons (pe_call (k := 1) (fd := fdp) (ps := ["_law_script", "_law_spot"]) (ds := []) (ok_purse T.Fr Fp _ _ _) (hr.mono (by decide)) rfl mP Fp.kp bp .nil pass0 (pa_cons (pe_var (i := 0) rfl (by first | exact Or.inl rfl | exact Or.inr (Or.inl rfl) | exact Or.inr (Or.inr rfl)) (by decide) (by decide)) (pa_cons (pe_var (i := 1) rfl (by first | exact Or.inl rfl | exact Or.inr (Or.inl rfl) | exact Or.inr (Or.inr rfl)) (by decide) (by decide)) pa_nil))) pa_nil), fun B0 H0 B H1 σ Q1 E1 q1 => ?_⟩
      obtain ⟨v, h1, h2⟩ := E1.im (i := 0) (c := cQ K ns) rfl
      obtain ⟨z, h3, h4⟩ := E1.im (i := 1) (c := cI (i : Int)) rfl
      obtain rfl : z = V.int (i : Int) := h4
      refine ⟨_, h1, _, h3, v, ns, i, B, rfl, by omega, h2, E1.bh, fun a b r B' H' g hr0 hb hh => ⟨r, a, b, rfl, hh, fun H'' hx => q1 (.bl true) B' H'' ⟨g.b, fun z u hz => hx _ _ (ne_of_none hz hr0) (g.h _ _ hz), fun z u hz => hx _ _ (ne_of_none hz hb) (g.bh _ _ hz), g.nw⟩ rfl⟩⟩
    · rw [List.all_eq_true.mpr (fun _ _ => rfl)]
  obtain ⟨t, pt, vt⟩ := k
  exact ⟨t, PSs.nox (pt ()), vt H H H H _ _ (env_start (N := ["_law_script", "_law_spot"]) (l := [cQ K ns]) (Same.refl H) (.cons ⟨p, rfl, hS⟩ .nil)) fun v B' H' g sv => by
    obtain rfl : v = V.bl true := sv
    exact q H'⟩
end
end Ws
set_option Elab.async false
set_option linter.all false
set_option maxRecDepth 100000
set_option maxHeartbeats 0
/-! The small mathematics: tables, checks. -/
namespace Ws
open PySem PySem.Spec L2
def ShT : List (List (List Int)) := [
  [[]],
  [[1]],
  [[2], [1, 1]],
  [[3], [2, 1], [1, 1, 1]],
  [[4], [3, 1], [2, 2], [2, 1, 1], [1, 1, 1, 1]],
  [[5], [4, 1], [3, 2], [3, 1, 1], [2, 2, 1], [2, 1, 1, 1], [1, 1, 1, 1, 1]],
  [[6], [5, 1], [4, 2], [4, 1, 1], [3, 3], [3, 2, 1], [3, 1, 1, 1], [2, 2, 2], [2, 2, 1, 1], [2, 1, 1, 1, 1], [1, 1, 1, 1, 1, 1]]]
/-- below: by n, by what is taken, by the shape's place -/
def PT : List (List (List (List Nat))) := [
  [[[0]]],
  [[[0]], [[0]]],
  [[[0], [1]], [[0], [0]], [[0], []]],
  [[[0], [1], [2]], [[0], [0, 1], [1]], [[0], [0], []], [[0], [], []]],
  [[[0], [1], [2], [3], [4]], [[0], [0, 1], [1], [1, 2], [2]], [[0], [0, 1], [0], [1], []], [[0], [0], [], [], []], [[0], [], [], [], []]],
  [[[0], [1], [2], [3], [4], [5], [6]], [[0], [0, 1], [1, 2], [1, 3], [2, 3], [3, 4], [4]], [[0], [0, 1], [0, 1], [1, 2], [1], [2], []], [[0], [0, 1], [0], [1], [], [], []], [[0], [0], [], [], [], [], []], [[0], [], [], [], [], [], []]],
  [[[0], [1], [2], [3], [4], [5], [6], [7], [8], [9], [10]], [[0], [0, 1], [1, 2], [1, 3], [2], [2, 3, 4], [3, 5], [4], [4, 5], [5, 6], [6]], [[0], [0, 1], [0, 1, 2], [1, 3], [1], [1, 2, 3], [3, 4], [2], [3], [4], []], [[0], [0, 1], [0, 1], [1, 2], [0], [1], [2], [], [], [], []], [[0], [0, 1], [0], [1], [], [], [], [], [], [], []], [[0], [0], [], [], [], [], [], [], [], [], []], [[0], [], [], [], [], [], [], [], [], [], []]]]
def FLT : List (List Nat) := [[0], [0], [1, 0], [2, 1, 0], [4, 3, 2, 1, 0], [6, 5, 4, 3, 2, 1, 0], [10, 9, 8, 6, 7, 5, 3, 4, 2, 1, 0]]
def popsT : List Nat := [1, 2, 4, 7, 12, 19, 30]
def Sh (n : Nat) : List (List Int) := ShT.getD n []
def shp (n i : Nat) : List Int := (Sh n).getD i []
def pt (n t i : Nat) : List Nat := ((PT.getD n []).getD t []).getD i []
def fl (n i : Nat) : Nat := (FLT.getD n []).getD i 0
/-- how many tables: by the shape's place -/
def vec : Nat → List Int → List Nat
  | n, [] => if n = 0 then [1] else List.replicate (Sh n).length 0
  | n, t :: ts => let v := vec (n - t.toNat) ts; ((PT.getD n []).getD t.toNat []).map fun js => (js.map fun j => v.getD j 0).sum
/-- all lists of k naturals of sum at most n -/
def enumL : Nat → Nat → List (List Int)
  | 0, _ => [[]]
  | k + 1, n => (List.range (n + 1)).flatMap fun i => (enumL k (n - i)).map fun l => (i : Int) :: l
def DQ : List (List Int) := enumL 0 6 ++ (enumL 1 6 ++ (enumL 2 6 ++ (enumL 3 6 ++ enumL 4 6)))
theorem enum_mem : ∀ (k n : Nat) (l : List Int), l.length = k → (∀ x ∈ l, 0 ≤ x) → l.sum ≤ (n : Int) → l ∈ enumL k n
  | 0, n, l, h, _, _ => by
    rw [List.length_eq_zero_iff.mp h]
    exact List.mem_singleton.mpr rfl
  | k + 1, n, [], h, _, _ => by cases h
  | k + 1, n, x :: l, h, hp, hs => by
    have h1 := hp x List.mem_cons_self
    have h2 : ∀ y ∈ l, 0 ≤ y := fun y hy => hp y (List.mem_cons_of_mem _ hy)
    have h3 : 0 ≤ l.sum := by
      clear hs h hp
      induction l with
      | nil => exact Int.le_refl _
      | cons y l ih =>
        rw [List.sum_cons]
        have := h2 y List.mem_cons_self
        have := ih fun z hz => h2 z (List.mem_cons_of_mem _ hz)
        omega
    rw [List.sum_cons] at hs
    have hx : ((x.toNat : Nat) : Int) = x := Int.toNat_of_nonneg h1
    refine List.mem_flatMap.mpr ⟨x.toNat, List.mem_range.mpr (by omega), List.mem_map.mpr ⟨l, enum_mem k (n - x.toNat) l (Nat.succ.inj h) h2 (by omega), by rw [hx]⟩⟩
theorem dq_mem {l : List Int} (h1 : l.length ≤ 4) (h2 : ∀ x ∈ l, 0 ≤ x) (h3 : l.sum ≤ 6) : l ∈ DQ := by
  have h := enum_mem l.length 6 l rfl h2 h3
  unfold DQ
  simp only [List.mem_append]
  match hl : l.length, h1 with
  | 0, _ => rw [hl] at h; exact .inl h
  | 1, _ => rw [hl] at h; exact .inr (.inl h)
  | 2, _ => rw [hl] at h; exact .inr (.inr (.inl h))
  | 3, _ => rw [hl] at h; exact .inr (.inr (.inr (.inl h)))
  | 4, _ => rw [hl] at h; exact .inr (.inr (.inr (.inr h)))
/-! checks by the kernel -/
/-- the tables say what the program's functions say -/
theorem ck_parts : ((List.range 7).all fun n => (List.range (n + 1)).all fun t => (List.range (Sh n).length).all fun i => okParts (shp n i) t && (decide ((partsB (shp n i) t).length ≤ 1000) && decide (partsB (shp n i) t = (pt n t i).map (shp (n - t))))) = true := by decide +kernel
theorem ck_lt : ((List.range 7).all fun n => (List.range (n + 1)).all fun t => (List.range (Sh n).length).all fun i => (pt n t i).all fun j => decide (j < (Sh (n - t)).length)) = true := by decide +kernel
theorem ck_dims : ((List.range 7).all fun n => (List.range (n + 1)).all fun t => decide (((PT.getD n []).getD t []).length = (Sh n).length)) = true := by decide +kernel
theorem ck_flip : ((List.range 7).all fun n => (List.range (Sh n).length).all fun i => decide (flip1 (shp n i) = shp n (fl n i)) && (decide (fl n i < (Sh n).length) && (decide (fl n (fl n i) = i) && (shpB 40 (shp n i) && decide ((shp n i).sum = (n : Int)))))) = true := by decide +kernel
theorem ck_all : ((List.range 7).all fun n => okA ([], [([], (n : Int), (n : Int))]) (popsT.getD n 0) && decide ((runA (popsT.getD n 0) ([], [([], (n : Int), (n : Int))])).1 = Sh n)) = true := by decide +kernel
end Ws
set_option Elab.async false
set_option linter.all false
set_option maxRecDepth 100000
set_option maxHeartbeats 0
/-! The small mathematics: the checks on all small lists. -/
namespace Ws
open PySem PySem.Spec L2
def okD (l : List Int) : Bool := decide (l.length ≤ 4) && ((l.all fun x => decide (0 ≤ x)) && decide (l.sum ≤ 6))
def nOf (q : List Int) : Nat := q.sum.toNat
theorem ck_okr : (DQ.all fun q => (List.range 7).all fun t => okRows t (q.map fun r => min 12 r) && (okRows t (q.map fun r => min 1 r) && (okLR t q 9 && okLR t q 1))) = true := by decide +kernel
theorem ck_same : (DQ.all fun q => (List.range 7).all fun t => decide (rowsOf t (q.map fun r => min 12 r) = lawRows t q 9) && decide (rowsOf t (q.map fun r => min 1 r) = lawRows t q 1)) = true := by decide +kernel
theorem ck_in : (DQ.all fun q => (List.range 7).all fun t => ((lawRows t q 9).all fun row => okD (subL q row) && (decide ((subL q row).sum = q.sum - t) && decide ((subL q row).length = q.length))) && (lawRows t q 1).all fun row => okD (subL q row) && (decide ((subL q row).sum = q.sum - t) && decide ((subL q row).length = q.length))) = true := by decide +kernel
end Ws
set_option Elab.async false
set_option linter.all false
set_option maxRecDepth 100000
set_option maxHeartbeats 0
/-! The small mathematics: the checks of the sums. -/
namespace Ws
open PySem PySem.Spec L2
def col (vs : List (List Nat)) (m : Nat) : List Nat := vs.foldl (fun acc v => List.zipWith (· + ·) acc v) (List.replicate m 0)
def rhs9 (n t : Nat) (v : List Nat) : List Nat := (List.range (Sh (n - t)).length).map fun j => ((List.range (Sh n).length).map fun i => (pt n t i).count j * v.getD i 0).sum
def flv (n : Nat) (v : List Nat) : List Nat := (List.range (Sh n).length).map fun i => v.getD (fl n i) 0
theorem ck_adj9 : (DQ.all fun q => (List.range (nOf q + 1)).all fun t => decide (col ((lawRows t q 9).map fun row => vec (nOf q - t) (subL q row)) (Sh (nOf q - t)).length = rhs9 (nOf q) t (vec (nOf q) q))) = true := by decide +kernel
theorem ck_adj1 : (DQ.all fun q => (List.range (nOf q + 1)).all fun t => decide (col ((lawRows t q 1).map fun row => flv (nOf q - t) (vec (nOf q - t) (subL q row))) (Sh (nOf q - t)).length = rhs9 (nOf q) t (flv (nOf q) (vec (nOf q) q)))) = true := by decide +kernel
theorem ck_len : (DQ.all fun q => decide ((vec (nOf q) q).length = (Sh (nOf q)).length) && (decide (vec (nOf q) q.reverse = vec (nOf q) q) && (vec (nOf q) q).all fun z => decide (z < 1000000))) = true := by decide +kernel
theorem ck_zero : (DQ.all fun q => !decide (q.sum = 0) || (decide (vec 0 q = [1]) && decide (q = List.replicate q.length 0))) = true := by decide +kernel
end Ws
set_option Elab.async false
set_option linter.all false
set_option maxRecDepth 100000
set_option maxHeartbeats 0
/-! The small mathematics: sorted by insertion, the mixtures. -/
namespace Ws
open PySem PySem.Spec L2
def insI (x : Int) : List Int → List Int
  | [] => [x]
  | y :: ys => if x ≤ y then x :: y :: ys else y :: insI x ys
def isortI (l : List Int) : List Int := l.foldr insI []
theorem insI_perm (x : Int) : ∀ l : List Int, (insI x l).Perm (x :: l)
  | [] => .refl _
  | y :: ys => by
    unfold insI
    split
    · exact .refl _
    · exact ((insI_perm x ys).cons y).trans (.swap x y ys)
theorem isortI_perm : ∀ l : List Int, (isortI l).Perm l
  | [] => .refl _
  | x :: l => (insI_perm x (isortI l)).trans ((isortI_perm l).cons x)
theorem insI_asc (x : Int) : ∀ l : List Int, l.Pairwise (· ≤ ·) → (insI x l).Pairwise (· ≤ ·)
  | [], _ => List.pairwise_singleton _ _
  | y :: ys, h => by
    obtain ⟨h1, h2⟩ := List.pairwise_cons.mp h
    unfold insI
    split
    · rename_i hx
      exact List.pairwise_cons.mpr ⟨fun z hz => by
        rcases List.mem_cons.mp hz with e | hz
        · rw [e]; exact hx
        · exact Int.le_trans hx (h1 z hz), h⟩
    · rename_i hx
      refine List.pairwise_cons.mpr ⟨fun z hz => ?_, insI_asc x ys h2⟩
      rcases List.mem_cons.mp ((insI_perm x ys).mem_iff.mp hz) with e | hz
      · rw [e]; omega
      · exact h1 z hz
theorem isortI_asc : ∀ l : List Int, (isortI l).Pairwise (· ≤ ·)
  | [] => .nil
  | x :: l => insI_asc x _ (isortI_asc l)
def fallenI (ns : List Int) : List Int := (isortI (ns.filter fun n => decide (0 < n))).reverse
theorem fallen_eq (ns : List Int) : fallen ns = fallenI ns := by
  unfold fallen fallenI
  have e1 : ((ns.filter fun n => decide (0 < n)).mergeSort fun a b => decide (a ≤ b)).Pairwise (· ≤ ·) := (List.pairwise_mergeSort (le := fun a b : Int => decide (a ≤ b)) (by intro x y z h1 h2; simp only [decide_eq_true_eq] at *; omega) (by intro x y; simp only [Bool.or_eq_true, decide_eq_true_eq]; omega) _).imp fun h => of_decide_eq_true h
  rw [PySem.W.ksm_same ((List.mergeSort_perm (ns.filter fun n => decide (0 < n)) _).trans (isortI_perm _).symm) e1 (isortI_asc _)]
def insP (q : List Int × Int) : DI → DI
  | [] => [q]
  | r :: rs => if HT.lexLt q.1 r.1 = true then q :: r :: rs else r :: insP q rs
def isortP (l : DI) : DI := l.foldr insP []
theorem insP_perm (x : List Int × Int) : ∀ l : DI, (insP x l).Perm (x :: l)
  | [] => .refl _
  | y :: ys => by
    unfold insP
    split
    · exact .refl _
    · exact ((insP_perm x ys).cons y).trans (.swap x y ys)
theorem isortP_perm : ∀ l : DI, (isortP l).Perm l
  | [] => .refl _
  | x :: l => (insP_perm x (isortP l)).trans ((isortP_perm l).cons x)
def ascB : DI → Bool
  | [] => true
  | q :: l => (l.all fun r => HT.lexLt q.1 r.1) && ascB l
theorem ascB_ok : ∀ {l : DI}, ascB l = true → l.Pairwise fun a b => HT.lexLt a.1 b.1 = true
  | [], _ => .nil
  | q :: l, h => by
    obtain ⟨h1, h2⟩ := Bool.and_eq_true_iff.mp h
    exact List.pairwise_cons.mpr ⟨fun r hr => List.all_eq_true.mp h1 r hr, ascB_ok h2⟩
theorem sortK_eq {l : DI} (hn : (l.map (·.1)).Nodup) (h : ascB (isortP l) = true) : sortK l = isortP l :=
  asc_eq ((List.mergeSort_perm l _).trans (isortP_perm l).symm) (sortK_asc hn) (ascB_ok h)
/-- what a mixture's terms are -/
def vecB (b : Bool) (n : Nat) (p : List Int) : List Nat := if b then flv n (vec n p) else vec n p
def outT (b : Bool) (n : Nat) (p : List Int) : DI := ((List.range (Sh n).length).reverse.filter fun j => !decide ((vecB b n p).getD j 0 = 0)).map fun j => (shp n j, (((vecB b n p).getD j 0 : Nat) : Int))
theorem ck_of : ((List.range 7).all fun n => (Sh n).all fun p => okOutB p && (okTerms [(p, 1)] && ([false, true].all fun b => decide (isortP (outI b p) = outT b n p) && (ascB (outT b n p) && okTerms (outT b n p))))) = true := by decide +kernel
def dotB (b : Bool) (n : Nat) (p q : List Int) : Nat := ((List.range (Sh n).length).map fun i => (vec n p).getD i 0 * (vecB b n q).getD i 0).sum
theorem ck_held : ((List.range 7).all fun n => (Sh n).all fun p => (Sh n).all fun q => [false, true].all fun b => decide (heldI (outT false n p) (outT b n q) = ((dotB b n p q : Nat) : Int)) && (outT false n p).all fun z => decide (-(2 ^ 64) < getI (outT b n q) z.1) && decide (getI (outT b n q) z.1 < 2 ^ 64)) = true := by decide +kernel
def isNon : V → Bool
  | .non => true
  | _ => false
theorem ck_light : ((List.range 7).all fun n => (List.range (Sh n).length).all fun i => (Sh n).all fun p => decide (decide (0 < (vec n p).getD i 0) = isNon (lightV (shp n i) p))) = true := by decide +kernel
theorem ck_lst : ((List.range 7).all fun n => (Sh n).all fun p => (Sh n).all fun q => decide (decide (0 < dotB true n p q) = isNon (lightV (flip1 q) p))) = true := by decide +kernel
theorem ck_fall : (DQ.all fun q => (Sh (nOf q)).contains (fallenI q) && decide (vec (nOf q) q = vec (nOf q) (fallenI q))) = true := by decide +kernel
end Ws
set_option Elab.async false
set_option linter.all false
set_option maxRecDepth 100000
set_option maxHeartbeats 4000000
/-! The small mathematics: sums. -/
namespace Ws
open PySem PySem.Spec L2
def sN {α : Type} (l : List α) (f : α → Nat) : Nat := (l.map f).sum
theorem sN_nil {α : Type} {f : α → Nat} : sN [] f = 0 := rfl
theorem sN_cons {α : Type} {a : α} {l : List α} {f : α → Nat} : sN (a :: l) f = f a + sN l f := by
  unfold sN
  rw [List.map_cons, List.sum_cons]
theorem sN_congr {α : Type} {l : List α} {f g : α → Nat} (h : ∀ a ∈ l, f a = g a) : sN l f = sN l g := by
  unfold sN
  rw [List.map_congr_left h]
theorem sN_zero {α : Type} : ∀ (l : List α), sN l (fun _ => 0) = 0
  | [] => rfl
  | a :: l => by rw [sN_cons, sN_zero l]
theorem sN_add {α : Type} {f g : α → Nat} : ∀ (l : List α), sN l (fun a => f a + g a) = sN l f + sN l g
  | [] => rfl
  | a :: l => by rw [sN_cons, sN_cons, sN_cons, sN_add l]; omega
theorem sN_mul {α : Type} {c : Nat} {f : α → Nat} : ∀ (l : List α), sN l (fun a => c * f a) = c * sN l f
  | [] => rfl
  | a :: l => by rw [sN_cons, sN_cons, sN_mul l, Nat.mul_add]
theorem sN_swap {α β : Type} {f : α → β → Nat} : ∀ (l : List α) (m : List β), sN l (fun a => sN m (f a)) = sN m fun b => sN l fun a => f a b
  | [], m => by
    rw [sN_nil]
    exact (sN_zero m).symm
  | a :: l, m => by
    rw [sN_cons, sN_swap l m, ← sN_add]
    exact sN_congr fun b _ => by rw [sN_cons]
theorem cast_sN {α : Type} {f : α → Nat} : ∀ (l : List α), ((sN l f : Nat) : Int) = (l.map fun a => ((f a : Nat) : Int)).sum
  | [] => rfl
  | a :: l => by rw [sN_cons, List.map_cons, List.sum_cons, ← cast_sN l]; omega
/-- one place of a range -/
theorem sN_one {m j : Nat} {f : Nat → Nat} (h : j < m) : sN (List.range m) (fun i => (if i = j then 1 else 0) * f i) = f j := by
  induction m with
  | zero => omega
  | succ m ih =>
    have e : sN (List.range (m + 1)) (fun i => (if i = j then 1 else 0) * f i) = sN (List.range m) (fun i => (if i = j then 1 else 0) * f i) + (if m = j then 1 else 0) * f m := by
      unfold sN
      rw [List.range_succ, List.map_append, List.sum_append]
      simp
    rw [e]
    by_cases q : m = j
    · subst q
      rw [if_pos rfl, Nat.one_mul]
      have z : sN (List.range m) (fun i => (if i = m then 1 else 0) * f i) = sN (List.range m) (fun _ => 0) := sN_congr fun i hi => by
        have := List.mem_range.mp hi
        rw [if_neg (by omega), Nat.zero_mul]
      rw [z, sN_zero, Nat.zero_add]
    · rw [if_neg q, Nat.zero_mul, Nat.add_zero]
      exact ih (by omega)
theorem count_sum {m : Nat} {f : Nat → Nat} : ∀ (l : List Nat), (∀ j ∈ l, j < m) → sN (List.range m) (fun j => l.count j * f j) = sN l f
  | [], _ => by
    rw [sN_nil]
    rw [← sN_zero (List.range m)]
    exact sN_congr fun j _ => by rw [List.count_nil, Nat.zero_mul]
  | a :: l, h => by
    rw [sN_cons, ← count_sum l fun j hj => h j (List.mem_cons_of_mem _ hj), ← sN_one (f := f) (h a List.mem_cons_self), ← sN_add]
    exact sN_congr fun j _ => by
      rw [List.count_cons, Nat.add_mul, Nat.add_comm]
      congr 2
      by_cases q : a = j
      · rw [q]; simp
      · rw [if_neg (Ne.symm q)]
        simp [q]
theorem zip_get {u v : List Nat} {j : Nat} (h1 : j < u.length) (h2 : j < v.length) : (List.zipWith (· + ·) u v).getD j 0 = u.getD j 0 + v.getD j 0 := by
  rw [List.getD_eq_getElem?_getD, List.getD_eq_getElem?_getD, List.getD_eq_getElem?_getD, List.getElem?_zipWith, List.getElem?_eq_getElem h1, List.getElem?_eq_getElem h2] <;> rfl
theorem col_go {m j : Nat} (hj : j < m) : ∀ (vs : List (List Nat)) (acc : List Nat), acc.length = m → (∀ v ∈ vs, v.length = m) → (vs.foldl (fun acc v => List.zipWith (· + ·) acc v) acc).getD j 0 = acc.getD j 0 + sN vs fun v => v.getD j 0
  | [], acc, _, _ => by rw [sN_nil] <;> rfl
  | v :: vs, acc, ha, hv => by
    have h1 := hv v List.mem_cons_self
    rw [List.foldl_cons, col_go hj vs _ (by rw [List.length_zipWith, ha, h1, Nat.min_self]) fun w hw => hv w (List.mem_cons_of_mem _ hw), zip_get (by omega) (by omega), sN_cons]
    omega
theorem col_get {m j : Nat} {vs : List (List Nat)} (hj : j < m) (hv : ∀ v ∈ vs, v.length = m) : (col vs m).getD j 0 = sN vs fun v => v.getD j 0 := by
  unfold col
  rw [col_go hj vs _ (List.length_replicate ..) hv, List.getD_eq_getElem?_getD, List.getElem?_replicate, if_pos hj]
  show 0 + _ = _
  rw [Nat.zero_add]
theorem map_get {α : Type} {f : α → Nat} {l : List α} {i : Nat} {d : α} (h : i < l.length) : (l.map f).getD i 0 = f (l.getD i d) := by
  rw [List.getD_eq_getElem?_getD, List.getD_eq_getElem?_getD, List.getElem?_map, List.getElem?_eq_getElem h] <;> rfl
theorem rng_get {f : Nat → Nat} {m i : Nat} (h : i < m) : ((List.range m).map f).getD i 0 = f i := by
  rw [List.getD_eq_getElem?_getD, List.getElem?_map, List.getElem?_range h] <;> rfl
/-! what the checks say -/
theorem a2 {α : Type} {l : List α} {p : α → Bool} (h : l.all p = true) {a : α} (ha : a ∈ l) : p a = true := List.all_eq_true.mp h a ha
theorem bb {a b : Bool} (h : (a && b) = true) : a = true ∧ b = true := Bool.and_eq_true_iff.mp h
section
variable {n t i j : Nat} (hn : n ≤ 6) (ht : t ≤ n) (hi : i < (Sh n).length)
include hn
theorem t_parts : okParts (shp n i) t = true → True := fun _ => trivial
include ht hi
theorem f_parts : okParts (shp n i) t = true ∧ (partsB (shp n i) t).length ≤ 1000 ∧ partsB (shp n i) t = (pt n t i).map (shp (n - t)) := by
  have h := a2 (a2 (a2 ck_parts (List.mem_range.mpr (Nat.lt_succ_of_le hn))) (List.mem_range.mpr (Nat.lt_succ_of_le ht))) (List.mem_range.mpr hi)
  obtain ⟨h1, h2⟩ := bb h
  obtain ⟨h2, h3⟩ := bb h2
  exact ⟨h1, of_decide_eq_true h2, of_decide_eq_true h3⟩
theorem f_lt (hj : j ∈ pt n t i) : j < (Sh (n - t)).length := of_decide_eq_true (a2 (a2 (a2 (a2 ck_lt (List.mem_range.mpr (Nat.lt_succ_of_le hn))) (List.mem_range.mpr (Nat.lt_succ_of_le ht))) (List.mem_range.mpr hi)) hj)
end
theorem f_dims {n t : Nat} (hn : n ≤ 6) (ht : t ≤ n) : ((PT.getD n []).getD t []).length = (Sh n).length := of_decide_eq_true (a2 (a2 ck_dims (List.mem_range.mpr (Nat.lt_succ_of_le hn))) (List.mem_range.mpr (Nat.lt_succ_of_le ht)))
theorem f_flip {n i : Nat} (hn : n ≤ 6) (hi : i < (Sh n).length) : flip1 (shp n i) = shp n (fl n i) ∧ fl n i < (Sh n).length ∧ fl n (fl n i) = i ∧ shpB 40 (shp n i) = true ∧ (shp n i).sum = (n : Int) := by
  have h := a2 (a2 ck_flip (List.mem_range.mpr (Nat.lt_succ_of_le hn))) (List.mem_range.mpr hi)
  obtain ⟨h1, h⟩ := bb h
  obtain ⟨h2, h⟩ := bb h
  obtain ⟨h3, h⟩ := bb h
  obtain ⟨h4, h5⟩ := bb h
  exact ⟨of_decide_eq_true h1, of_decide_eq_true h2, of_decide_eq_true h3, h4, of_decide_eq_true h5⟩
theorem vec_cons {n : Nat} {x : Int} {ts : List Int} {i : Nat} (hn : n ≤ 6) (hx : x.toNat ≤ n) (hi : i < (Sh n).length) : (vec n (x :: ts)).getD i 0 = sN (pt n x.toNat i) fun j => (vec (n - x.toNat) ts).getD j 0 := by
  show (((PT.getD n []).getD x.toNat []).map fun js => (js.map fun j => (vec (n - x.toNat) ts).getD j 0).sum).getD i 0 = _
  rw [map_get (d := []) (by rw [f_dims hn hx]; exact hi)] <;> rfl
/-- tables as a recursion -/
def Tt : List Int → List Int → Int
  | sh, [] => if sh = [] then 1 else 0
  | sh, m :: ms => ((partsB sh m).map fun y => Tt y ms).sum
theorem tabs_nodup : ∀ {ams : List Int} {now : DI}, (now.map (·.1)).Nodup → ((tabs ams now).map (·.1)).Nodup
  | [], _, h => h
  | m :: ams, now, h => tabs_nodup (ams := ams) (now := step (fun x => partsB x m) now) step_nodup
theorem tabs_val : ∀ (ams : List Int) (now : DI), val (fun x => if x = [] then 1 else 0) (tabs ams now) = val (fun x => Tt x ams) now
  | [], now => by
    have e : (fun x => Tt x []) = fun x : List Int => if x = [] then (1 : Int) else 0 := by funext x; unfold Tt; rfl
    rw [e] <;> rfl
  | m :: ams, now => by
    show val _ (tabs ams (step (fun x => partsB x m) now)) = _
    rw [tabs_val ams, val_step]
    have e : (fun x => Tt x (m :: ams)) = fun x => ((partsB x m).map fun y => Tt y ams).sum := by funext x; rw [Tt]
    rw [e]
theorem tables_T (sh am : List Int) : tables sh am = Tt sh am.reverse := by
  unfold tables
  rw [val_get (tabs_nodup (by simp)), tabs_val, val_one]
theorem T_vec : ∀ (p : List Int) (n i : Nat), n ≤ 6 → (∀ x ∈ p, 0 ≤ x) → p.sum = (n : Int) → i < (Sh n).length → Tt (shp n i) p = (((vec n p).getD i 0 : Nat) : Int)
  | [], n, i, hn, _, hs, hi => by
    have : n = 0 := by
      have : (0 : Int) = (n : Int) := hs
      omega
    subst this
    have : i = 0 := by
      have : i < 1 := hi
      omega
    subst this
    rfl
  | x :: ts, n, i, hn, hp, hs, hi => by
    have h1 := hp x List.mem_cons_self
    have h2 : ∀ y ∈ ts, 0 ≤ y := fun y hy => hp y (List.mem_cons_of_mem _ hy)
    have h3 : 0 ≤ ts.sum := by
      clear hs hp
      induction ts with
      | nil => exact Int.le_refl _
      | cons y l ih =>
        rw [List.sum_cons]
        have := h2 y List.mem_cons_self
        have := ih fun z hz => h2 z (List.mem_cons_of_mem _ hz)
        omega
    rw [List.sum_cons] at hs
    have hx : ((x.toNat : Nat) : Int) = x := Int.toNat_of_nonneg h1
    have hxn : x.toNat ≤ n := by omega
    rw [vec_cons hn hxn hi, cast_sN]
    rw [Tt]
    have e := (f_parts hn hxn hi).2.2
    rw [hx] at e
    rw [e, List.map_map]
    congr 1
    apply List.map_congr_left
    intro j hj
    exact T_vec ts (n - x.toNat) j (by omega) h2 (by omega) (f_lt hn hxn hi hj)
end Ws
set_option Elab.async false
set_option linter.all false
set_option maxRecDepth 100000
set_option maxHeartbeats 4000000
/-! The small mathematics: what is drawn fulfils all. -/
namespace Ws
open PySem PySem.Spec L2
structure InD (q : List Int) (n : Nat) : Prop where
  len : q.length ≤ 4
  pos : ∀ x ∈ q, 0 ≤ x
  sum : q.sum = (n : Int)
  le : n ≤ 6
theorem InD.mem {q : List Int} {n : Nat} (h : InD q n) : q ∈ DQ := dq_mem h.len h.pos (by have := h.sum; have := h.le; omega)
theorem InD.nOf {q : List Int} {n : Nat} (h : InD q n) : nOf q = n := by
  unfold Ws.nOf
  rw [h.sum, Int.toNat_natCast]
theorem okD_in {q : List Int} {n : Nat} (h : okD q = true) (hs : q.sum = (n : Int)) : InD q n := by
  obtain ⟨h1, h⟩ := bb h
  obtain ⟨h2, h3⟩ := bb h
  have h3 := of_decide_eq_true h3
  exact ⟨of_decide_eq_true h1, fun x hx => of_decide_eq_true (a2 h2 hx), hs, by omega⟩
def mL (b : Bool) : Int := if b then 1 else 9
def mA (b : Bool) : Int := if b then 1 else 12
theorem f_okr {q : List Int} (hq : q ∈ DQ) {t : Nat} (ht : t < 7) (b : Bool) : okRows t (q.map fun r => min (mA b) r) = true ∧ okLR t q (mL b) = true ∧ rowsOf t (q.map fun r => min (mA b) r) = lawRows t q (mL b) := by
  obtain ⟨h1, h⟩ := bb (a2 (a2 ck_okr hq) (List.mem_range.mpr ht))
  obtain ⟨h2, h⟩ := bb h
  obtain ⟨h3, h4⟩ := bb h
  obtain ⟨s1, s2⟩ := bb (a2 (a2 ck_same hq) (List.mem_range.mpr ht))
  cases b with
  | false => exact ⟨h1, h3, of_decide_eq_true s1⟩
  | true => exact ⟨h2, h4, of_decide_eq_true s2⟩
theorem f_in {q : List Int} (hq : q ∈ DQ) {t : Nat} (ht : t < 7) (b : Bool) {row : List Int} (hr : row ∈ lawRows t q (mL b)) : okD (subL q row) = true ∧ (subL q row).sum = q.sum - t ∧ (subL q row).length = q.length := by
  obtain ⟨h1, h2⟩ := bb (a2 (a2 ck_in hq) (List.mem_range.mpr ht))
  cases b with
  | false =>
    obtain ⟨k1, k⟩ := bb (a2 h1 hr)
    obtain ⟨k2, k3⟩ := bb k
    exact ⟨k1, of_decide_eq_true k2, of_decide_eq_true k3⟩
  | true =>
    obtain ⟨k1, k⟩ := bb (a2 h2 hr)
    obtain ⟨k2, k3⟩ := bb k
    exact ⟨k1, of_decide_eq_true k2, of_decide_eq_true k3⟩
theorem f_len {q : List Int} {n : Nat} (h : InD q n) : (vec n q).length = (Sh n).length ∧ vec n q.reverse = vec n q ∧ ∀ z ∈ vec n q, z < 1000000 := by
  obtain ⟨h1, h2⟩ := bb (a2 ck_len h.mem)
  obtain ⟨h2, h3⟩ := bb h2
  have e := h.nOf
  refine ⟨by have := of_decide_eq_true h1; rw [e] at this; exact this, by have := of_decide_eq_true h2; rw [e] at this; exact this, fun z hz => ?_⟩
  rw [e] at h3
  exact of_decide_eq_true (a2 h3 hz)
theorem vecB_len {q : List Int} {n : Nat} (h : InD q n) (b : Bool) : (vecB b n q).length = (Sh n).length := by
  cases b with
  | false => exact (f_len h).1
  | true =>
    show (flv n (vec n q)).length = _
    unfold flv
    rw [List.length_map, List.length_range]
theorem f_adj {q : List Int} {n : Nat} (h : InD q n) {t : Nat} (ht : t ≤ n) (b : Bool) : col ((lawRows t q (mL b)).map fun row => vecB b (n - t) (subL q row)) (Sh (n - t)).length = rhs9 n t (vecB b n q) := by
  have e := h.nOf
  cases b with
  | false =>
    have := of_decide_eq_true (a2 (a2 ck_adj9 h.mem) (List.mem_range.mpr (Nat.lt_succ_of_le (by rw [e]; exact ht))))
    rw [e] at this
    exact this
  | true =>
    have := of_decide_eq_true (a2 (a2 ck_adj1 h.mem) (List.mem_range.mpr (Nat.lt_succ_of_le (by rw [e]; exact ht))))
    rw [e] at this
    exact this
theorem sum_pos : ∀ {l : List Int}, (∀ x ∈ l, 0 ≤ x) → 0 ≤ l.sum
  | [], _ => Int.le_refl _
  | y :: l, h => by
    rw [List.sum_cons]
    have := h y List.mem_cons_self
    have := sum_pos fun z hz => h z (List.mem_cons_of_mem y hz)
    omega
theorem f_zero {q : List Int} (h : InD q 0) : vec 0 q = [1] ∧ q = List.replicate q.length 0 := by
  have k := a2 ck_zero h.mem
  have hs : decide (q.sum = 0) = true := decide_eq_true h.sum
  rw [hs] at k
  obtain ⟨h1, h2⟩ := bb k
  exact ⟨of_decide_eq_true h1, of_decide_eq_true h2⟩
theorem sN_map {α β : Type} {g : α → β} {f : β → Nat} {l : List α} : sN (l.map g) f = sN l fun a => f (g a) := by
  unfold sN
  rw [List.map_map] <;> rfl
theorem LA_dot (b : Bool) : ∀ (p : List Int) (n : Nat) (q : List Int), (∀ x ∈ p, 0 ≤ x) → p.sum = (n : Int) → InD q n → LA p q (mL b) = ((dotB b n p q : Nat) : Int)
  | [], n, q, _, hs, hq => by
    have : n = 0 := by
      have : (0 : Int) = (n : Int) := hs
      omega
    subst this
    unfold LA dotB vecB
    rw [(f_zero hq).1, if_pos (show q.sum = 0 from hq.sum)]
    cases b <;> rfl
  | x :: ts, n, q, hp, hs, hq => by
    have h1 := hp x List.mem_cons_self
    have h2 : ∀ y ∈ ts, 0 ≤ y := fun y hy => hp y (List.mem_cons_of_mem _ hy)
    have h3 := sum_pos h2
    rw [List.sum_cons] at hs
    have hx : ((x.toNat : Nat) : Int) = x := Int.toNat_of_nonneg h1
    have hxn : x.toNat ≤ n := by omega
    have hle := hq.le
    have hsub : ∀ row ∈ lawRows x q (mL b), InD (subL q row) (n - x.toNat) := fun row hr => by
      rw [← hx] at hr
      obtain ⟨k1, k2, _⟩ := f_in hq.mem (by omega : x.toNat < 7) b hr
      exact okD_in k1 (by rw [k2, hq.sum]; omega)
    rw [LA]
    have e1 : ((lawRows x q (mL b)).map fun row => LA ts (subL q row) (mL b)) = (lawRows x q (mL b)).map fun row => ((dotB b (n - x.toNat) ts (subL q row) : Nat) : Int) := by
      apply List.map_congr_left
      intro row hr
      exact LA_dot b ts (n - x.toNat) (subL q row) h2 (by omega) (hsub row hr)
    rw [e1, ← cast_sN]
    congr 1
    have adj := f_adj hq hxn b
    rw [hx] at adj
    show sN _ (fun row => sN (List.range (Sh (n - x.toNat)).length) fun j => (vec (n - x.toNat) ts).getD j 0 * (vecB b (n - x.toNat) (subL q row)).getD j 0) = sN (List.range (Sh n).length) fun i => (vec n (x :: ts)).getD i 0 * (vecB b n q).getD i 0
    rw [sN_swap]
    have e2 : ∀ j ∈ List.range (Sh (n - x.toNat)).length, sN (lawRows x q (mL b)) (fun row => (vec (n - x.toNat) ts).getD j 0 * (vecB b (n - x.toNat) (subL q row)).getD j 0) = sN (List.range (Sh n).length) fun i => (vecB b n q).getD i 0 * ((pt n x.toNat i).count j * (vec (n - x.toNat) ts).getD j 0) := fun j hj => by
      have hj := List.mem_range.mp hj
      rw [sN_mul]
      have g := col_get (vs := (lawRows x q (mL b)).map fun row => vecB b (n - x.toNat) (subL q row)) hj (fun v hv => by
        obtain ⟨row, hr, rfl⟩ := List.mem_map.mp hv
        exact vecB_len (hsub row hr) b)
      rw [sN_map] at g
      rw [← g, adj]
      unfold rhs9
      rw [rng_get hj]
      show _ * sN _ _ = _
      rw [← sN_mul]
      exact sN_congr fun i _ => by
        rw [Nat.mul_comm ((pt n x.toNat i).count j), Nat.mul_left_comm, Nat.mul_comm ((vec (n - x.toNat) ts).getD j 0)]
    rw [sN_congr e2, sN_swap]
    refine sN_congr fun i hi => ?_
    have hi := List.mem_range.mp hi
    rw [sN_mul, count_sum _ (fun j hj => f_lt hle hxn hi hj), vec_cons hle hxn hi, Nat.mul_comm]
/-! the other order -/
theorem sN_perm {α : Type} {f : α → Nat} {l m : List α} (h : l.Perm m) : sN l f = sN m f := by
  induction h with
  | nil => rfl
  | cons x _ ih => rw [sN_cons, sN_cons, ih]
  | swap x y l => rw [sN_cons, sN_cons, sN_cons, sN_cons]; omega
  | trans _ _ h1 h2 => exact h1.trans h2
theorem ck_perm : ((List.range 7).all fun n => ((List.range (Sh n).length).map (fl n)).isPerm (List.range (Sh n).length)) = true := by decide +kernel
theorem dot_sym (b : Bool) {n : Nat} (hn : n ≤ 6) (p q : List Int) : dotB b n p q = dotB b n q p := by
  cases b with
  | false => exact sN_congr fun i _ => Nat.mul_comm _ _
  | true =>
    have hp := List.isPerm_iff.mp (a2 ck_perm (List.mem_range.mpr (Nat.lt_succ_of_le hn)))
    have e : ∀ u v : List Int, dotB true n u v = sN (List.range (Sh n).length) fun i => (vec n u).getD i 0 * (vec n v).getD (fl n i) 0 := fun u v => sN_congr fun i hi => by
      show _ * (flv n (vec n v)).getD i 0 = _
      unfold flv
      rw [rng_get (List.mem_range.mp hi)]
    rw [e, e, ← sN_perm hp, sN_map]
    refine sN_congr fun i hi => ?_
    rw [(f_flip hn (List.mem_range.mp hi)).2.2.1, Nat.mul_comm]
/-! arrays -/
def Aa (k : Nat) (m : Int) : List Int → List Int → Int
  | left, [] => if left = List.replicate k 0 then 1 else 0
  | left, t :: ts => ((gA m t left).map fun y => Aa k m y ts).sum
theorem arrs_nodup {m : Int} : ∀ {rows : List Int} {now : DI}, (now.map (·.1)).Nodup → ((arrs m rows now).map (·.1)).Nodup
  | [], _, h => h
  | t :: rows, now, h => arrs_nodup (rows := rows) (now := step (gA m t) now) step_nodup
theorem arrs_val (k : Nat) (m : Int) : ∀ (rows : List Int) (now : DI), val (fun x => if x = List.replicate k 0 then 1 else 0) (arrs m rows now) = val (fun x => Aa k m x rows) now
  | [], now => by
    have e : (fun x => Aa k m x []) = fun x : List Int => if x = List.replicate k 0 then (1 : Int) else 0 := by funext x; rw [Aa]
    rw [e] <;> rfl
  | t :: rows, now => by
    show val _ (arrs m rows (step (gA m t) now)) = _
    rw [arrs_val k m rows, val_step]
    have e : (fun x => Aa k m x (t :: rows)) = fun x => ((gA m t x).map fun y => Aa k m y rows).sum := by funext x; rw [Aa]
    rw [e]
theorem arrays_Aa (rows cols : List Int) (m : Int) : arrays rows cols m = Aa cols.length m cols rows := by
  unfold arrays
  rw [val_get (arrs_nodup (by simp)), arrs_val, val_one]
theorem Aa_LA (b : Bool) : ∀ (p : List Int) (n : Nat) (q : List Int), (∀ x ∈ p, 0 ≤ x) → p.sum = (n : Int) → InD q n → Aa q.length (mA b) q p = LA p q (mL b)
  | [], n, q, _, hs, hq => by
    have : n = 0 := by
      have : (0 : Int) = (n : Int) := hs
      omega
    subst this
    unfold Aa LA
    rw [if_pos (show q.sum = 0 from hq.sum), if_pos (f_zero hq).2]
  | x :: ts, n, q, hp, hs, hq => by
    have h1 := hp x List.mem_cons_self
    have h2 : ∀ y ∈ ts, 0 ≤ y := fun y hy => hp y (List.mem_cons_of_mem _ hy)
    have h3 := sum_pos h2
    rw [List.sum_cons] at hs
    have hx : ((x.toNat : Nat) : Int) = x := Int.toNat_of_nonneg h1
    have hle := hq.le
    have ht : x.toNat < 7 := by omega
    have e := (f_okr hq.mem ht b).2.2
    rw [hx] at e
    rw [Aa, LA]
    unfold gA
    rw [e, List.map_map]
    congr 1
    apply List.map_congr_left
    intro row hr
    rw [← hx] at hr
    obtain ⟨k1, k2, k3⟩ := f_in hq.mem ht b hr
    have := Aa_LA b ts (n - x.toNat) (subL q row) h2 (by omega) (okD_in k1 (by rw [k2, hq.sum]; omega))
    rw [k3] at this
    exact this
theorem arr_LA (b : Bool) {p q : List Int} {n : Nat} (hp : InD p n) (hq : InD q n) : arrays p q (mA b) = LA p q (mL b) ∧ arrays q p (mA b) = LA p q (mL b) := by
  refine ⟨by rw [arrays_Aa, Aa_LA b p n q hp.pos hp.sum hq], ?_⟩
  rw [arrays_Aa, Aa_LA b q n p hq.pos hq.sum hp, LA_dot b q n p hq.pos hq.sum hp, LA_dot b p n q hp.pos hp.sum hq, dot_sym b hq.le]
end Ws
set_option Elab.async false
set_option linter.all false
set_option maxRecDepth 100000
set_option maxHeartbeats 4000000
/-! The small mathematics: what is drawn fulfils all, together. -/
namespace Ws
open PySem PySem.Spec L2
def allU : List (List Int) := ShT.flatten
theorem ck_U : (allU.all fun x => (List.range 7).all fun t => okParts x t && (decide ((partsB x t).length ≤ 1000) && (partsB x t).all fun y => allU.contains y)) = true := by decide +kernel
theorem ck_Ul : allU.length ≤ 1000 := by decide +kernel
theorem ck_Dl : DQ.length ≤ 10000 := by decide +kernel
theorem ck_Dn : (DQ.all fun q => decide (q.length ≤ 4)) = true := by decide +kernel
theorem shp_mem {n i : Nat} (hn : n ≤ 6) (hi : i < (Sh n).length) : shp n i ∈ Sh n ∧ shp n i ∈ allU := by
  have h1 : shp n i ∈ Sh n := by
    unfold shp
    rw [List.getD_eq_getElem?_getD, List.getElem?_eq_getElem hi]
    exact List.getElem_mem hi
  refine ⟨h1, List.mem_flatten.mpr ⟨Sh n, ?_, h1⟩⟩
  unfold Sh
  have hl : n < ShT.length := Nat.lt_of_le_of_lt hn (by decide)
  rw [List.getD_eq_getElem?_getD, List.getElem?_eq_getElem hl]
  exact List.getElem_mem hl
theorem mem_shp {n : Nat} {x : List Int} (h : x ∈ Sh n) : ∃ i, i < (Sh n).length ∧ x = shp n i := by
  obtain ⟨i, hi, e⟩ := List.getElem_of_mem h
  refine ⟨i, hi, ?_⟩
  unfold shp
  rw [List.getD_eq_getElem?_getD, List.getElem?_eq_getElem hi]
  exact e.symm
theorem okU_of {am : List Int} (h : ∀ t ∈ am, 0 ≤ t ∧ t ≤ 6) : OkU allU am := ⟨ck_Ul, fun m hm x hx => by
  obtain ⟨h1, h2⟩ := h m hm
  have e : ((m.toNat : Nat) : Int) = m := Int.toNat_of_nonneg h1
  have k := a2 (a2 ck_U hx) (List.mem_range.mpr (by omega : m.toNat < 7))
  rw [e] at k
  obtain ⟨k1, k⟩ := bb k
  obtain ⟨k2, k3⟩ := bb k
  exact ⟨k1, of_decide_eq_true k2, fun y hy => by have := a2 k3 hy; rw [List.contains_iff_mem] at this; exact this⟩⟩
theorem ent_le {p : List Int} {n : Nat} (h : InD p n) : ∀ t ∈ p, 0 ≤ t ∧ t ≤ 6 := by
  have : ∀ {l : List Int}, (∀ x ∈ l, 0 ≤ x) → ∀ t ∈ l, t ≤ l.sum := by
    intro l
    induction l with
    | nil => intro _ t ht; cases ht
    | cons y l ih =>
      intro hl t ht
      have h1 := hl y List.mem_cons_self
      have h2 := sum_pos fun z hz => hl z (List.mem_cons_of_mem y hz)
      rw [List.sum_cons]
      rcases List.mem_cons.mp ht with e | ht
      · rw [e]; omega
      · have := ih (fun z hz => hl z (List.mem_cons_of_mem _ hz)) t ht
        omega
  intro t ht
  have := this h.pos t ht
  have := h.sum
  have := h.le
  exact ⟨h.pos t ht, by omega⟩
theorem okV_of (b : Bool) {rows : List Int} (h : ∀ t ∈ rows, 0 ≤ t ∧ t ≤ 6) : OkV DQ rows (mA b) := ⟨ck_Dl, fun t ht x hx => by
  obtain ⟨h1, h2⟩ := h t ht
  have e : ((t.toNat : Nat) : Int) = t := Int.toNat_of_nonneg h1
  have ht7 : t.toNat < 7 := by omega
  obtain ⟨k1, k2, k3⟩ := f_okr hx ht7 b
  rw [e] at k1 k3
  refine ⟨by have := of_decide_eq_true (a2 ck_Dn hx); omega, k1, fun y hy => ?_⟩
  unfold gA at hy
  rw [k3] at hy
  obtain ⟨row, hr, rfl⟩ := List.mem_map.mp hy
  rw [← e] at hr
  obtain ⟨q1, _, _⟩ := f_in hx ht7 b hr
  obtain ⟨q1, q2⟩ := bb q1
  obtain ⟨q2, q3⟩ := bb q2
  exact dq_mem (of_decide_eq_true q1) (fun x hx => of_decide_eq_true (a2 q2 hx)) (of_decide_eq_true q3)⟩
theorem okM_of (b : Bool) {p q : List Int} {n m : Nat} (hp : InD p n) (hq : InD q m) (h1 : 1 ≤ q.length) : OkM p q (mA b) := by
  have l1 := hp.len
  have l2 := hq.len
  have s1 := hp.sum
  have s2 := hq.sum
  have e1 := hp.le
  have e2 := hq.le
  exact ⟨⟨by omega, hp.pos, by omega⟩, ⟨by omega, hq.pos, by omega⟩, h1, DQ, hq.mem, okV_of b (ent_le hp)⟩
theorem okLA_of (b : Bool) : ∀ (p : List Int) (q : List Int), (∀ t ∈ p, 0 ≤ t ∧ t ≤ 6) → q ∈ DQ → okLA p q (mL b)
  | [], q, _, hq => by
    unfold okLA
    have := of_decide_eq_true (a2 ck_Dn hq)
    omega
  | x :: ts, q, hp, hq => by
    obtain ⟨h1, h2⟩ := hp x List.mem_cons_self
    have e : ((x.toNat : Nat) : Int) = x := Int.toNat_of_nonneg h1
    have ht7 : x.toNat < 7 := by omega
    unfold okLA
    refine ⟨by have := of_decide_eq_true (a2 ck_Dn hq); omega, by have := (f_okr hq ht7 b).2.1; rw [e] at this; exact this, fun row hr => ?_⟩
    rw [← e] at hr
    obtain ⟨q1, _, _⟩ := f_in hq ht7 b hr
    obtain ⟨q1, q2⟩ := bb q1
    obtain ⟨q2, q3⟩ := bb q2
    exact okLA_of b ts _ (fun t ht => hp t (List.mem_cons_of_mem _ ht)) (dq_mem (of_decide_eq_true q1) (fun x hx => of_decide_eq_true (a2 q2 hx)) (of_decide_eq_true q3))
theorem tab_vec {p : List Int} {n i : Nat} (hp : InD p n) (hi : i < (Sh n).length) : tables (shp n i) p = (((vec n p).getD i 0 : Nat) : Int) := by
  rw [tables_T, T_vec p.reverse n i hp.le (fun x hx => hp.pos x (List.mem_reverse.mp hx)) (by rw [sum_rev]; exact hp.sum) hi, (f_len hp).2.1]
theorem getD_lt {v : List Nat} (h : ∀ z ∈ v, z < 1000000) (i : Nat) : v.getD i 0 < 1000000 := by
  rw [List.getD_eq_getElem?_getD]
  cases e : v[i]? with
  | none => exact (by decide : (0 : Nat) < 1000000)
  | some z => exact h z (List.mem_of_getElem? e)
theorem isNon_eq (v : V) : isNon v = decide (v = .non) := by
  cases v <;> first | rfl | (rw [decide_eq_false] <;> first | rfl | (intro h; cases h))
theorem dec_cast {k : Nat} : decide (0 < (k : Int)) = decide (0 < k) := by
  by_cases h : 0 < k
  · rw [decide_eq_true h, decide_eq_true (by omega)]
  · rw [decide_eq_false h, decide_eq_false (by omega)]
theorem shp_list (n : Nat) : Sh n = (List.range (Sh n).length).map (shp n) := by
  apply List.ext_getElem?
  intro i
  by_cases h : i < (Sh n).length
  · rw [List.getElem?_map, List.getElem?_range h, List.getElem?_eq_getElem h]
    show _ = some (shp n i)
    unfold shp
    rw [List.getD_eq_getElem?_getD, List.getElem?_eq_getElem h] <;> rfl
  · rw [List.getElem?_eq_none (Nat.le_of_not_lt h), List.getElem?_eq_none (by rw [List.length_map, List.length_range]; omega)]
theorem fall_in {p : List Int} {n : Nat} (hp : InD p n) : fallen p ∈ Sh n ∧ vec n p = vec n (fallen p) := by
  rw [fallen_eq]
  obtain ⟨h1, h2⟩ := bb (a2 ck_fall hp.mem)
  have e := hp.nOf
  rw [e] at h1 h2
  rw [List.contains_iff_mem] at h1
  exact ⟨h1, of_decide_eq_true h2⟩
theorem of_at {p : List Int} {n : Nat} (hn : n ≤ 6) (h : p ∈ Sh n) (b : Bool) : okOf b p = true ∧ sortK (outI b p) = outT b n p := by
  obtain ⟨h1, h2⟩ := bb (a2 (a2 ck_of (List.mem_range.mpr (Nat.lt_succ_of_le hn))) h)
  obtain ⟨h2, h3⟩ := bb h2
  have k := a2 h3 (show b ∈ [false, true] by cases b <;> decide)
  obtain ⟨k1, k⟩ := bb k
  obtain ⟨k2, k3⟩ := bb k
  have k1 := of_decide_eq_true k1
  have e : sortK (outI b p) = outT b n p := by rw [sortK_eq outI_nodup (by rw [k1]; exact k2), k1]
  refine ⟨?_, e⟩
  unfold okOf
  rw [h1, h2, e, k3] <;> rfl
theorem held_at {p q : List Int} {n : Nat} (hn : n ≤ 6) (hp : p ∈ Sh n) (hq : q ∈ Sh n) (b : Bool) : heldI (outT false n p) (outT b n q) = ((dotB b n p q : Nat) : Int) ∧ okHeld (outT false n p) (outT b n q) := by
  obtain ⟨h1, h2⟩ := bb (a2 (a2 (a2 (a2 ck_held (List.mem_range.mpr (Nat.lt_succ_of_le hn))) hp) hq) (show b ∈ [false, true] by cases b <;> decide))
  exact ⟨of_decide_eq_true h1, fun z hz => by
    obtain ⟨k1, k2⟩ := bb (a2 h2 hz)
    exact ⟨of_decide_eq_true k1, of_decide_eq_true k2⟩⟩
theorem vecB_eq {p q : List Int} {n : Nat} (h : vec n p = vec n q) (b : Bool) : vecB b n p = vecB b n q := by
  unfold vecB
  rw [h]
theorem good_of {n : Nat} {p q : List Int} (h1 : 1 ≤ n) (hp : InD p n) (hq : InD q n) : Good (n : Int) p q := by
  have hn := hp.le
  have lp : 1 ≤ p.length := by
    cases p with
    | nil => have : (0 : Int) = (n : Int) := hp.sum; omega
    | cons _ _ => exact Nat.succ_pos _
  have lq : 1 ≤ q.length := by
    cases q with
    | nil => have : (0 : Int) = (n : Int) := hq.sum; omega
    | cons _ _ => exact Nat.succ_pos _
  obtain ⟨P1, P2⟩ := fall_in hp
  obtain ⟨Q1, Q2⟩ := fall_in hq
  obtain ⟨i, hi, ei⟩ := mem_shp P1
  obtain ⟨j, hj, ej⟩ := mem_shp Q1
  have fi := f_flip hn hi
  have fj := f_flip hn hj
  rw [← ei] at fi
  have fj2 := f_flip hn fj.2.1
  rw [← ej] at fj
  have d9 : LA p q 9 = ((dotB false n p q : Nat) : Int) := LA_dot false p n q hp.pos hp.sum hq
  have d1 : LA p q 1 = ((dotB true n p q : Nat) : Int) := LA_dot true p n q hp.pos hp.sum hq
  have dd : ∀ b, dotB b n (fallen p) (fallen q) = dotB b n p q := fun b => by
    unfold dotB
    rw [← P2, vecB_eq Q2.symm b]
  have lens : p.length ≤ 1000 ∧ q.length ≤ 1000 := ⟨by have := hp.len; omega, by have := hq.len; omega⟩
  have hh : ∀ b, okLH b p q ∧ lawHeld b p q = ((dotB b n p q : Nat) : Int) := fun b => by
    obtain ⟨o1, e1⟩ := of_at hn P1 false
    obtain ⟨o2, e2⟩ := of_at hn Q1 b
    obtain ⟨g1, g2⟩ := held_at hn P1 Q1 b
    refine ⟨⟨lens, o1, o2, by rw [e1, e2]; exact g2⟩, ?_⟩
    unfold lawHeld
    rw [e1, e2, g1, dd]
  have ckA := a2 ck_all (List.mem_range.mpr (Nat.lt_succ_of_le hn))
  obtain ⟨A1, A2⟩ := bb ckA
  have A2 := of_decide_eq_true A2
  refine ⟨okLA_of false p q (ent_le hp) hq.mem, okLA_of true p q (ent_le hp) hq.mem, okM_of false hp hq lq, okM_of false hq hp lp, okM_of true hp hq lq, okM_of true hq hp lp, (arr_LA false hp hq).1, (arr_LA false hp hq).2, (arr_LA true hp hq).1, (arr_LA true hp hq).2, ⟨popsT.getD n 0, A1, ?_⟩, ⟨fi.2.2.2.1, fi.2.2.2.2.trans hp.sum.symm⟩, ⟨fj.2.2.2.1, ?_, ?_⟩, (hh false).1, (hh true).1, (hh false).2.trans d9.symm, (hh true).2.trans d1.symm, ?_⟩
  · rw [A2]
    refine ⟨by have : (Sh n).length ≤ 1000 := by
                have : ∀ m, m ≤ 6 → (Sh m).length ≤ 1000 := by decide +kernel
                exact this n hn
               exact this, fun x hx => ?_, fun x hx => ?_, fun x hx => ?_, fun x hx => ?_, fun x hx => ?_, fun x hx => ?_, fun x hx => ?_, ?_, ?_, fun x hx => ?_⟩
    · obtain ⟨k, hk, rfl⟩ := mem_shp hx
      have f := f_flip hn hk
      exact ⟨f.2.2.2.1, hp.sum.trans f.2.2.2.2.symm, hq.sum.trans f.2.2.2.2.symm⟩
    · obtain ⟨k, hk, rfl⟩ := mem_shp hx
      have f := f_flip hn hk
      have f2 := f_flip hn f.2.1
      rw [f.1]
      exact ⟨f2.2.2.2.1, hq.sum.trans f2.2.2.2.2.symm⟩
    · obtain ⟨k, hk, rfl⟩ := mem_shp hx
      exact ⟨allU, (shp_mem hn hk).2, okU_of (ent_le hp)⟩
    · obtain ⟨k, hk, rfl⟩ := mem_shp hx
      exact ⟨allU, (shp_mem hn hk).2, okU_of (ent_le hq)⟩
    · obtain ⟨k, hk, rfl⟩ := mem_shp hx
      have f := f_flip hn hk
      rw [f.1]
      exact ⟨allU, (shp_mem hn f.2.1).2, okU_of (ent_le hq)⟩
    · obtain ⟨k, hk, rfl⟩ := mem_shp hx
      rw [tab_vec hp hk]
      have := getD_lt (f_len hp).2.2 k
      exact .inl ⟨by omega, by omega⟩
    · obtain ⟨k, hk, rfl⟩ := mem_shp hx
      rw [tab_vec hp hk]
      have := getD_lt (f_len hp).2.2 k
      exact .inl ⟨by omega, by omega⟩
    · rw [d9]
      show _ = ((sN (List.range (Sh n).length) (fun i => (vec n p).getD i 0 * (vecB false n q).getD i 0) : Nat) : Int)
      rw [cast_sN]
      conv => lhs; rw [shp_list n]
      rw [List.map_map]
      congr 1
      apply List.map_congr_left
      intro k hk
      have hk := List.mem_range.mp hk
      show tables (shp n k) p * tables (shp n k) q = _
      rw [tab_vec hp hk, tab_vec hq hk, Int.natCast_mul] <;> rfl
    · rw [d1]
      show _ = ((sN (List.range (Sh n).length) (fun i => (vec n p).getD i 0 * (vecB true n q).getD i 0) : Nat) : Int)
      rw [cast_sN]
      conv => lhs; rw [shp_list n]
      rw [List.map_map]
      congr 1
      apply List.map_congr_left
      intro k hk
      have hk := List.mem_range.mp hk
      have f := f_flip hn hk
      show tables (shp n k) p * tables (flip1 (shp n k)) q = (((vec n p).getD k 0 * (flv n (vec n q)).getD k 0 : Nat) : Int)
      rw [f.1, tab_vec hp hk, tab_vec hq f.2.1, Int.natCast_mul]
      unfold flv
      rw [rng_get hk]
    · obtain ⟨k, hk, rfl⟩ := mem_shp hx
      rw [tab_vec hp hk, dec_cast, P2, ← isNon_eq]
      exact of_decide_eq_true (a2 (a2 (a2 ck_light (List.mem_range.mpr (Nat.lt_succ_of_le hn))) (List.mem_range.mpr hk)) P1)
  · rw [fj.1]
    exact fj2.2.2.2.1
  · rw [fj.1, fj2.2.2.2.2, fi.2.2.2.2]
  · rw [d1, dec_cast, ← dd true, ← isNon_eq]
    exact of_decide_eq_true (a2 (a2 (a2 ck_lst (List.mem_range.mpr (Nat.lt_succ_of_le hn))) P1) Q1)
theorem good_all : ∀ n p q, 1 ≤ n → n ≤ 6 → Dom1 n p → Dom1 n q → Good n p q := fun n p q h1 h2 hp hq => by
  have e : ((n.toNat : Nat) : Int) = n := Int.toNat_of_nonneg (by omega)
  rw [← e]
  exact good_of (by omega) ⟨hp.1, hp.2.1, by rw [e]; exact hp.2.2, by omega⟩ ⟨hq.1, hq.2.1, by rw [e]; exact hq.2.2, by omega⟩
theorem last_ok : LastOk := by
  have i1 : InD [1] 1 := ⟨by decide, by decide, by decide, by decide⟩
  have i2 : InD [2] 2 := ⟨by decide, by decide, by decide, by decide⟩
  have i3 : InD [0, 2] 2 := ⟨by decide, by decide, by decide, by decide⟩
  exact ⟨okM_of false i1 i2 (by decide), okM_of true i2 i2 (by decide), okM_of false i3 i2 (by decide), by decide +kernel, by decide +kernel, by decide +kernel⟩
end Ws
set_option Elab.async false
set_option linter.all false
set_option maxRecDepth 100000
set_option maxHeartbeats 0
namespace Ws
open PySem PySem.Spec PyProof.Rows L2
def dG (x : Str) (st : Stmt) : He5.DefA := { at_ := fun K => He.ga K x, name := x, qual := x, params := defArgs st, body := defBody st, scope := defScope st }
def dM (p : PySem.W.Frag → Addr) (x q : Str) (st : Stmt) : He5.DefA := { at_ := p, name := x, qual := q, params := defArgs st, body := defBody st, scope := defScope st }
def nm0 : List PySem.Str := ["_wall", "WrongValue", "InvalidShape", "InvalidNumber", "InvalidAmounts", "InvalidBasis", "InvalidTerms", "NotAMixture", "NoAnswer", "UnlikeSizes", "TooMany", "MOST_LONG", "MOST_BOXES", "MOST_DEGREE", "is_number", "is_shape", "check_shape", "trimmed", "flipped_of", "all_shapes", "strips_on", "sums_along", "lighter_at", "check_sizes", "shapes_of", "flipped", "heavier", "factorial", "MOST_MARGINS", "are_amounts"]
def nm1 : List PySem.Str := ["check_amounts", "parts_below", "tables_counted", "table_count", "check_margins", "rows_of_sum", "arrays_counted", "margin_count", "zero_one_count", "ZERO", "ONE", "is_between", "common", "lowest", "is_fraction", "add", "less", "times", "over", "beads_of", "shape_of_beads", "without_ribbons", "character", "cycle_weight", "BASES", "MOST_NUMBERS", "MOST_NUMBER", "is_term", "are_terms", "mixed"]
def nm2 : List PySem.Str := ["plus", "with_rows", "rows_for", "powers_for", "flipped_dict", "monomials_for", "shapes_from_monomials", "rows_from_shapes", "powers_from_shapes", "summed", "shapes_from", "written_in", "terms_of", "whole_sums", "check_basis", "check_mixture", "Mixture", "_law_purse", "_law_draw", "_law_amounts", "_law_fallen", "_law_rows_of", "_law_arrays", "_law_held", "_law_right"]
def names : List PySem.Str := nm0 ++ nm1 ++ nm2
def fn0 : List He5.DefA := [
  dG "is_number" s_is_number,
  dG "is_shape" s_is_shape,
  dG "check_shape" s_check_shape,
  dG "trimmed" s_trimmed,
  dG "flipped_of" s_flipped_of,
  dG "all_shapes" s_all_shapes,
  dG "strips_on" s_strips_on,
  dG "sums_along" s_sums_along,
  dG "lighter_at" s_lighter_at,
  dG "check_sizes" s_check_sizes,
  dG "shapes_of" s_shapes_of,
  dG "flipped" s_flipped,
  dG "heavier" s_heavier,
  dG "are_amounts" s_are_amounts,
  dG "check_amounts" s_check_amounts,
  dG "parts_below" s_parts_below,
  dG "tables_counted" s_tables_counted,
  dG "table_count" s_table_count,
  dG "check_margins" s_check_margins,
  dG "rows_of_sum" s_rows_of_sum,
  dG "arrays_counted" s_arrays_counted,
  dG "margin_count" s_margin_count,
  dG "zero_one_count" s_zero_one_count,
  dG "is_between" s_is_between,
  dG "common" s_common,
  dG "lowest" s_lowest,
  dG "is_fraction" s_is_fraction,
  dG "add" s_add]
def fn1 : List He5.DefA := [
  dG "times" s_times,
  dG "is_term" s_is_term,
  dG "are_terms" s_are_terms,
  dG "mixed" s_mixed,
  dG "plus" s_plus,
  dG "with_rows" s_with_rows,
  dG "rows_for" s_rows_for,
  dG "flipped_dict" s_flipped_dict,
  dG "summed" s_summed,
  dG "shapes_from" s_shapes_from,
  dG "terms_of" s_terms_of,
  dG "check_basis" s_check_basis,
  dG "check_mixture" s_check_mixture,
  dG "_law_purse" s_law_purse,
  dG "_law_draw" s_law_draw,
  dG "_law_amounts" s_law_amounts,
  dG "_law_fallen" s_law_fallen,
  dG "_law_rows_of" s_law_rows_of,
  dG "_law_arrays" s_law_arrays,
  dG "_law_held" s_law_held,
  dG "_law_right" s_law_right,
  dG "law" s_law,
  dM (fun K => He.ma K (He.ga K "Mixture") "__init__") "__init__" "Mixture.__init__" s_M_init,
  dM (fun K => He5.wf K (He.ga K "Mixture") "staticmethod" "of") "of" "Mixture.of" s_M_of,
  dM (fun K => He.ma K (He.ga K "Mixture") "held") "held" "Mixture.held" s_M_held]
def fnl : List He5.DefA := fn0 ++ fn1
def gl0 : List PySem.Str := ["is_number", "is_shape", "check_shape", "trimmed", "flipped_of", "all_shapes", "strips_on", "sums_along", "lighter_at", "check_sizes", "shapes_of", "flipped", "heavier", "are_amounts", "check_amounts", "parts_below", "tables_counted", "table_count", "check_margins", "rows_of_sum", "arrays_counted", "margin_count", "zero_one_count", "is_between", "common", "lowest", "is_fraction", "add", "times", "is_term"]
def gl1 : List PySem.Str := ["are_terms", "mixed", "plus", "with_rows", "rows_for", "flipped_dict", "summed", "shapes_from", "terms_of", "check_basis", "check_mixture", "_law_purse", "_law_draw", "_law_amounts", "_law_fallen", "_law_rows_of", "_law_arrays", "_law_held", "_law_right", "law", "Mixture"]
def glos : List PySem.Str := gl0 ++ gl1
def frees : List PySem.Str := ["len", "tuple", "isinstance", "all", "sum", "range", "min", "max", "int", "abs", "divmod", "sorted", "enumerate", "zip", "dict", "list", "bool", "str"]
def mixC (K : PySem.W.Frag) : Addr := He.ga K "Mixture"
/-! what the top must have left, as one answer -/
def chkG (K : PySem.W.Frag) : Bool := (glos.all fun x => (He.Fa.glo x).ok K) && (frees.all fun x => (He.Fa.free x).ok K)
def chkI (K : PySem.W.Frag) : Bool := (He.Fa.int "MOST_LONG" 12).ok K && ((He.Fa.int "MOST_BOXES" 40).ok K && ((He.Fa.int "MOST_DEGREE" 8).ok K && (He.Fa.int "MOST_MARGINS" 6).ok K))
def basesL : List He.Dv := [.str "shapes", .str "monomials", .str "rows", .str "columns", .str "powers"]
def chkT (K : PySem.W.Frag) : Bool := (He.Fa.glo "ZERO").ok K && ((He.Fa.glo "ONE").ok K && ((He.Fa.glo "BASES").ok K && (He.tupB K "ZERO" [.int 0, .int 1] && (He.tupB K "ONE" [.int 1, .int 1] && He.tupB K "BASES" basesL))))
def chkC (K : PySem.W.Frag) : Bool := (He.Fa.cls "Mixture").ok K && ((He.Fa.noat "Mixture" "by_shape").ok K && ((He.Fa.mkr "Mixture").ok K && (He.Fa.meth "Mixture" "held").ok K))
def chkS (K : PySem.W.Frag) : Bool := PySem.W.readsIn K (mixC K) (.type "type") && (He5.wrapB K (mixC K) "staticmethod" "staticmethod.__get__" "of" && PySem.W.keepIn K (.ref (mixC K)))
def chkY (K : PySem.W.Frag) : Bool := He.eqO (PySem.W.findIn K (.ref (mixC K)) "__class__") (some (some (.builtin "object.__class__"))) && (He.eqO (PySem.W.specialIn K (.builtin "object.__class__") "__get__") (some (some (.builtin "getset_descriptor.__get__"))) &&
  (decide (PySem.W.takesIn K (.builtin "object.__class__") = some true) && (decide (PySem.W.mroIn K (mixC K) (.type "object") = some true) && decide (PySem.W.kitOne K (.ref (mixC K)) (.ref (mixC K)) = some true))))
def chk (K : PySem.W.Frag) : Bool := chkG K && (chkI K && (chkT K && (chkC K && (chkS K && chkY K))))
def obsB (K : PySem.W.Frag) : He.AlD := (chk K && fnl.all fun d => d.ok K, fnl.map fun d => He5.fnA K (d.at_ K))
def valB : He.AlD := (true, fnl.map He5.DefA.val)
def SaysB (K : PySem.W.Frag) : Prop := obsB K = valB
/-! where the needed objects stand: the names, the defs' codes, the one class with its methods -/
def rfs (g : Addr → Option Obj) (as : List Addr) : List Addr := as.flatMap fun a => match g a with
  | some o => He.refsO o
  | none => []
def asW (g : Addr → Option Obj) : List Addr :=
  let l1 := rfs g [mainGlobals]
  let l2 := rfs g l1
  let c := match (He.frG g [mainGlobals]) with
    | K => rfs g [mixC K]
  let c2 := rfs g c
  let c3 := rfs g c2
  mainGlobals :: PySem.cStatics :: (l1 ++ (l2 ++ (c2 ++ (c3 ++ rfs g c3))))
def obsBG (g : Addr → Option Obj) : He.AlD := obsB (He.frG g (asW g))
def hk : PySem.W.Hook where
  α := He.AlD
  obs := fun s => obsBG s.heap.get?
  val := fun _ => valB
  says := fun _ h => ∃ K : PySem.W.Frag, K.In h ∧ SaysB K
  of := fun _ _ e => ⟨_, He.frG_in, e⟩
  keeps := fun _ _ _ ⟨K, hK, c⟩ k => ⟨K, PySem.W.Frag.In.keeps hK k, c⟩
theorem obsBG_eq {g : Addr → Option Obj} {s : Shared} (h : ∀ a, g a = s.heap.get? a) : obsBG g = hk.obs s := congrArg obsBG (funext h)
def ob (s : PySem.W.SharedT) : He.AlD := obsBG (HandSHeadRun.getT s)
theorem ob_eq (s : PySem.W.SharedT) : ob s = hk.obs s.abs := obsBG_eq (HandSHeadRun.getT_eq s)
abbrev R : PySem.W.OpenRow := PySem.W.OpenLaw.row PySem.Challenge.rw_wordshapes_k93_whole_margins_and_rows_he
theorem run (w : World) : HandSHeadRun.RunEq R (PySem.W.view R.prog [93]) hk ob 6000 names w := by
  intro os
  kernel_rfl
end Ws
set_option Elab.async false
set_option linter.all false
set_option maxRecDepth 100000
set_option maxHeartbeats 4000000
/-! The head's facts, joined to the promises. -/
namespace Ws
open PySem PySem.Spec L2
section
variable {K : PySem.W.Frag} {h : Heap} {mg : Str → Option Value}
theorem says_chk (c : SaysB K) : chk K = true ∧ (fnl.all fun d => d.ok K) = true := Bool.and_eq_true_iff.mp (show (chk K && fnl.all fun d => d.ok K) = true from congrArg (fun z : He.AlD => z.1) c)
theorem says_def (c : SaysB K) (i : Nat) {d : He5.DefA} (e : fnl[i]? = some d) : ∃ fd, FunD K d.name d.qual d.params d.body d.scope (d.dvs K) (d.kws K) (d.at_ K) fd := by
  have e1 : fnl.map (fun d => He5.fnA K (d.at_ K)) = fnl.map He5.DefA.val := congrArg (fun z : He.AlD => z.2) c
  have e2 : (fnl.map fun d => He5.fnA K (d.at_ K))[i]? = (fnl.map He5.DefA.val)[i]? := by rw [e1]
  rw [List.getElem?_map, List.getElem?_map, e] at e2
  exact He5.DefA.funD (Option.some.inj e2) (List.all_eq_true.mp (says_chk c).2 d (List.mem_of_getElem? e))
theorem says_glo (X : K.In h) (G : h.Ns mainGlobals mg) (c : SaysB K) (x : Str) (hx : x ∈ glos) : mg x = some (.ref (He.ga K x)) := by
  have h1 := (Bool.and_eq_true_iff.mp (says_chk c).1).1
  exact He.glo_ok X G (List.all_eq_true.mp (Bool.and_eq_true_iff.mp h1).1 x hx)
theorem says_free (X : K.In h) (G : h.Ns mainGlobals mg) (c : SaysB K) (x : Str) (hx : x ∈ frees) : mg x = none := by
  have h1 := (Bool.and_eq_true_iff.mp (says_chk c).1).1
  exact He.free_ok X G (List.all_eq_true.mp (Bool.and_eq_true_iff.mp h1).2 x hx)
theorem says_Def (X : K.In h) (G : h.Ns mainGlobals mg) (c : SaysB K) (i : Nat) {x : Str} {st : Stmt} (e : fnl[i]? = some (dG x st)) (hx : x ∈ glos) : Def K mg x st := by
  obtain ⟨fd, F⟩ := says_def c i e
  exact ⟨_, fd, says_glo X G c x hx, F⟩
theorem says_frees (X : K.In h) (G : h.Ns mainGlobals mg) (c : SaysB K) : Frees mg where
  len := says_free X G c "len" (by decide +kernel)
  tuple := says_free X G c "tuple" (by decide +kernel)
  isinstance := says_free X G c "isinstance" (by decide +kernel)
  all := says_free X G c "all" (by decide +kernel)
  sum := says_free X G c "sum" (by decide +kernel)
  range := says_free X G c "range" (by decide +kernel)
  min := says_free X G c "min" (by decide +kernel)
  max := says_free X G c "max" (by decide +kernel)
  int := says_free X G c "int" (by decide +kernel)
  abs := says_free X G c "abs" (by decide +kernel)
  divmod := says_free X G c "divmod" (by decide +kernel)
  sorted := says_free X G c "sorted" (by decide +kernel)
  enumerate := says_free X G c "enumerate" (by decide +kernel)
  zip := says_free X G c "zip" (by decide +kernel)
  dict := says_free X G c "dict" (by decide +kernel)
  list := says_free X G c "list" (by decide +kernel)
  bool := says_free X G c "bool" (by decide +kernel)
  str := says_free X G c "str" (by decide +kernel)
theorem int_const {x : Str} {i : Int} (X : K.In h) (G : h.Ns mainGlobals mg) (e : (He.Fa.int x i).ok K = true) : ∃ u, mg x = some u ∧ RelV (.int i) u := by
  obtain ⟨t, ht⟩ := He.int_ok X G e
  exact ⟨_, ht, ⟨t, rfl⟩⟩
theorem says_consts (X : K.In h) (G : h.Ns mainGlobals mg) (c : SaysB K) : Consts mg := by
  obtain ⟨c1, c2, c3, c4⟩ := (by
    have h1 := (Bool.and_eq_true_iff.mp (Bool.and_eq_true_iff.mp (says_chk c).1).2).1
    have h2 := Bool.and_eq_true_iff.mp h1
    have h3 := Bool.and_eq_true_iff.mp h2.2
    have h4 := Bool.and_eq_true_iff.mp h3.2
    exact ⟨h2.1, h3.1, h4.1, h4.2⟩ : (He.Fa.int "MOST_LONG" 12).ok K = true ∧ (He.Fa.int "MOST_BOXES" 40).ok K = true ∧ (He.Fa.int "MOST_DEGREE" 8).ok K = true ∧ (He.Fa.int "MOST_MARGINS" 6).ok K = true)
  exact ⟨int_const X G c1, int_const X G c2, int_const X G c3, int_const X G c4⟩
theorem says_tups (X : K.In h) (G : h.Ns mainGlobals mg) (c : SaysB K) : Tups K mg := by
  have h0 := (Bool.and_eq_true_iff.mp (says_chk c).1).2
  have h1 := (Bool.and_eq_true_iff.mp (Bool.and_eq_true_iff.mp h0).2).1
  obtain ⟨g1, h1⟩ := Bool.and_eq_true_iff.mp h1
  obtain ⟨g2, h1⟩ := Bool.and_eq_true_iff.mp h1
  obtain ⟨g3, h1⟩ := Bool.and_eq_true_iff.mp h1
  obtain ⟨t1, h1⟩ := Bool.and_eq_true_iff.mp h1
  obtain ⟨t2, t3⟩ := Bool.and_eq_true_iff.mp h1
  exact ⟨⟨_, _, He.glo_ok X G g1, rfl, fun H => He.tupB_ok t1 H⟩, ⟨_, _, He.glo_ok X G g2, rfl, fun H => He.tupB_ok t2 H⟩, ⟨_, _, He.glo_ok X G g3, rfl, fun H => He.tupB_ok t3 H⟩⟩
theorem says_mx (X : K.In h) (G : h.Ns mainGlobals mg) (c : SaysB K) : Mx K mg (mixC K) := by
  have h0 := (Bool.and_eq_true_iff.mp (Bool.and_eq_true_iff.mp (Bool.and_eq_true_iff.mp (says_chk c).1).2).2).2
  obtain ⟨hc, h0⟩ := Bool.and_eq_true_iff.mp h0
  obtain ⟨hs, hy⟩ := Bool.and_eq_true_iff.mp h0
  obtain ⟨c1, hc⟩ := Bool.and_eq_true_iff.mp hc
  obtain ⟨c2, hc⟩ := Bool.and_eq_true_iff.mp hc
  obtain ⟨c3, c4⟩ := Bool.and_eq_true_iff.mp hc
  obtain ⟨s1, hs⟩ := Bool.and_eq_true_iff.mp hs
  obtain ⟨s2, s3⟩ := Bool.and_eq_true_iff.mp hs
  obtain ⟨y1, hy⟩ := Bool.and_eq_true_iff.mp hy
  obtain ⟨y2, hy⟩ := Bool.and_eq_true_iff.mp hy
  obtain ⟨y3, hy⟩ := Bool.and_eq_true_iff.mp hy
  obtain ⟨y4, y5⟩ := Bool.and_eq_true_iff.mp hy
  obtain ⟨f1, F1⟩ := says_def c 50 (d := dM (fun K => He.ma K (He.ga K "Mixture") "__init__") "__init__" "Mixture.__init__" s_M_init) rfl
  obtain ⟨f2, F2⟩ := says_def c 51 (d := dM (fun K => He5.wf K (He.ga K "Mixture") "staticmethod" "of") "of" "Mixture.of" s_M_of) rfl
  obtain ⟨f3, F3⟩ := says_def c 52 (d := dM (fun K => He.ma K (He.ga K "Mixture") "held") "held" "Mixture.held" s_M_held) rfl
  obtain ⟨w1, w2⟩ := He5.wrapB_ok s2
  have ga : PySem.W.specialIn K (.ref (mixC K)) "__getattribute__" = some (some (.builtin "type.__getattribute__")) := by
    have s1' := s1
    simp only [PySem.W.readsIn, Bool.and_eq_true, beq_iff_eq] at s1'
    unfold PySem.W.specialIn
    rw [s1'.1.1.1.2]
    exact s1'.1.1.2
  exact ⟨says_glo X G c "Mixture" (by decide +kernel), He.cls_ok c1, He.noat_ok c2, ⟨He.cls_ok c1, He.eqO_ok y1, He.eqO_ok y2, of_decide_eq_true y3, of_decide_eq_true y4, of_decide_eq_true y5⟩, ⟨_, f1, He.mkr_ok c3, F1⟩, ⟨_, f3, He.meth_ok c4, F3⟩, ⟨_, _, f2, ⟨s1, ga, w1, w2, F2.kp⟩, F2⟩⟩
end
section
variable {K : PySem.W.Frag} {h : Heap} {mg : Str → Option Value}
theorem says_kit (X : K.In h) (G : h.Ns mainGlobals mg) (c : SaysB K) : Kit K mg := by
  have Fr := says_frees X G c
  have Cn := says_consts X G c
  have Tp := says_tups X G c
  have M := says_mx X G c
  have d_is_number : Def K mg "is_number" s_is_number := says_Def X G c 0 rfl (by decide +kernel)
  have d_is_shape : Def K mg "is_shape" s_is_shape := says_Def X G c 1 rfl (by decide +kernel)
  have d_check_shape : Def K mg "check_shape" s_check_shape := says_Def X G c 2 rfl (by decide +kernel)
  have d_trimmed : Def K mg "trimmed" s_trimmed := says_Def X G c 3 rfl (by decide +kernel)
  have d_flipped_of : Def K mg "flipped_of" s_flipped_of := says_Def X G c 4 rfl (by decide +kernel)
  have d_all_shapes : Def K mg "all_shapes" s_all_shapes := says_Def X G c 5 rfl (by decide +kernel)
  have d_strips_on : Def K mg "strips_on" s_strips_on := says_Def X G c 6 rfl (by decide +kernel)
  have d_sums_along : Def K mg "sums_along" s_sums_along := says_Def X G c 7 rfl (by decide +kernel)
  have d_lighter_at : Def K mg "lighter_at" s_lighter_at := says_Def X G c 8 rfl (by decide +kernel)
  have d_check_sizes : Def K mg "check_sizes" s_check_sizes := says_Def X G c 9 rfl (by decide +kernel)
  have d_shapes_of : Def K mg "shapes_of" s_shapes_of := says_Def X G c 10 rfl (by decide +kernel)
  have d_flipped : Def K mg "flipped" s_flipped := says_Def X G c 11 rfl (by decide +kernel)
  have d_heavier : Def K mg "heavier" s_heavier := says_Def X G c 12 rfl (by decide +kernel)
  have d_are_amounts : Def K mg "are_amounts" s_are_amounts := says_Def X G c 13 rfl (by decide +kernel)
  have d_check_amounts : Def K mg "check_amounts" s_check_amounts := says_Def X G c 14 rfl (by decide +kernel)
  have d_parts_below : Def K mg "parts_below" s_parts_below := says_Def X G c 15 rfl (by decide +kernel)
  have d_tables_counted : Def K mg "tables_counted" s_tables_counted := says_Def X G c 16 rfl (by decide +kernel)
  have d_table_count : Def K mg "table_count" s_table_count := says_Def X G c 17 rfl (by decide +kernel)
  have d_check_margins : Def K mg "check_margins" s_check_margins := says_Def X G c 18 rfl (by decide +kernel)
  have d_rows_of_sum : Def K mg "rows_of_sum" s_rows_of_sum := says_Def X G c 19 rfl (by decide +kernel)
  have d_arrays_counted : Def K mg "arrays_counted" s_arrays_counted := says_Def X G c 20 rfl (by decide +kernel)
  have d_margin_count : Def K mg "margin_count" s_margin_count := says_Def X G c 21 rfl (by decide +kernel)
  have d_zero_one_count : Def K mg "zero_one_count" s_zero_one_count := says_Def X G c 22 rfl (by decide +kernel)
  have d_is_between : Def K mg "is_between" s_is_between := says_Def X G c 23 rfl (by decide +kernel)
  have d_common : Def K mg "common" s_common := says_Def X G c 24 rfl (by decide +kernel)
  have d_lowest : Def K mg "lowest" s_lowest := says_Def X G c 25 rfl (by decide +kernel)
  have d_is_fraction : Def K mg "is_fraction" s_is_fraction := says_Def X G c 26 rfl (by decide +kernel)
  have d_add : Def K mg "add" s_add := says_Def X G c 27 rfl (by decide +kernel)
  have d_times : Def K mg "times" s_times := says_Def X G c 28 rfl (by decide +kernel)
  have d_is_term : Def K mg "is_term" s_is_term := says_Def X G c 29 rfl (by decide +kernel)
  have d_are_terms : Def K mg "are_terms" s_are_terms := says_Def X G c 30 rfl (by decide +kernel)
  have d_mixed : Def K mg "mixed" s_mixed := says_Def X G c 31 rfl (by decide +kernel)
  have d_plus : Def K mg "plus" s_plus := says_Def X G c 32 rfl (by decide +kernel)
  have d_with_rows : Def K mg "with_rows" s_with_rows := says_Def X G c 33 rfl (by decide +kernel)
  have d_rows_for : Def K mg "rows_for" s_rows_for := says_Def X G c 34 rfl (by decide +kernel)
  have d_flipped_dict : Def K mg "flipped_dict" s_flipped_dict := says_Def X G c 35 rfl (by decide +kernel)
  have d_summed : Def K mg "summed" s_summed := says_Def X G c 36 rfl (by decide +kernel)
  have d_shapes_from : Def K mg "shapes_from" s_shapes_from := says_Def X G c 37 rfl (by decide +kernel)
  have d_terms_of : Def K mg "terms_of" s_terms_of := says_Def X G c 38 rfl (by decide +kernel)
  have d_check_basis : Def K mg "check_basis" s_check_basis := says_Def X G c 39 rfl (by decide +kernel)
  have d_check_mixture : Def K mg "check_mixture" s_check_mixture := says_Def X G c 40 rfl (by decide +kernel)
  have d_law_purse : Def K mg "_law_purse" s_law_purse := says_Def X G c 41 rfl (by decide +kernel)
  have d_law_draw : Def K mg "_law_draw" s_law_draw := says_Def X G c 42 rfl (by decide +kernel)
  have d_law_amounts : Def K mg "_law_amounts" s_law_amounts := says_Def X G c 43 rfl (by decide +kernel)
  have d_law_fallen : Def K mg "_law_fallen" s_law_fallen := says_Def X G c 44 rfl (by decide +kernel)
  have d_law_rows_of : Def K mg "_law_rows_of" s_law_rows_of := says_Def X G c 45 rfl (by decide +kernel)
  have d_law_arrays : Def K mg "_law_arrays" s_law_arrays := says_Def X G c 46 rfl (by decide +kernel)
  have d_law_held : Def K mg "_law_held" s_law_held := says_Def X G c 47 rfl (by decide +kernel)
  have d_law_right : Def K mg "_law_right" s_law_right := says_Def X G c 48 rfl (by decide +kernel)
  have d_law : Def K mg "law" s_law := says_Def X G c 49 rfl (by decide +kernel)
  have k1 := k_is_number Fr d_is_number
  have k2 : T_is_shape K mg := k_is_shape Fr k1 d_is_shape
  have k3 : T_check_shape K mg := k_check_shape k2 d_check_shape
  have k4 : T_trimmed K mg := k_trimmed Fr d_trimmed
  have k5 : T_flipped_of K mg := k_flipped_of Fr d_flipped_of
  have k6 : T_all_shapes K mg := k_all_shapes Fr d_all_shapes
  have k7 : T_strips_on K mg := k_strips_on Fr k4 d_strips_on
  have k8 : T_sums K mg := k_sums_along Fr d_sums_along
  have k9 : T_lighter K mg := k_lighter_at Fr k8 d_lighter_at
  have k10 := k_check_sizes Fr Cn k3 d_check_sizes
  have k11 := k_shapes_of Fr Cn k1 k6 d_shapes_of
  have k12 := k_flipped Cn k3 k5 d_flipped
  have k13 := k_heavier k10 k9 d_heavier
  have k14 := k_are_amounts Fr d_are_amounts
  have k15 := k_check_amounts Cn k14 d_check_amounts
  have k16 := k_parts_below Fr k4 d_parts_below
  have k17 := k_tables k16 d_tables_counted
  have k18 := k_table_count Fr Cn k3 k15 k17 d_table_count
  have k19 := k_check_margins Fr Cn k14 d_check_margins
  have k20 := k_rows_of_sum Fr d_rows_of_sum
  have k21 := k_arrays Fr k20 d_arrays_counted
  have k22 := k_margin Cn k19 k21 d_margin_count
  have k23 := k_zero_one k19 k21 d_zero_one_count
  have k24 := k_is_between Fr d_is_between
  have k25 := k_common Fr d_common
  have k26 := k_lowest k25 d_lowest
  have k27 := k_is_fraction Fr k24 k25 d_is_fraction
  have k28 := k_add k26 d_add
  have k29 := k_times k26 d_times
  have k30 := k_is_term Fr Cn Tp k2 k27 d_is_term
  have k31 := k_are_terms Fr k30 d_are_terms
  have k32 := k_mixed Fr Tp k28 d_mixed
  have k33 := k_plus Fr k32 k29 d_plus
  have k34 := k_with_rows k32 k7 d_with_rows
  have k35 := k_rows_for Tp k34 d_rows_for
  have k36 := k_flipped_dict k32 k5 d_flipped_dict
  obtain ⟨fr, hfr, A⟩ := fnA_of k35
  have k37 := k_summed A k33 d_summed
  have k38 := k_shapes_from hfr k37 k36 d_shapes_from
  have k39 := k_terms_of Fr d_terms_of
  have k40 := k_check_basis Fr Tp d_check_basis
  have k41 := k_check_mixture Fr M d_check_mixture
  have k42 := k_draw Fr d_law_draw
  have k43 := k_amounts Fr k42 d_law_amounts
  have k44 := k_fallen Fr d_law_fallen
  have k45 := k_lrows Fr d_law_rows_of
  have k46 := k_larr Fr k45 d_law_arrays 4
  have k47 := k_lheld Fr Tp M k31 k40 k38 k39 k41 k28 k29 k44 d_law_held
  exact ⟨Fr, Cn, k42, k43, k46, k22, d_margin_count, k19, k21, k23, k11, k18, k12, k13, k44, k47⟩
end
theorem facts {P : Program} {w : World} {K : PySem.W.Frag} {h : Heap} {mg : Str → Option Value} {f : Addr} (LO : LastOk) (Gd : ∀ n p q, 1 ≤ n → n ≤ 6 → Dom1 n p → Dom1 n q → Good n p q) (X : K.In h) (G : h.Ns mainGlobals mg) (hfa : mg ("law" : Str) = some (.ref f)) (c : SaysB K) :
    ∃ fd : FuncData, (∀ (s : Shared) (v : Value), BindsTo s fd ⟨[v], []⟩ [("_law_script", v)]) ∧ ∀ base : Heap, K.In base → base.Ns mainGlobals mg → FnOk P w K mg base CX0 12 f fd ["_law_script"] (spLaw K) := by
  obtain ⟨fd, F⟩ := says_def c 49 (d := dG "law" s_law) rfl
  obtain ⟨fdp, Fp⟩ := says_def c 41 (d := dG "_law_purse" s_law_purse) rfl
  obtain ⟨fdr, Fr⟩ := says_def c 48 (d := dG "_law_right" s_law_right) rfl
  have e := hfa.symm.trans (says_glo X G c "law" (by decide +kernel))
  cases e
  have b := FunD.bindsA (ps := ["_law_script"]) F fun _ _ _ _ _ _ us hl => match us, hl with | [_], _ => rfl
  exact ⟨fd, fun s v => b s [v] rfl, fun base _ _ => ok_law (says_kit X G c) LO Gd F (says_glo X G c "_law_purse" (by decide +kernel)) Fp (says_glo X G c "_law_right" (by decide +kernel)) Fr _ _ _⟩
end Ws
set_option Elab.async false
set_option linter.all false
set_option maxRecDepth 100000
set_option maxHeartbeats 0
/-! The law. -/
open PySem PySem.W PySem.Calls PyProof.Rows
theorem PySem.Challenge.cw_wordshapes_k93_whole_margins_and_rows_he_holds : PySem.Challenge.rw_wordshapes_k93_whole_margins_and_rows_he.Holds := by
  w_on; o_law
  refine HandSHeadRun.head_any (r := OpenLaw.row PySem.Challenge.rw_wordshapes_k93_whole_margins_and_rows_he) (q := view (OpenLaw.row PySem.Challenge.rw_wordshapes_k93_whole_margins_and_rows_he).prog [93]) (H := Ws.hk) (ob := Ws.ob) (M := 6000) (loose := Ws.names) (d := HandSHeadRun.topDef (OpenLaw.row PySem.Challenge.rw_wordshapes_k93_whole_margins_and_rows_he).prog 93) (kwd := []) Ws.ob_eq
    (by kernel_rfl) (fun s => by kernel_rfl) Ws.run (by kernel_rfl) (by kernel_rfl) (by kernel_rfl) (by rfl) (by first | assumption | decide +kernel) (by decide +kernel) ⟨rfl, rfl, rfl, rfl, rfl, by decide +kernel⟩ ?hw ?hc
  case hw => w_witness2
  case hc =>
    refine L2.walk_ofE (l := PySem.Challenge.rw_wordshapes_k93_whole_margins_and_rows_he) (n := 63) (k := 12) (x := "_law_script") (CX := L2.CX0) rfl (by decide) (by kernel_rfl) ⟨rfl, by decide, by decide⟩ ?F (fun _ _ _ _ z => z)
    intro w mg fa h Y G hmg0
    obtain ⟨K, KX, c⟩ := Y
    have hmg : mg ("law" : PySem.Str) = some (.ref fa) := by
      have e : (HandSHeadRun.topDef (OpenLaw.row PySem.Challenge.rw_wordshapes_k93_whole_margins_and_rows_he).prog 93).name = ("law" : PySem.Str) := by kernel_rfl
      rw [← e]
      exact hmg0
    obtain ⟨fd, hb, hF⟩ := Ws.facts (P := (PySem.Challenge.rw_wordshapes_k93_whole_margins_and_rows_he).prog) (w := w) Ws.last_ok Ws.good_all KX G hmg c
    exact ⟨K, fd, Ws.spLaw K, KX, hb, fun H a ns hl _ hS => ⟨a, ns, rfl, hS, fun _ => rfl⟩, hF⟩
