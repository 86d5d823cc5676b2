import PyProof.Rows.All
import Wide.All
import OpenK.AllK
import Wide.FinOn
import HandS.ForMost
import HandS.Exc
import HandS.ExcOwn
import HandS.TryOnly
import HandS.WordsExc
import HandS.Flow
import HandS.Style
import HandS.TupAny
import HandS.Zip
import HandS.Walk
import HandS.IsInst
import HandS.SetFor
import HandS.Strs
import HandS.More
import KE.LtSeq
import KE.GoesEnum
import KE.KUnpackStar
import KE.KExcInit
import PySem.Challenge.RW_nextsuch_k02_whole_words_and_changes
set_option Elab.async false
set_option linter.all false
set_option maxRecDepth 100000
set_option maxHeartbeats 4000000
namespace NS
open PySem PySem.Spec PyProof.Rows L2

/-! ### a, *b = t -/
theorem nsOne {h : Heap} {L : Addr} {m m' : Str → Option Value} (a : h.Ns L m) (b : h.Ns L m') : m = m' := by
  obtain ⟨o1, es1, ep1, ho1, hd1, _, hm1⟩ := a
  obtain ⟨o2, es2, ep2, ho2, hd2, _, hm2⟩ := b
  rw [ho1] at ho2
  cases ho2
  rw [hd1] at hd2
  cases hd2
  funext x
  exact (hm1 x).symm.trans (hm2 x)
theorem newList_inv {X : Cx} {pins : List (Addr × Obj)} {σ : L2.St} {H : Hp} {s : Shared} {h' : Heap} {m : Str → Option Value} {D : Addr} {ys : List V} {its : List Value} {n t' : Nat} (I : Inv X pins σ H s)
    (F : Fr X.base X.env.locals h' m) (hm : s.heap.Ns X.env.locals m) (N : ∀ p ∈ allNews X.base s.heap X.env.locals, h'.get? p.1 = some p.2) (hD : s.heap.get? D = none)
    (new : h'.get? D = some { cls := .type "list", data := .seq its.toArray n }) (r : Vals ys its) (hz : ys.length ≤ sizeLine) : Inv X pins σ (upd H D (.lst ys)) { s with heap := h', toks := t' } := by
  have hn : H D = none := I.hok.gone hD
  have keepL : ∀ b o, b ≠ X.env.locals → s.heap.get? b = some o → h'.get? b = some o := fun b o hb e => by
    cases q : X.base.get? b with
    | some u =>
      have := I.bk b u q
      rw [e] at this
      cases this
      exact F.keep b _ q
    | none => exact N (b, o) (mem_allNews hb q e)
  have neD : ∀ b o, s.heap.get? b = some o → b ≠ D := fun b o e z => by
    rw [z, hD] at e
    cases e
  have neH : ∀ b o, H b = some o → b ≠ D := fun b o e z => by
    rw [z, hn] at e
    cases e
  have neLo : ∀ b o, H b = some o → b ≠ X.env.locals := fun b o e z => by
    rw [z, I.free] at e
    cases e
  refine I.step (g' := s.gens) (d' := s.drawn) (ch := []) (fun _ z => nomatch z) (fun b o hb _ _ e _ => keepL b o hb e) (fun b o hb _ _ e _ => ⟨o.slots, keepL b o hb e⟩)
    (fun b o _ e z => by rw [upd_ne (neD b o e)]; exact z) (fun b o _ e => ?_) (fun b xs e => by rw [upd_ne (neH b _ e)]; exact e) (fun b o u e => by rw [upd_ne (neH b _ e)]; exact e)
    (fun b ps e => ⟨#[], by rw [upd_ne (neH b _ e), e]; simp⟩) (fun m' hm' => by rw [nsOne hm' hm]; exact F.ns) (fun b u e => ?_) I.bare
  · by_cases hb : b = X.env.locals
    · obtain ⟨o', _, _, ho', _⟩ := F.ns
      exact ⟨o', by rw [hb]; exact ho'⟩
    · exact ⟨o, keepL b o hb e⟩
  · by_cases hb : b = D
    · subst hb
      rw [upd_same] at e
      cases e
      exact ⟨hz, its, n, r, new⟩
    · rw [upd_ne hb] at e
      refine (I.hok b u e).stay (fun c v hc q => keepL c v ?_ q) (fun c q => by rw [upd_ne (neH c _ q)]; exact q) fun c xs q => by rw [upd_ne (neH c _ q)]; exact q
      rcases hc with z | z
      · rw [z]; exact neLo b u e
      · exact neLo c _ z
/-- (a, .., *b, ..) = a tuple; the starred place at i of n -/
def gStar (K : PySem.W.Frag) (i n : Nat) (t : TGs) : TG := fun v σ H Q => ∃ a xs, v = .ref a ∧ SqT K H a xs ∧ n ≤ xs.length + 1 ∧ xs.length ≤ 16384 ∧
  ∀ D, H D = none → t (xs.take i ++ [.ref D] ++ (xs.drop i).drop (xs.length + 1 - n)) σ (upd H D (.lst ((xs.drop i).take (xs.length + 1 - n)))) Q
section
variable {X : Cx} {pos : Pos}
theorem pgs_star {e : Expr} {es : List Expr} {t : TG} {u : TGs} {p : Pos} (h1 : PG X e t) (h2 : PGs X es u)
    (hs : (assignEach (.Starred e p :: es) X.env).map (·.2) = assign e X.env :: (assignEach es X.env).map (·.2) := by rfl) : PGs X (.Starred e p :: es) (gCons t u) := by
  refine ⟨fun pins s σ H vs us Q I r ⟨v, vr, ev, h⟩ => ?_⟩
  subst ev
  cases r with
  | cons r1 r2 =>
    rw [hs]
    refine assignInOrder_cons (thn (h1.run pins s σ H _ _ _ I r1 h) fun _ s1 z => ?_)
    obtain ⟨σ1, H1, I1, q1⟩ := z
    exact h2.run pins s1 σ1 H1 _ _ Q I1 r2 q1
theorem pg_star {es : List Expr} {k i n : Nat} {t : TGs} (hc : X.calm = true) (h : PGs X es t) (hi : i < n)
    (hn : (assignEach es X.env).length = n := by rfl) (hst : (assignEach es X.env).findIdx? (·.1) = some i := by rfl) : PG X (.Tuple es k pos) (gStar X.K i n t) := by
  refine ⟨fun pins s σ H v u Q I r hw => ?_⟩
  obtain ⟨a, xs, ev, hq, hl, hz, hw⟩ := hw
  subst ev
  cases r
  obtain ⟨its, rv, ht, _⟩ := I.tuple hq
  obtain ⟨m, F⟩ := I.fr
  have hlen := rv.length
  have hsz : its.toArray.size = xs.length := by rw [List.size_toArray]; exact hlen.symm
  refine PySem.W.kun_assignT F (news_all (g := X.base) (h := s.heap) (L := X.env.locals)) ht (I.ok.hd hc) hn hst hi (by rw [hsz]; exact hl) (by rw [hsz]; exact hz) (first := its.take i) (mids := (its.drop i).take (xs.length + 1 - n)) (lasts := (its.drop i).drop (xs.length + 1 - n)) rfl (by rw [hsz]) (by rw [hsz]) fun D h' tk F' N' hD => ?_
  have hD0 : s.heap.get? D = none := by
    cases q : s.heap.get? D with
    | none => rfl
    | some o =>
      have p0 := N' _ List.mem_cons_self
      exact absurd (hD (D, o) (mem_allNews p0.2.1 p0.2.2 q)) (Nat.lt_irrefl _)
  have new := (N' _ List.mem_cons_self).1
  have rv1 : Vals (xs.take i) (its.take i) := rv.take i
  have rv2 : Vals ((xs.drop i).take (xs.length + 1 - n)) ((its.drop i).take (xs.length + 1 - n)) := (rv.drop i).take _
  have rv3 : Vals ((xs.drop i).drop (xs.length + 1 - n)) ((its.drop i).drop (xs.length + 1 - n)) := (rv.drop i).drop _
  have J := newList_inv (t' := tk) (D := D) (ys := (xs.drop i).take (xs.length + 1 - n)) (its := (its.drop i).take (xs.length + 1 - n)) (n := 0) I F' F.ns (fun p hp => (N' p (List.mem_cons_of_mem _ hp)).1) hD0
    new rv2 (by rw [List.length_take, List.length_drop]; rw [sizeLine_eq]; omega)
  have rD : Vals [V.ref D] [Value.ref D] := .cons (show RelV (V.ref D) (Value.ref D) from rfl) .nil
  exact h.run pins _ σ _ _ _ Q J ((rv1.append rD).append rv3) (hw D (I.hok.gone hD0))
end
end NS

namespace NS
open PySem PySem.Spec PyProof.Rows L2

/-! ### t[::-1] of a tuple -/
section
variable {prog : Program} {w : World} {A : Around} {E : Value → Shared → Prop} {s : Shared}
theorem applied_back {sl : Addr} {vt : Value} {n : Nat} {Q : Int × Int × Nat → Shared → Prop} (hs : s.heap.IsSliceOf sl .none .none vt) (pt : IsPart vt (some (-1)))
    (h : Q ((n : Int) - 1, -1, n) s) : wpAny (model prog w) A (Builtin.Slice.sliceApplied (.ref sl) (pure (n : Int))) Q E s := by
  obtain ⟨ob, hob, hcb, hdb⟩ := id hs
  have hp : Builtin.Slice.slicePlaces ((n : Int) - 1) (-1) (-1) = n := by
    unfold Builtin.Slice.slicePlaces
    have h0 : ¬ ((-1 : Int) > 0) := by decide
    have h1 : (-(-1 : Int)) = 1 := by decide
    simp only [h0, if_false, h1, Int.ediv_one]
    by_cases hz : (n : Int) - 1 > -1
    · simp only [hz, if_true]; omega
    · simp only [hz, if_false]; omega
  unfold Builtin.Slice.sliceApplied Builtin.Slice.sliceFields
  refine wpAny_bind (wpAny_bind (wpAny_field hob hdb (x := .none) rfl (wpAny_bind (wpAny_field hob hdb (x := .none) rfl (wpAny_bind (wpAny_field hob hdb (x := vt) rfl (wpAny_pure ?_)))))))
  refine wpAny_bind (HT.slicePart_ pt ?_)
  show wpAny _ _ (if ((-1 : Int) == 0) = true then _ else _) _ _ s
  rw [if_neg (by decide)]
  refine wpAny_bind (slicePart_none (wpAny_bind (slicePart_none (wpAny_bind (wpAny_pure ?_)))))
  show wpAny _ _ (pure (((n : Int) - 1), (-1 : Int), Builtin.Slice.slicePlaces ((n : Int) - 1) (-1) (-1))) _ _ s
  rw [hp]
  exact wpAny_pure h
theorem back_pick (xs : Array Value) : ((List.range xs.size).filterMap fun (m : Nat) => xs[(((xs.size : Int) - 1) + (m : Int) * (-1)).toNat]?).toArray = xs.toList.reverse.toArray := by
  congr 1
  have h1 : ∀ m ∈ List.range xs.size, (fun (m : Nat) => xs[(((xs.size : Int) - 1) + (m : Int) * (-1)).toNat]?) m = ((xs[·]?) ∘ fun k => xs.size - 1 - k) m := fun m hm => by
    have hlt := List.mem_range.mp hm
    have e : (((xs.size : Int) - 1) + (m : Int) * (-1)).toNat = xs.size - 1 - m := by omega
    show xs[(((xs.size : Int) - 1) + (m : Int) * (-1)).toNat]? = xs[xs.size - 1 - m]?
    rw [e]
  have h2 : ∀ (l : List Nat) (f g : Nat → Option Value), (∀ m ∈ l, f m = g m) → l.filterMap f = l.filterMap g := fun l f g hfg => by
    induction l with
    | nil => rfl
    | cons a r ih =>
      rw [List.filterMap_cons, List.filterMap_cons, hfg a List.mem_cons_self, ih fun m hm => hfg m (List.mem_cons_of_mem _ hm)]
  rw [h2 _ _ _ h1, ← List.filterMap_map, PySem.W.krv_range, List.filterMap_reverse, PySem.W.krv_all]
theorem getItem_tuple_back {t sl : Addr} {items : Array Value} {vt : Value} {Q : Value → Shared → Prop} (ht : IsTup s.heap t items) (hs : s.heap.IsSliceOf sl .none .none vt) (pt : IsPart vt (some (-1)))
    (h : Q (.ref s.heap.objs.size) { s with heap := s.heap.push { cls := .type "tuple", data := .seq items.toList.reverse.toArray } }) (hsz : items.size ≤ sizeLine) : wpAny (model prog w) A (getItem (.ref t) (.ref sl)) Q E s := by
  have hok : sizeOk (.seq items.toList.reverse.toArray) := by
    show items.toList.reverse.toArray.size ≤ sizeLine
    rw [List.size_toArray, List.length_reverse, Array.length_toList]
    exact hsz
  obtain ⟨ob, hob, hcb, hdb⟩ := id hs
  have hT : s.TypeIs (.ref sl) "slice" := ⟨ob, hob, hcb⟩
  unfold getItem
  try with_reducible refine wpAny_holding ?_
  first | refine wpAny_bind (wpAny_pure ?_) | skip
  refine wpAny_bind (wpAny_sequenceKey ht.typeIs (by decide) ?_)
  refine wpAny_bind (wpAny_callSpecial?_slot (name := Str.ofString "__getitem__") ht.typeIs PyProof.Rows.slot_tuple_getitem (wpAny_call_entry PyProof.Rows.slot_tuple_getitem ht.typeIs entry_tuple_getitem ?_ (args_tuple_getitem _ _)))
  show wpAny _ _ (Builtin.Tuple.tupleItemsOf (.ref t) >>= _) _ _ s
  refine wpAny_bind (tupleItemsOf_ ht (wpAny_bind (wpAny_typeOf hT ?_)))
  rw [if_pos (by decide)]
  refine wpAny_bind (applied_back hs pt ?_)
  have hno : ¬ ((((items.size : Int) - 1) == 0 && (-1 : Int) == 1 && items.size == items.size) = true) := by
    intro q
    rw [Bool.and_eq_true, Bool.and_eq_true] at q
    exact absurd q.1.2 (by decide)
  show wpAny _ _ (if (((items.size : Int) - 1) == 0 && (-1 : Int) == 1 && items.size == items.size) = true then _ else _) _ _ s
  rw [if_neg hno, back_pick]
  first
    | exact wpAny_bind (m := Builtin.Tuple.tupleExact _) (wpAny_newObj_type (wpAny_pure ⟨_, rfl, wpAny_pure h⟩) hok)
    | exact wpAny_bind (m := Builtin.Tuple.tupleExact _) (wpAny_newObj_type (wpAny_bind (wpAny_pure (wpAny_pure ⟨_, rfl, wpAny_pure h⟩))) hok)
    | exact wpAny_bind (wpAny_bind (m := Builtin.Tuple.tupleExact _) (wpAny_newObj_type (wpAny_pure (wpAny_pure ⟨_, rfl, wpAny_pure h⟩)) hok))
    | exact wpAny_bind (wpAny_bind (m := Builtin.Tuple.tupleExact _) (wpAny_newObj_type (wpAny_pure ⟨_, rfl, wpAny_pure h⟩) hok))
end
/-- t[::-1] -/
def tRevT (K : PySem.W.Frag) (te : TE) : TE := fun σ H Q => te σ H fun x H1 => ∃ a xs, x = .ref a ∧ SqT K H1 a xs ∧ ∀ p, H1 p = none → Q (.ref p) (upd H1 p (.tup xs.reverse))
theorem pe_revT {X : Cx} {e : Expr} {te : TE} {k : Nat} {p1 p2 p3 pos : Pos} (he : PE X e te) : PE X (.Subscript e (.Slice none none (some (.UnaryOp .USub (.Constant (.int 1) k p1) p2)) p3) pos) (tRevT X.K te) := by
  refine ⟨fun pins s σ H Q I h => Subscript_ (thn (he.run pins s σ H _ I h) fun v s1 ⟨x, H1, I1, r1, a, xs, ex, hx, q⟩ => ?_)⟩
  subst ex
  cases r1
  have hst : PO X (some (.UnaryOp .USub (.Constant (.int 1) k p1) p2)) (tPart (tUn (rU fun i => .int (-i)) (tC (.int 1)))) := po_some (pe_un un_neg pe_int)
  refine wpAny_Slice (thn (po_none.run pins s1 σ H1 (fun o H2 => o = none ∧ H2 = H1) I1 ⟨rfl, rfl⟩) fun vl s2 ⟨l, H2, I2, pl, el, e2⟩ => ?_)
  subst el e2
  cases pl
  refine thn (po_none.run pins s2 σ H2 (fun o H3 => o = none ∧ H3 = H2) I2 ⟨rfl, rfl⟩) fun vu s3 ⟨u, H3, I3, pu, eu, e3⟩ => ?_
  subst eu e3
  cases pu
  refine thn (hst.run pins s3 σ H3 (fun o H4 => o = some (-1) ∧ H4 = H3) I3 ⟨1, rfl, -1, rfl, rfl, rfl⟩) fun vt s4 ⟨o, H4, I4, pt, eo, e4⟩ => ?_
  subst eo e4
  have I5 : Inv X pins σ H4 { s4 with heap := s4.heap.push { cls := .type "slice", data := .fields #[.none, .none, vt] } } := I4.kept (t' := s4.toks) fun b ob q => Heap.get?_push_of_some _ q
  obtain ⟨its, r, ht, hz⟩ := I5.tuple hx
  have hlen := r.length
  show wpAny (model X.prog X.w) X.A (subscriptTail e (.Slice none none (some (.UnaryOp .USub (.Constant (.int 1) k p1) p2)) p3) (.ref a) (.ref s4.heap.objs.size)) (EP X pins σ Q) X.xe { s4 with heap := s4.heap.push { cls := .type "slice", data := .fields #[.none, .none, vt] } }
  refine tail_any (ops := [.ref a, .ref s4.heap.objs.size]) ht.typeIs PyProof.Rows.slot_tuple_getitem.lookup ?_ (by with_unfolding_all rfl)
  refine getItem_tuple_back ht (Heap.IsSliceOf.new _ .none .none vt) pt ?_ (by rw [List.size_toArray]; omega)
  refine ⟨.ref _, _, I5.laid (t' := s4.toks) (o := .tup xs.reverse) (fun b ob q => Heap.get?_push_of_some _ q) (Nat.le_refl _) ?_, rfl, q _ (I5.hok.fresh (Nat.le_refl _))⟩
  exact ⟨by rw [List.length_reverse]; exact hz, _, r.reverse, ⟨_, Heap.get?_push_size _ rfl, rfl, _, rfl⟩⟩

/-! ### (n, t) < (m, u), t and u tuples of ints -/
def rLtP (K : PySem.W.Frag) : R2 := fun x y H Q => ∃ (a b p q : Addr) (n m : Int) (ns ms : List Int), x = .ref a ∧ y = .ref b ∧ SqT K H a [.int n, .ref p] ∧ SqT K H b [.int m, .ref q] ∧ SqT K H p (ns.map V.int) ∧ SqT K H q (ms.map V.int) ∧
  Q (.bl (HT.lexLt (n :: ns) (m :: ms))) H
theorem ints_one : ∀ {its : List Value} {ns ms : List Int}, IntsAre its ns → IntsAre its ms → ns = ms
  | _, _, _, .nil, .nil => rfl
  | _, _, _, .cons _ _ h, .cons _ _ h' => by rw [ints_one h h']
theorem int_get {its : List Value} {ns : List Int} (h : IntsAre its ns) (j : Nat) (hj : j < its.length) : ∃ t, its[j] = .int (ns.getD j 0) t :=
  IntsAre.int_at h j _ (List.getElem?_eq_getElem hj)
theorem tupEq {A : Around} {s : Shared} {l b : Addr} {its its2 : List Value} {ns ms : List Int} (hl : IsTup s.heap l its.toArray) (hb : IsTup s.heap b its2.toArray) (hi : IntsAre its ns) (hj : IntsAre its2 ms) (hu : A.units < cLine) :
    ∃ k, SeqAt.EqAt A s (.ref l) (.ref b) k ∧ (k = true → ns = ms) := by
  by_cases e : l = b
  · subst e
    refine ⟨true, SeqAt.EqAt.same _, fun _ => ?_⟩
    obtain ⟨o, ho, _, n, hd⟩ := hl
    obtain ⟨o', ho', _, n', hd'⟩ := hb
    rw [ho] at ho'; cases ho'
    rw [hd] at hd'; injection hd' with hd' _
    have e1 : its = its2 := by simpa using congrArg Array.toList hd'
    subst e1
    exact ints_one hi hj
  · refine ⟨_, SeqAt.EqAt.of_refs e (SeqAt.RcAt.tuples (e := fun j => ns.getD j 0 == ms.getD j 0) hl hb hu fun j h1 h2 => ?_), fun q => ?_⟩
    · obtain ⟨t, q1⟩ := int_get hi j (by simpa using h1)
      obtain ⟨u, q2⟩ := int_get hj j (by simpa using h2)
      have q1' : its.toArray[j] = .int (ns.getD j 0) t := by simpa using q1
      have q2' : its2.toArray[j] = .int (ms.getD j 0) u := by simpa using q2
      rw [q1', q2']
      exact SeqAt.EqAt.int_int _ _ _ _
    · have l1 := hi.length
      have l2 := hj.length
      rw [Bool.and_eq_true, List.all_eq_true, beq_iff_eq, List.size_toArray, List.size_toArray] at q
      obtain ⟨q1, q2⟩ := q
      apply List.ext_getElem
      · omega
      · intro j h1 h2
        have := q1 j (List.mem_range.mpr (by omega))
        have := eq_of_beq this
        rw [List.getD_eq_getElem?_getD, List.getD_eq_getElem?_getD, List.getElem?_eq_getElem h1, List.getElem?_eq_getElem h2] at this
        exact this
theorem tupLt {A : Around} {s : Shared} {l b : Addr} {its its2 : List Value} {ns ms : List Int} (hl : IsTup s.heap l its.toArray) (hb : IsTup s.heap b its2.toArray) (hi : IntsAre its ns) (hj : IntsAre its2 ms) (hu : A.units < cLine) :
    SeqAt.RcLt A s (.ref l) (.ref b) (HT.lexLt ns ms) := fun prog w E Q h => HT.lt_tupInts hl hb hi hj hu h
theorem lexLt_self : ∀ ns : List Int, HT.lexLt ns ns = false
  | [] => rfl
  | x :: r => by rw [HT.lexLt_cons, if_pos rfl, lexLt_self r]
theorem op_ltP {X : Cx} (hu : X.A.units + 64 < cLine) : OpR X (compareOp .Lt) (rLtP X.K) := by
  intro pins s σ H x y v u Q I rx ry h
  obtain ⟨a, b, p, q, n, m, ns, ms, rfl, rfl, ha, hb, hp, hq, h⟩ := h
  cases rx
  cases ry
  obtain ⟨ia, ra, ta, _⟩ := I.tuple ha
  obtain ⟨ib, rb, tb, _⟩ := I.tuple hb
  obtain ⟨ip, rp, tp, _⟩ := I.tuple hp
  obtain ⟨iq, rq, tq, _⟩ := I.tuple hq
  obtain ⟨u1, u2, rfl, ⟨t1, rfl⟩, e2⟩ := vals2 ra
  cases e2
  obtain ⟨w1, w2, rfl, ⟨t2, rfl⟩, e3⟩ := vals2 rb
  cases e3
  obtain ⟨k, hk, hk'⟩ := tupEq (A := X.A.in1) tp tq rp.ints rq.ints (by show X.A.units + 1 < cLine; omega)
  have hlt := tupLt (A := X.A.in1) tp tq rp.ints rq.ints (by show X.A.units + 1 < cLine; omega)
  have e : SeqAt.firstLt (fun j => if j = 0 then n == m else k) (fun j => if j = 0 then decide (n < m) else HT.lexLt ns ms) (decide (2 < 2)) [0, 1] = HT.lexLt (n :: ns) (m :: ms) := by
    rw [HT.lexLt_cons]
    by_cases z : n = m
    · subst z
      rw [if_pos rfl, SeqAt.firstLt_yes (by simp)]
      cases k with
      | true =>
        rw [SeqAt.firstLt_yes (by simp), hk' rfl, lexLt_self]
        rfl
      | false =>
        rw [SeqAt.firstLt_no (by simp)]
        rfl
    · rw [if_neg z, SeqAt.firstLt_no (by simpa using z)]
      rfl
  refine SeqAt.RcLt.tuples (e := fun j => if j = 0 then n == m else k) (r := fun j => if j = 0 then decide (n < m) else HT.lexLt ns ms) ta tb (by omega) (fun j h1 h2 => ?_) (fun j h1 h2 _ => ?_) X.prog X.w X.xe _ ?_
  · match j, h1, h2 with
    | 0, _, _ => exact SeqAt.EqAt.int_int _ _ _ _
    | 1, _, _ => exact hk
  · match j, h1, h2 with
    | 0, _, _ => exact fun prog w E Q h => HT.rcLt_int _ _ _ _ _ _ prog w E Q h
    | 1, _, _ => exact hlt
  · show EP X pins σ Q (.bool (SeqAt.firstLt (fun j => if j = 0 then n == m else k) (fun j => if j = 0 then decide (n < m) else HT.lexLt ns ms) (decide (2 < 2)) [0, 1])) s
    rw [e]
    exact ⟨.bl _, H, I, rfl, h⟩
end NS

namespace NS
open PySem PySem.Spec PyProof.Rows L2
/-! ### enumerate(t), t a tuple -/
theorem enum_newT (l : Addr) (items : Array Value) (n : Nat) (dct : Option Addr) (sl : Array (Option Value)) :
    Meets (Builtin.«enumerate.__new__» ⟨[.type "enumerate", .ref l], []⟩) (fun _ R s => s.heap.get? l = some { cls := .type "tuple", dict := dct, data := .seq items n, slots := sl } ∧
      R (.ok (.ret (.ref (s.heap.push { cls := .type "tuple_iterator", data := .fields #[.ref l, .int 0 0] }).objs.size)))
        { s with heap := (s.heap.push { cls := .type "tuple_iterator", data := .fields #[.ref l, .int 0 0] }).push { cls := .type "enumerate", data := .fields #[.none, .bool false, .ref s.heap.objs.size, rawInt 0, .none, .none] } }) :=
  .of_wp fun prog w A R s h => by
    obtain ⟨hp, g, d, tk, os⟩ := s
    obtain ⟨hl, h⟩ := h
    have hsub := sub_enumerate
    have hT : Heap.IsTuple (Shared.heap ⟨hp, g, d, tk, os⟩) l items := ⟨_, hl, rfl, n, rfl⟩
    wp_walk using AutoSeq1.wpAny_loadPart' hl
    refine wpAny_stack_any fun st => wpAny_pure ?_
    split
    · rename_i c _ _ _ _ _
      cases (c == Value.type "enumerate") <;>
        (wp_walk using AutoSeq1.wpAny_loadPart' hl, wpAny_pyIter_tuple hT; exact ⟨_, rfl, h⟩)
    · wp_walk using AutoSeq1.wpAny_loadPart' hl, wpAny_pyIter_tuple hT
      exact ⟨_, rfl, h⟩
section
variable {prog : Program} {w : World} {A : Around} {E : Value → Shared → Prop} {s : Shared}
theorem call_enumT {l : Addr} {items : Array Value} {Q : Value → Shared → Prop} (hL : s.heap.IsTuple l items)
    (h : ∀ h', IsEnum h' (s.heap.objs.size + 1) s.heap.objs.size 0 .none → h'.IsTupleIter s.heap.objs.size l 0 → (∀ b o, s.heap.get? b = some o → h'.get? b = some o) → Q (.ref (s.heap.objs.size + 1)) { s with heap := h' }) :
    wpAny (model prog w) A (call (.type "enumerate") [.ref l]) Q E s := by
  obtain ⟨⟨c, dct, dt, sl⟩, hl, hc, n, hd⟩ := hL
  simp only at hc hd
  subst hc hd
  refine callType_new F.called_enumerate (by decide) (F.typeCall_enumerate_1 _) (F.newCall_enumerate_1 _) (fun obj => F.args_object_init_2 obj _) F.entry_enumerate_new (enum_newT l items n dct sl) ⟨hl, ?_⟩
  have hz : (s.heap.push { cls := .type "tuple_iterator", data := .fields #[.ref l, .int 0 0] }).objs.size = s.heap.objs.size + 1 := Heap.size_push ..
  show _ ∧ _
  rw [hz]
  have g := Heap.get?_push_size (s.heap.push { cls := .type "tuple_iterator", data := .fields #[.ref l, .int 0 0] }) (o := { cls := .type "enumerate", data := .fields #[.none, .bool false, .ref s.heap.objs.size, rawInt 0, .none, .none] }) rfl
  rw [hz] at g
  exact ⟨⟨_, g, rfl⟩, h _ g ⟨_, Heap.get?_push_of_some _ (Heap.get?_push_size _ rfl), rfl, rfl⟩ fun b o x => Heap.get?_push_of_some _ (Heap.get?_push_of_some _ x)⟩
end
/-- the tuple at a, each item in a new pair with its number -/
def ItE (a : Addr) : It :=
  ⟨fun i H => ∃ (xs : List V) (x : V), H a = some (.tup xs) ∧ xs[i]? = some x, fun i H v H' => ∃ T x, v = .ref T ∧ H T = none ∧ H' = upd H T (.tup [.int (i : Nat), x]) ∧ ∀ xs, H a = some (.tup xs) → xs[i]? = some x,
    fun i H => ∃ xs : List V, H a = some (.tup xs) ∧ xs.length = i⟩
theorem turn_enumT {P : Program} {w : World} {K : PySem.W.Frag} {elts : List Expr} {kk : Nat} {tpos : Pos} (a e it : Addr) :
    Turn P w K (.Tuple elts kk tpos) (ItE a) [e, it] e (fun i h => (∃ old, IsEnum h e it ((i : Nat) : Int) old) ∧ h.IsTupleIter it a i ∧ e ≠ it) where
  mem := by simp
  obj := fun i h st b hb => by
    obtain ⟨⟨old, he⟩, ⟨o, ho, _, hd⟩, _⟩ := st
    rcases (by simpa using hb : b = e ∨ b = it) with z | z
    · rw [z]; exact ⟨_, he, fun v q => nomatch q⟩
    · rw [z]; exact ⟨o, ho, fun v q => by rw [hd] at q; cases q⟩
  keep := fun i h h' st k => by
    obtain ⟨⟨old, he⟩, hi, hne⟩ := st
    exact ⟨⟨old, k e (by simp) _ he⟩, hi.at fun o q => k it (by simp) o q, hne⟩
  item := by
    intro X hP hw hK hc i pins s σ H E I hf st ⟨xs, x, hq, hx⟩
    subst hP hw hK
    obtain ⟨⟨old, he⟩, hit, hne⟩ := st
    obtain ⟨its, rv, p, hz⟩ := I.tuple (SqT.of hq)
    obtain ⟨u, hu, ru⟩ := rv.get hx
    have f1 := hf e (by simp)
    have f2 := hf it (by simp)
    have nae : a ≠ e := fun z => by rw [z, f1.1] at hq; cases hq
    have nai : a ≠ it := fun z => by rw [z, f2.1] at hq; cases hq
    have hel : e < s.heap.objs.size := Heap.lt_size he
    have hil : it < s.heap.objs.size := by obtain ⟨_, q, _⟩ := hit; exact Heap.lt_size q
    have hlt : i < its.toArray.size := by rw [List.size_toArray]; exact (List.getElem?_eq_some_iff.mp hu).1
    -- the pair of this turn
    refine wpAny_pyNext_enum_itemC (Draws.tuple (A := X.A.in1) (by show X.A.handled = none; exact I.ok.hd hc) it a nai its.toArray) he ⟨hit, p⟩ hlt hne ?_ fun y h' tk hy ho hst' hT hsz hk => ?_
    · rw [List.mem_cons, List.mem_singleton, not_or]
      exact ⟨hne, Ne.symm nae⟩
    · have ey : y = u := by
        have q1 : its[i]? = some y := by simpa using hy
        rw [q1] at hu
        exact Option.some.inj hu
      subst ey
      have e1 : ((i + 1 : Nat) : Int) = (i : Int) + 1 := by omega
      refine ⟨_, rfl, wpAny_letOwnedTupleGo_enum (s := { s with heap := h', toks := tk + 1 }) ho fun h2 he2 sb => ?_⟩
      have hT2 : h2.get? s.heap.objs.size = some { cls := .type "tuple", data := .seq #[.int i tk, y] } := (sb.2 _ (Nat.ne_of_gt hel)).trans hT
      have new : ObjOk X.prog X.w (upd H s.heap.objs.size (.tup [.int (i : Nat), x])) h2 s.heap.objs.size (.tup [.int (i : Nat), x]) :=
        ⟨by show 2 ≤ sizeLine; decide, [.int i tk, y], .cons ⟨_, rfl⟩ (.cons ru .nil), ⟨_, hT2, rfl, _, rfl⟩⟩
      have I1 : Inv X pins σ (upd H s.heap.objs.size (.tup [.int (i : Nat), x])) { s with heap := h2, toks := tk + 1 } :=
        I.turnedNew (ch := [e, it]) (fun b ob hb q => (sb.2 b (fun z => hb (by simp [z]))).trans (hk b ob (fun z => hb (by simp [z])) (fun z => hb (by simp [z])) q)) hf (Nat.le_refl _) new
      refine ⟨.ref s.heap.objs.size, _, I1, rfl, ⟨_, x, rfl, I.hok.fresh (Nat.le_refl _), rfl, fun ys hy => ?_⟩, ⟨⟨y, by rw [e1]; exact he2⟩, hst'.1.at fun o q => (sb.2 it (Ne.symm hne)).trans q, hne⟩, fun b hb => ?_⟩
      · rw [hq] at hy
        cases hy
        exact hx
      · have hb' : b < s.heap.objs.size := by
          rcases (by simpa using hb : b = e ∨ b = it) with z | z
          · rw [z]; exact hel
          · rw [z]; exact hil
        rw [upd_ne (Nat.ne_of_lt hb')]
        exact (hf b hb).1
  done := by
    intro X hP hw hK hc i pins s σ H E I hf st ⟨xs, hq, hx⟩
    subst hP hw hK
    obtain ⟨⟨old, he⟩, hit, hne⟩ := st
    obtain ⟨its, rv, p, hz⟩ := I.tuple (SqT.of hq)
    obtain ⟨f0, f1, f2, f3, f4, f5⟩ := hf it (by simp)
    have nai : a ≠ it := fun z => by rw [z, f0] at hq; cases hq
    have hl := rv.length
    have hsz : its.toArray.size = i := by rw [List.size_toArray, ← hl]; exact hx
    subst hsz
    exact wpAny_pyNext_enum_endD (Draws.tuple (A := X.A.in1) (by show X.A.handled = none; exact I.ok.hd hc) it a nai its.toArray) he ⟨hit, p⟩ fun h' eb => ⟨rfl, I.turned (t' := s.toks) (fun b o hb q => eb b o hb q) f0 f1 f3 f4 f5⟩
  self := fun A i s Q E st h => by
    obtain ⟨⟨_, he⟩, _⟩ := st
    exact wpAny_pyIter_enum he h
def iEnumT (ta : TA) : TI := fun σ H R => ta σ H fun vs H1 => ∃ a xs, vs = [.ref a] ∧ H1 a = some (.tup xs) ∧ R (ItE a) H1
theorem pi_enumT {X : Cx} {e : Expr} {ta : TA} {p pos tpos : Pos} {elts : List Expr} {kk : Nat} (hg : Gl X "enumerate") (hm : X.mg "enumerate" = none) (ha : PA X [e] ta) (hs : starEach [e] X.env = [(false, eval e X.env)] := by rfl) :
    PI X (.Tuple elts kk tpos) (.Call (.Name "enumerate" p) [e] [] pos) (iEnumT ta) := by
  refine ⟨fun pins s σ H R I h => ?_⟩
  refine Call_ (ld_blt I hg hm boot_enumerate (PyProof.Rows.callWith_type1 (thn (ha.run pos pins s σ H _ I h) fun us s1 ⟨vs, H1, I1, r1, a, xs, ex, hq, q⟩ => ?_) hs rfl))
  subst ex
  obtain ⟨its, rv, pt, _⟩ := I1.tuple (SqT.of hq)
  rw [Vals.ref1 r1]
  refine call_enumT pt fun h' he hit hk => wpAny_pyIter_enum he ?_
  refine ⟨s1.heap.objs.size + 1, [s1.heap.objs.size + 1, s1.heap.objs.size], _, _, H1, rfl, I1.kept (t' := s1.toks) hk, turn_enumT a (s1.heap.objs.size + 1) s1.heap.objs.size, ⟨⟨.none, he⟩, hit, Nat.succ_ne_self _⟩, fun b hb => ?_, q⟩
  have hle : s1.heap.objs.size ≤ b := by
    rcases (by simpa using hb : b = s1.heap.objs.size + 1 ∨ b = s1.heap.objs.size) with z | z
    · rw [z]; exact Nat.le_succ _
    · rw [z]; exact Nat.le_refl _
  exact I1.fpOk hle (I1.hok.fresh hle)
theorem walk_enumT {a : Addr} {xs : List V} : Walk (ItE a) xs.length (fun H => H a = some (.tup xs)) (YPair (fun i => some (.int (i : Nat))) (fun i => xs[i]?)) := by
  refine ⟨fun i _ hi q => ⟨xs, xs[i], q, by simp [hi]⟩, fun _ q => ⟨xs, q, rfl⟩, fun i H v H' _ q y => ?_⟩
  obtain ⟨T, x, h1, h2, h3, h4⟩ := y
  exact ⟨T, .int (i : Nat), x, h1, h2, h3, rfl, h4 xs q⟩
end NS

namespace NS
open PySem PySem.Spec PyProof.Rows L2
/-! ### set(t), set(l) of ints -/
/-- the empty set that set(..) lays first -/
abbrev freshSet (w : World) : Obj := { cls := .type "set", dict := none, data := .set #[] 0 (.fresh 0 0 (!w.params.followText "set-order")) }
section
variable {P : Program} {w : World} {A : Around} {E : Value → Shared → Prop} {s : Shared}
set_option maxHeartbeats 6400000 in
theorem call_set_listI {l : Addr} {items : Array Value} (ns : List Int) {Q : Value → Shared → Prop} (hh : A.handled = none) (hl : s.heap.IsList l items) (hit : IntsAre items.toList ns) (hb : ns.length + 1 < scanBound)
    (h : ∀ (h' : Heap) (tk c : Nat), SetR w h' s.heap.objs.size (fun j => decide (j ∈ ns)) c → c ≤ ns.length → (∀ b o, s.heap.get? b = some o → h'.get? b = some o) → Q (.ref s.heap.objs.size) { s with heap := h', toks := tk }) :
    wpAny (model P w) A (call (.type "set") [.ref l]) Q E s := by
  have hisz : items.size = ns.length := by
    rw [← Array.length_toList]
    exact IntsAre.length hit
  obtain ⟨c0, tl, hmro⟩ := F.called_set.mro
  have g0 := F.called_set.made
  have g1 := F.called_set.sub
  refine wpAny_call (codeAny_of_tree ?_)
  show wpAny _ _ (callAny (.type "set") _) _ _ _
  refine wpAny_pure ⟨Code.quiet_builtin _ (by decide +kernel), codeAny_builtin F.entry_type_call ?_⟩
  rw [Around.under_plain (weight_type_call_type "set" [.ref l] []) rfl]
  have g2 := F.called_set.notType
  have g3 := F.called_set.canCreate
  have g4 := F.typeCall_set_1 (.ref l)
  repeat (any_goals (first | assumption | wp_step))

  refine codeAny_mono (code_set_led1 (.ref l) (E := E) (Q₁ := fun ob s₁ => ob = .ref s.heap.objs.size ∧ s₁ = { s with heap := s.heap.push (freshSet w) }) ⟨rfl, rfl⟩) fun r s₁ hr => ?_
  match r, hr with
  | .error e, hr => exact hr
  | .ok .next, hr => exact hr.elim
  | .ok .brk, hr => exact hr.elim
  | .ok .cont, hr => exact hr.elim
  | .ok (.ret ob), hr =>
    obtain ⟨rfl, rfl⟩ := hr
    have hS : (s.heap.push (freshSet w)).get? s.heap.objs.size = some (freshSet w) := Heap.get?_push_size _ rfl
    have hT : Shared.TypeIs { s with heap := s.heap.push (freshSet w) } (.ref s.heap.objs.size) "set" := ⟨_, hS, rfl⟩
    have g5 := F.called_set.init.lookup
    have g6 := F.called_set.init.bind (.ref s.heap.objs.size)
    repeat (any_goals (first | assumption | wp_step))

    refine codeAny_mono (codeAny_call_builtin (R := wants (fun r s₂ => r = .none ∧ ∃ h' tk c, s₂ = { s with heap := h', toks := tk } ∧ SetR w h' s.heap.objs.size (fun j => decide (j ∈ ns)) c ∧ c ≤ ns.length ∧
        (∀ b o, s.heap.get? b = some o → h'.get? b = some o)) E) F.called_set.init.plain F.entry_set_init (check_set_init_1 hT ?_)) fun r₂ s₂ hr₂ => ?_
    · obtain ⟨⟨oc, od, odt, osl⟩, hol, hcl, nl, hdl⟩ := hl
      simp only at hcl hdl
      subst hcl hdl
      have hol' : (s.heap.push (freshSet w)).get? l = some { cls := .type "list", dict := od, data := .seq items nl, slots := osl } := Heap.get?_push_of_some _ hol
      have g7 := F.sub_list_set
      have g8 := F.sub_list_frozenset
      have g9 : (Value.type "list" == Value.type "dict") = false := by decide
      have hl1 : (s.heap.push (freshSet w)).IsList l items := ⟨_, hol', rfl, nl, rfl⟩
      unfold Builtin.«set.__init__» noKeywords Builtin.Frozenset.updateFrom
      generalize hPI : pyIter = PI
      wp_walk
      subst hPI

      refine wpAny_pyIter_list hl1 (wpAny_bind (wpAny_runValue ?_))
      have hls : l < s.heap.objs.size := Heap.lt_size hol
      have h3 : A.in1.in1.in1.handled = none := by simp [hh]
      have z1 : (s.heap.push (freshSet w)).objs.size = s.heap.objs.size + 1 := Heap.size_push ..
      have nI : l ≠ (s.heap.push (freshSet w)).objs.size := by rw [z1]; exact Nat.ne_of_lt (Nat.lt_succ_of_lt hls)
      have nS : s.heap.objs.size ∉ [(s.heap.push (freshSet w)).objs.size, l] := by
        rw [z1, List.mem_cons, List.mem_singleton, not_or]
        exact ⟨Nat.ne_of_lt (Nat.lt_succ_self _), Nat.ne_of_gt hls⟩
      have hval : ∀ (i : Nat) (v : Value), items[i]? = some v → ∃ k t, ns[i]? = some k ∧ v = .int k t := fun i v hv => by
        have hi : i < ns.length := by rw [← hisz]; exact (Array.getElem?_eq_some_iff.mp hv).1
        obtain ⟨t, e⟩ := PyProof.Rows.IntsAre.int_at hit i v (by rw [Array.getElem?_toList]; exact hv)
        rw [List.getD_eq_getElem?_getD, List.getElem?_eq_getElem hi] at e
        exact ⟨ns[i], t, List.getElem?_eq_getElem hi, e⟩
      refine set_update_ints ((Walks.list h3 _ l nI items).toS) s.heap.objs.size nS ns hisz hb hval (items.size - 0) 0 _ (by omega) (Nat.zero_le _) ⟨⟨_, Heap.get?_push_size _ rfl, rfl, rfl⟩, hl1.push _⟩ ⟨0, Nat.le_refl 0, ?_⟩ ?_
      · exact setR_new_at (Heap.get?_push_of_some _ hS)
      · intro s' c' hm hc' hS'
        obtain ⟨h', g', d', tk', os'⟩ := s'
        have eg : g' = s.gens := hm.gens
        have ed : d' = s.drawn := hm.drawn
        have eo : os' = s.os := hm.os
        subst eg ed eo
        show wpAny _ _ _ _ _ _
        refine wpAny_pure ?_
        show wpAny _ _ (ret Value.none) _ _ _
        rw [hisz] at hc'
        refine wpAny_pure ⟨rfl, h', tk', c', rfl, hS', hc', fun b o e => ?_⟩
        have b0 : b < s.heap.objs.size := Heap.lt_size e
        refine hm.heap b o ?_ (Heap.get?_push_of_some _ (Heap.get?_push_of_some _ e))
        rw [List.mem_cons, List.mem_singleton, not_or, z1]
        exact ⟨Nat.ne_of_lt b0, Nat.ne_of_lt (Nat.lt_succ_of_lt b0)⟩
    · match r₂, hr₂ with
      | .error e, hr₂ => exact hr₂
      | .ok .next, hr₂ => exact hr₂.elim
      | .ok .brk, hr₂ => exact hr₂.elim
      | .ok .cont, hr₂ => exact hr₂.elim
      | .ok (.ret v), hr₂ =>
        obtain ⟨rfl, h', tk, c', rfl, hS', hc', hk'⟩ := hr₂
        repeat (any_goals (first | assumption | wp_step))
        exact h _ _ _ hS' hc' hk'
end
/-- set(x), x a list or a tuple of fewer than 63 ints -/
def rSetI (K : PySem.W.Frag) (w : World) : List V → Hp → VK → Prop := fun xs H Q => ∃ (a : Addr) (ns : List Int), xs = [.ref a] ∧ (SqL K H a (ns.map V.int) ∨ SqT K H a (ns.map V.int)) ∧ ns.length < 63 ∧
  ∀ (p : Addr) (c : Nat), H p = none → c ≤ ns.length → Q (.ref p) (upd H p (SetO w p (fun j => decide (j ∈ ns)) c))
theorem cr_setI {X : Cx} (hc : X.calm = true) : CallR X (.type "set") (rSetI X.K X.w) := by
  intro pins s σ H xs us Q I r h
  obtain ⟨a, ns, rfl, hs, h63, q⟩ := h
  rw [Vals.ref1 r]
  have hb : ns.length + 1 < scanBound := by unfold scanBound; omega
  have fin : ∀ (h' : Heap) (tk c : Nat), SetR X.w h' s.heap.objs.size (fun j => decide (j ∈ ns)) c → c ≤ ns.length → (∀ b o, s.heap.get? b = some o → h'.get? b = some o) → EP X pins σ Q (.ref s.heap.objs.size) { s with heap := h', toks := tk } :=
    fun h' tk c R hc' hk => ⟨.ref _, _, I.laid hk (Nat.le_refl _) (setO_new R), rfl, q _ c I.fresh hc'⟩
  rcases hs with hs | hs
  · obtain ⟨its, rv, hl, _⟩ := I.list hs
    exact call_set_listI ns (I.ok.hd hc) hl.isList rv.ints hb fin
  · obtain ⟨its, rv, hl, _⟩ := I.tuple hs
    exact call_set_tupI ns (I.ok.hd hc) hl rv.ints hb fin
end NS

namespace PySem
namespace NpX
open PySem.W PySem.Calls PyProof.Rows PySem.HandSPX
/-! ### self.place = v on a new error over LookupError -/
abbrev leTail : List Value := [.type "LookupError", .type "Exception", .type "BaseException", .type "object"]
section
open PySem.Builtin PySem.Builtin.ObjectAttr
variable {prog : Program} {w : World} {A : Around} {R : Result → Shared → Prop} {hp : Heap} {g : Array GenState} {d : Drawn} {t : Nat} {os : OsState}
theorem le_osa {K : Frag} {name : Str} {tk : Tok} {v : Value} {x C : Addr} {fv : Array Value} {cd : ClassData}
    (X : K.In hp) (hx : hp.get? x = some { cls := .ref C, data := .fields fv }) (hcd : clsIn K C = some cd) (hm : cd.mro = .ref C :: leTail) (hh : cd.hasDict = true) (ha : findIn K (.ref C) name = some none)
    (hq : ∀ h' tk' dx, (∀ b o, b ≠ x → hp.get? b = some o → h'.get? b = some o) → hp.objs.size ≤ dx → dx ≠ x → h'.get? x = some { cls := .ref C, dict := some dx, data := .fields fv } →
      h'.Ns1 dx (fun y => if y = name then some v else none) → R (.ok (.ret .none)) ⟨h', g, d, tk', os⟩) :
    codeAny (model prog w) A (.call (.builtin "object.__setattr__") ⟨[.ref x, .str name tk, v], []⟩) R ⟨hp, g, d, t, os⟩ := by
  have J : InstAt hp x { cls := .ref C, data := .fields fv } C none := ⟨hx, rfl, rfl, trivial⟩
  have Z := F.store_object
  have hob : cd.mro.contains (.type "object") = true := by rw [hm]; simp [List.contains_cons]
  have nx : x ≠ hp.objs.size := Nat.ne_of_lt (Heap.lt_size hx)
  have isO : Looks (model prog w) hp (isInstance (.ref x) (.type "object")) true := J.type.andThen (looks_mroIn X (by unfold mroIn; rw [hcd, Option.bind_some, if_neg (by rw [hm]; exact Bool.false_ne_true), hob]))
  refine codeAny_call_builtin Z.slot.plain Z.entry (@check_slot (model prog w) _ _ ⟨hp, g, d, t, os⟩ "object.__setattr__" "object" "__setattr__" (.ref x) [.str name tk, v] [] _ Z.kind Z.split isO (Z.args (.ref x) (.str name tk) v) ?_)
  have L1 : Looks (model prog w) hp (mroOf (.ref C)) cd.mro := (looks_clsIn X hcd).andThen .now
  have L2 : Looks (model prog w) hp (storeTaker? none) none := .now
  have L3 : Looks (model prog w) hp (classData C) cd := looks_clsIn X hcd
  have hpass : refuseLoop (.ref x) "__setattr__" cd.mro = pure () := by
    rw [hm, refuseLoop_ref]
    exact PySem.F.store_LookupError.passes _
  rw [osa_eq, refuse_eq]
  refine wpAny_bind (wpAny_bind (J.type.at (wpAny_bind (L1.at ?_))))
  rw [hpass]
  refine wpAny_pure (wpAny_bind (J.type.at (wpAny_bind ((looks_findIn X ha).at (wpAny_bind (L2.at ?_))))))
  show wpAny _ _ (storeInOwnDict (.ref x) (.ref C) (.str name tk) name v false) _ _ _
  obtain ⟨nm, bs, mro, ns, qn, hd, sn, sb, ab, col, del⟩ := cd
  dsimp only at hh
  subst hh
  unfold storeInOwnDict ownDictForStores
  repeat (first | with_reducible refine store_in_new ?_ ?_ | with_reducible refine wpAny_loadPart_at hx ?_ | with_reducible refine L3.at ?_ | wp_step)
  · exact ⟨_, #[], _, (Heap.get?_update_ne _ _ _ _ nx.symm).trans (Heap.get?_push_at rfl rfl), rfl, fun e he => absurd he (by simp), fun _ => rfl⟩
  · intro h' tk' hn' hs
    have hx1 : (hp.push { cls := .type "dict", data := .dict #[] }).get? x = some { cls := .ref C, data := .fields fv } := Heap.get?_push_of_some _ hx
    refine hq h' tk' hp.objs.size (fun b o hb ho => ?_) (Nat.le_refl _) nx.symm ?_ hn'
    · exact (hs.2 b (Nat.ne_of_lt (Heap.lt_size ho))).trans ((Heap.get?_update_ne _ _ _ _ hb).trans (Heap.get?_push_of_some _ ho))
    · exact (hs.2 x nx).trans (Heap.get?_update_self _ hx1 rfl)
end
/-! ### the text of __init__ -/
def iA (p1 p2 : Pos) : Arguments := { posonlyargs := [], args := [{ arg := "self", annotation := none, pos := p1 }, { arg := "place", annotation := none, pos := p2 }], vararg := none, kwonlyargs := [], kw_defaults := [], kwarg := none, defaults := [] }
def iB (q1 q2 q3 q4 : Pos) : List Stmt := [.Assign [.Attribute (.Name "self" q1) "place" q2] (.Name "place" q3) q4]
def iS : Scope := { kind := .function, names := [(PySem.Str.ofString "self", .local), (PySem.Str.ofString "place", .local)], isGenerator := false, isCoroutine := false, more := [] }
/-- what the written part says of Low, at C, and of its __init__, at fI -/
structure NpTxt (K : Frag) (mg : Str → Option Value) (C fI : Addr) : Prop where
  gC : mg "NoPlace" = some (.ref C)
  cls : ∃ nm q N bs bm sn sub ab col dd k0 k1 k2 k3 k5, K.lookup C = some (excClassObj nm q C N bs bm true sn sub ab col dd k0 k1 k2 k3 k5 "LookupError.__new__") ∧ bm = leTail
  sa : findIn K (.ref C) "__setattr__" = some (some (.builtin "object.__setattr__"))
  ga : findIn K (.ref C) "__getattribute__" = some (some (.builtin "BaseException.__getattribute__"))
  gg : findIn K (.ref C) "__getattr__" = some none
  noN : findIn K (.ref C) "place" = some none
  iC : findIn K (.ref C) "__init__" = some (some (.ref fI))
  tC : typeIn K (.ref fI) = some (.type "function")
  kC : keepIn K (.ref C) = true
  exC : subIn K (.ref C) (.type "BaseException") = some true
  tyC : typeIn K (.ref C) = some (.type "type")
  hdC : hasDictIn K C = true
  te : exmOne K (.ref C) (.ref C) = some true
  fn : ∃ (oc : Value) (od : Option Addr) (doc pm : Value) (an : Option Addr) (cdv ct : Value) (osl : Array (Option Value)) (p1 p2 q1 q2 q3 q4 : Pos),
    K.lookup fI = some ⟨oc, od, .func (fnOf "__init__" "NoPlace.__init__" (iA p1 p2) (iB q1 q2 q3 q4) iS .none .none doc pm an cdv ct), osl⟩ ∧ codeIn K cdv "NoPlace.__init__" = true
theorem one_size (v : Value) : [v].length ≤ sizeLine := by
  rw [sizeLine_eq]
  exact (by decide : 1 ≤ 16777216)
theorem kept_but {K : Frag} {h h' : Heap} {x : Addr} (X : K.In h) (hx : K.lookup x = none) (k : ∀ b o, b ≠ x → h.get? b = some o → h'.get? b = some o) : K.In h' := fun a o e =>
  k a o (fun z => by rw [z, hx] at e; cases e) (X a o e)
theorem ldC {M : Model} {s : Shared} {name : Str} {scope : Scope} {L a : Addr} {cd : Value} {m : Str → Option Value} {x : Str} {pos : Pos} {v : Value} {Q : Value → Shared → Prop} {A : Around} {E : Value → Shared → Prop} (hn : s.heap.Ns L m) (hv : m x = some v) (h : Q v s)
    (hk : scope.kind = .function := by rfl) (hl : (envOfC name scope L a cd).kindOf x = some .local := by rfl) (hd : (x == ("__debug__" : Str)) = false := by decide) :
    wpAny M A (eval (.Name x pos) (envOfC name scope L a cd)) Q E s := wpAny_Name (wpAny_loadName_local hk hl hn hv h) hd
/-- what __init__ leaves of a fresh exception at x -/
structure InitEnd (h h' : Heap) (x C dx t1 : Addr) (v : Value) : Prop where
  keep : ∀ b o, b ≠ x → h.get? b = some o → h'.get? b = some o
  obj : h'.get? x = some { cls := .ref C, dict := some dx, data := .fields #[.ref t1, .none, .none, .none, .bool false, .none] }
  dbig : h.objs.size ≤ dx
  dne : dx ≠ x
  ns : h'.Ns1 dx (fun y => if y = "place" then some v else none)
/-- a made Low -/
structure OwnMade (h h' : Heap) (e C d : Addr) (v : Value) : Prop where
  keep : ∀ b o, h.get? b = some o → h'.get? b = some o
  new : h.objs.size ≤ e
  obj : ∃ oe vs, h'.get? e = some oe ∧ oe.cls = .ref C ∧ oe.dict = some d ∧ oe.data = .fields vs ∧ vs[1]? = some .none
  dbig : h.objs.size ≤ d
  dne : d ≠ e
  ns : h'.Ns1 d (fun y => if y = "place" then some v else none)
section
variable {prog : Program} {w : World} {A : Around} {E : Value → Shared → Prop} {R : Result → Shared → Prop} {s : Shared} {K : Frag} {mg : Str → Option Value} {C fI : Addr}
theorem np_init (T : NpTxt K mg C fI) {x t0 : Addr} {v : Value} (X : K.In s.heap) (hlim : s.heap.NoLimit) (hx : s.heap.get? x = some (excO C t0)) (hnx : K.lookup x = none) (hroom : A.depth < recursionLimit)
    (hq : ∀ h' tk dx, InitEnd s.heap h' x C dx t0 v → R (.ok (.ret .none)) { s with heap := h', toks := tk }) :
    codeAny (model prog w) A (.call (.ref fI) ⟨[.ref x, v], []⟩) R s := by
  obtain ⟨oc, od, doc, pm, an, cdv, ct, osl, p1, p2, q1, q2, q3, q4, ho, hcd⟩ := T.fn
  obtain ⟨nm, q, N, bs, bm, sn, sub, ab, col, dd, k0, k1, k2, k3, k5, hC, hbm⟩ := T.cls
  have hcl : clsIn K C = some { name := nm, bases := bs, mro := .ref C :: bm, ns := N, qualname := q, hasDict := true, slotNames := sn, subclasses := sub, abstract := ab, collection := col, hasDel := false } := by unfold clsIn; rw [hC] <;> rfl
  refine Att.call_fn (binds := [("self", .ref x), ("place", v)]) X hlim ho hcd hroom (BindsTo.of_eq (by first | rfl | with_unfolding_all rfl)) (by first | rfl | decide | with_unfolding_all rfl) (fun s₁ IC => ?_) rfl rfl rfl
  obtain ⟨h₁, tk₁, rfl⟩ := IC.toInCall.same
  have k : ∀ b o, s.heap.get? b = some o → h₁.get? b = some o := IC.toInCall.keep
  have hn := IC.toInCall.ns
  have hxL : s.heap.objs.size ≠ x := Nat.ne_of_gt (Heap.lt_size hx)
  have X₁ : K.In h₁ := X.keeps k
  have hx₁ := k _ _ hx
  -- self.by = by
  show wpAny _ _ (execs _ _) _ _ _
  refine wpAny_execs_cons (plainObj_wpAny_Assign_Attribute ?_)
  refine ldC (v := v) hn (by first | rfl | with_unfolding_all rfl | kernel_rfl) (ldC (v := .ref x) hn (by first | rfl | with_unfolding_all rfl | kernel_rfl) ?_)
  refine set_plain X₁ (ox := excO C t0) (od := none) ⟨hx₁, rfl, rfl, trivial⟩ T.sa ?_
  refine le_osa X₁ hx₁ hcl (by rw [hbm]) rfl T.noN (fun h₃ tk₃ dx k₃ dn dne hx₃ hn₃ => ?_)
  show wpAny _ _ (execs _ _) _ _ _
  have z : s.heap.objs.size < h₁.objs.size := hn.lt
  exact wpAny_execs_nil (hq h₃ tk₃ dx ⟨fun b o hb e => k₃ b o hb (k b o e), hx₃, Nat.le_of_lt (Nat.lt_of_lt_of_le z dn), dne, hn₃⟩)
theorem np_made (T : NpTxt K mg C fI) {v : Value} (X : K.In s.heap) (hlim : s.heap.NoLimit) (hroom : A.depth + 1 < recursionLimit)
    (hq : ∀ h' tk e d, OwnMade s.heap h' e C d v → R (.ok (.ret (.ref e))) { s with heap := h', toks := tk }) :
    codeAny (model prog w) A (.call (.ref C) ⟨[v], []⟩) R s := by
  obtain ⟨nm, q, N, bs, bm, sn, sub, ab, col, dd, k0, k1, k2, k3, k5, hC, hbm⟩ := T.cls
  obtain ⟨hp, g, dr, tk, os⟩ := s
  have k : ∀ b o, hp.get? b = some o → ((hp.push (kdv_tup [v])).push (excO C hp.objs.size)).get? b = some o := fun b o e => Heap.get?_push_of_some _ (Heap.get?_push_of_some _ e)
  have hget : ((hp.push (kdv_tup [v])).push (excO C hp.objs.size)).get? (hp.objs.size + 1) = some (excO C hp.objs.size) := by heap_get
  have hnx : K.lookup (hp.objs.size + 1) = none := by
    cases e : K.lookup (hp.objs.size + 1) with
    | none => rfl
    | some o =>
      have z : hp.get? (hp.objs.size + 1) = some o := X _ _ e
      exact absurd (Nat.lt_of_succ_lt (Heap.lt_size z)) (Nat.lt_irrefl _)
  refine call_own F.excBase_LookupError (fun X => by rw [hbm]) (X _ _ hC) (looks_findIn X T.iC) (fun self => bind_fn X self T.tC) (one_size v) ?_
  refine np_init (s := ⟨(hp.push (kdv_tup [v])).push (excO C hp.objs.size), g, dr, tk, os⟩) T (X.keeps k) (hlim.keeps k) hget hnx ?_ fun h' tk' dx ⟨k', hx, dn, dne, hns⟩ => ?_
  · show A.depth + 1 < recursionLimit
    exact hroom
  · have old : ∀ b o, hp.get? b = some o → h'.get? b = some o := fun b o e => k' b o (Nat.ne_of_lt (Nat.lt_succ_of_lt (Heap.lt_size e))) (k b o e)
    have z : hp.objs.size + 1 + 1 ≤ dx := by
      first
        | (simpa only [Heap.size_push] using dn)
        | exact dn
        | (have q := dn; rw [Heap.size_push, Heap.size_push] at q; exact q)
    exact ⟨rfl, hq h' tk' (hp.objs.size + 1) dx ⟨old, Nat.le_succ _, ⟨_, _, hx, rfl, rfl, rfl, rfl⟩, Nat.le_trans (Nat.le_trans (Nat.le_succ _) (Nat.le_succ _)) z, dne, hns⟩⟩
end
end NpX
end PySem
namespace L2
open PySem PySem.Spec PyProof.Rows
theorem relO_np {v : V} {v' : Value} (r : RelV v v') (f : Str) : RelO (List.lookup f [(("place" : Str), v)]) (if f = "place" then some v' else none) := by
  by_cases hw : f = "place"
  · subst hw
    rw [if_pos rfl]
    have q : List.lookup ("place" : Str) [(("place" : Str), v)] = some v := by simp [List.lookup]
    rw [q]
    exact r
  · rw [if_neg hw]
    have qw : (f == ("place" : Str)) = false := by simpa using hw
    have q2 : List.lookup f [(("place" : Str), v)] = none := by simp [List.lookup, qw]
    rw [q2]
    trivial
section
variable {X : Cx} {C fI : Addr}
/-- NoPlace(e) -/
def tMkNp (C : Addr) (ta : TA) : St → Hp → XK → Prop := fun σ H Q => ta σ H fun vs H1 => ∃ v, vs = [v] ∧ ∀ d, H1 d = none → Q (.ref C) (some d) (upd H1 d (.xd [(("place" : Str), v)]))
theorem pmk_np {a : Expr} {ta : TA} {p pos : Pos} {k : Nat} (T : PySem.NpX.NpTxt X.K X.mg C fI) (hr : Room k X.A) (ha : PA X [a] ta) (hg : Gl X "NoPlace" := by rfl)
    (he : starEach (a :: []) X.env = (false, eval a X.env) :: starEach [] X.env := by rfl) (hpl : (backTo pos (starEach [] X.env)).any (·.1) = false := by rfl) :
    PMk X (.Call (.Name "NoPlace" p) [a] [] pos) (tMkNp C ta) := by
  intro pins s σ H Q I h
  refine wpAny_Call_Name_kw (ld_glob I hg T.gC ?_)
  refine PySem.W.callWith_K (h₀ := X.base) I.ok.mod.kin T.kC (thn (ha.run pos pins s σ H _ I h) fun us s1 hh => ?_) he hpl
  obtain ⟨vs, H1, I1, r1, v, ev, q1⟩ := hh
  subst ev
  refine ⟨I1.kIn, ?_⟩
  cases r1 with
  | cons rv rn =>
    rename_i v' us'
    cases rn
    show wpAny _ _ (call (.ref C) [v']) _ _ _
    have hlim := I1.nolimit
    obtain ⟨hp, g, dr, tk, os⟩ := s1
    refine wpAny_call (PySem.NpX.np_made T I1.kIn hlim (by have := hr.dp; omega) fun h' tk' e d M => ?_)
    show MkP X pins σ Q (.ref e) ⟨h', g, dr, tk', os⟩
    obtain ⟨oe, fv, hoe, hc, hd, hdat, h1⟩ := M.obj
    have hns := M.ns
    obtain ⟨G', g1, g2⟩ := restrict h' fun b => decide (b ≠ e)
    have gk : ∀ b, b ≠ e → G'.get? b = h'.get? b := fun b hb => g1 b (decide_eq_true hb)
    have ge : G'.get? e = none := g2 e (by simp)
    have old : ∀ b o, hp.get? b = some o → G'.get? b = some o := fun b o q => (gk b (Nat.ne_of_lt (Nat.lt_of_lt_of_le (Heap.lt_size q) M.new))).trans (M.keep b o q)
    have ob : ObjOk X.prog X.w (upd H1 d (.xd [(("place" : Str), v)])) G' d (.xd [(("place" : Str), v)]) :=
      ⟨_, hns.at (fun o q => (gk d M.dne).trans q), fun f => relO_np rv f⟩
    have J : Inv X pins σ (upd H1 d (.xd [(("place" : Str), v)])) ⟨G', g, dr, tk', os⟩ := I1.laid (t' := tk') old M.dbig ob
    refine ⟨e, oe, fv, ⟨G', g, dr, tk', os⟩, _, .ref C, some d, rfl, J, fun b o q => ?_, ge, hoe, ⟨hc, hd⟩, hdat, h1, ?_, rfl, I1.bare, raises_own T.exC T.tyC, q1 d (I1.hok.fresh M.dbig)⟩
    · by_cases hb : b = e
      · have q' : G'.get? b = some o := q
        rw [hb, ge] at q'; cases q'
      · exact (gk b hb).symm.trans q
    · rw [upd_ne (Ne.symm M.dne)]
      exact I1.hok.fresh M.new
/-- raise NoPlace(e) -/
def tRaiseNp (C : Addr) (W : WX) (ta : TA) : TS := fun _ σ H => tMkNp C ta σ H fun cls d H' => W cls d σ H'
theorem ps_raiseNp {a : Expr} {ta : TA} {W : WX} {p pos pos2 : Pos} {k : Nat} (hc : X.calm = true) (T : PySem.NpX.NpTxt X.K X.mg C fI) (hr : Room k X.A) (tk : Takes X W) (ha : PA X [a] ta) (hg : Gl X "NoPlace" := by rfl)
    (he : starEach (a :: []) X.env = (false, eval a X.env) :: starEach [] X.env := by rfl) (hpl : (backTo pos (starEach [] X.env)).any (·.1) = false := by rfl) :
    PS X (.Raise (some (.Call (.Name "NoPlace" p) [a] [] pos)) none pos2) (tRaiseNp C W ta) := ps_raise hc tk (pmk_np T hr ha hg he hpl)
/-- error.place, low the exception that the suite holds (at a; its class cls, its dict d) -/
def tByNp (C : Addr) (a : Addr) (cls : Value) (d : Option Addr) (te : TE) : TE := fun σ H Q => te σ H fun x H1 => x = .ref a ∧ cls = .ref C ∧ ∃ (dd : Addr) (v : V), d = some dd ∧ H1 dd = some (.xd [(("place" : Str), v)]) ∧ Q v H1
theorem pe_byNp {a : Addr} {oe : Obj} {cls : Value} {d : Option Addr} {pn : List (Addr × Obj)} {e : Expr} {te : TE} {pos : Pos} (T : PySem.NpX.NpTxt X.K X.mg C fI) (hz : Zc cls d oe) (hf : ∃ vs, oe.data = .fields vs) (he : PE (X.suite a ((a, oe) :: pn)) e te)
    (hb : attributeBase e "place" X.env (eval e X.env) = eval e X.env := by rfl) :
    PE (X.suite a ((a, oe) :: pn)) (.Attribute e "place" pos) (tByNp C a cls d te) := by
  refine ⟨fun pins s σ H Q I h => ?_⟩
  refine attr_of hb (thn (he.run pins s σ H _ I h) fun u s1 hh => ?_)
  obtain ⟨x, H1, I1, rx, ex, ec, dd, v, ed, ea, q⟩ := hh
  subst ex
  obtain rfl : u = Value.ref a := rx
  subst ec
  subst ed
  obtain ⟨ha, _⟩ := I1.pin (a, oe) (List.mem_append_left _ List.mem_cons_self)
  obtain ⟨vs, hd⟩ := hf
  have hx : ObjOk X.prog X.w H1 s1.heap dd (.xd [(("place" : Str), v)]) := I1.hok dd _ ea
  obtain ⟨mA, hns, hr⟩ := hx
  obtain ⟨od, ho, hl⟩ := lookIn_ns hns
  have l : List.lookup ("place" : Str) [(("place" : Str), v)] = some v := by simp [List.lookup]
  obtain ⟨u, hu, ru⟩ := RelO.some_of (v := v) (o := mA "place") (by rw [← l]; exact hr "place")
  have J : PySem.W.InstAt s1.heap a oe C (some od) := ⟨ha, hz.1, by unfold PySem.W.notCls; rw [hd] <;> rfl, by rw [hz.2]; exact ho⟩
  exact HandSPX.exc_get I1.kIn J T.ga T.gg T.exC (PySem.W.findObj_own T.hdC T.noN rfl (by rw [hl, hu])) (handed_of ru) ⟨v, H1, I1.tok _, ru, q⟩
end
end L2

namespace NS
open PySem PySem.Spec PyProof.Rows L2
/-! ### the text -/
def topS (i : Nat) : Stmt := PySem.Challenge.pw_nextsuch_k02_whole_words_and_changes.main.body.getD i (.Pass ⟨0, 0, 0, 0⟩)
abbrev sNum : Stmt := topS 3
abbrev sTof : Stmt := topS 4
abbrev sIto : Stmt := topS 5
abbrev sLet : Stmt := topS 7
abbrev sTxt : Stmt := topS 8
abbrev sLts : Stmt := topS 9
abbrev sIch : Stmt := topS 10
abbrev sSure : Stmt := topS 11
abbrev sNext : Stmt := topS 12
abbrev sLast : Stmt := topS 13
abbrev sBetw : Stmt := topS 14
abbrev sChg : Stmt := topS 15
abbrev sShort : Stmt := topS 16
abbrev sBox : Stmt := topS 18
abbrev sTake : Stmt := topS 19
abbrev sCells : Stmt := topS 20
abbrev sSame : Stmt := topS 22
abbrev sOf : Stmt := topS 23
abbrev sText : Stmt := topS 24
abbrev sLetters : Stmt := topS 25
abbrev sLNext : Stmt := topS 26
abbrev sLLast : Stmt := topS 27
abbrev sLChg : Stmt := topS 28
abbrev sDue : Stmt := topS 29
abbrev sRight : Stmt := topS 30
abbrev sHand : Stmt := topS 31
abbrev sLaw : Stmt := topS 32
theorem scNum : FnScope ["thing"] ["thing"] (defScope sNum) := ⟨rfl, rfl, rfl, by decide +kernel, rfl, by decide +kernel, by decide +kernel⟩
theorem scTof : FnScope ["thing", "part"] ["thing"] (defScope sTof) := ⟨rfl, rfl, rfl, by decide +kernel, rfl, by decide +kernel, by decide +kernel⟩
theorem scIto : FnScope ["thing", "many"] ["thing", "many"] (defScope sIto) := ⟨rfl, rfl, rfl, by decide +kernel, rfl, by decide +kernel, by decide +kernel⟩
theorem scLet : FnScope ["wide", "thing"] ["wide", "thing"] (defScope sLet) := ⟨rfl, rfl, rfl, by decide +kernel, rfl, by decide +kernel, by decide +kernel⟩
theorem scTxt : FnScope ["wide", "thing", "own"] ["wide", "thing"] (defScope sTxt) := ⟨rfl, rfl, rfl, by decide +kernel, rfl, by decide +kernel, by decide +kernel⟩
theorem scLts : FnScope ["wide", "thing", "near", "far"] ["wide", "thing"] (defScope sLts) := ⟨rfl, rfl, rfl, by decide +kernel, rfl, by decide +kernel, by decide +kernel⟩
theorem scIch : FnScope ["wide", "thing"] ["wide", "thing"] (defScope sIch) := ⟨rfl, rfl, rfl, by decide +kernel, rfl, by decide +kernel, by decide +kernel⟩
theorem scSure : FnScope ["text", "place"] ["text", "place"] (defScope sSure) := ⟨rfl, rfl, rfl, by decide +kernel, rfl, by decide +kernel, by decide +kernel⟩
theorem scNext : FnScope ["text", "place", "letters", "own"] ["text", "place", "letters"] (defScope sNext) := ⟨rfl, rfl, rfl, by decide +kernel, rfl, by decide +kernel, by decide +kernel⟩
theorem scLast : FnScope ["text", "place", "letters", "own"] ["text", "place", "letters"] (defScope sLast) := ⟨rfl, rfl, rfl, by decide +kernel, rfl, by decide +kernel, by decide +kernel⟩
theorem scBetw : FnScope ["text", "near", "far"] ["text", "near", "far"] (defScope sBetw) := ⟨rfl, rfl, rfl, by decide +kernel, rfl, by decide +kernel, by decide +kernel⟩
theorem scChg : FnScope ["text", "change", "own", "word", "place", "letter", "most"] ["text", "change"] (defScope sChg) := ⟨rfl, rfl, rfl, by decide +kernel, rfl, by decide +kernel, by decide +kernel⟩
theorem scShort : FnScope ["one", "other"] ["one", "other"] (defScope sShort) := ⟨rfl, rfl, rfl, by decide +kernel, rfl, by decide +kernel, by decide +kernel⟩
theorem scBox : FnScope ["_law_script", "_law_k", "_law_cell"] ["_law_script", "_law_k"] (defScope sBox) := ⟨rfl, rfl, rfl, by decide +kernel, rfl, by decide +kernel, by decide +kernel⟩
theorem scTake : FnScope ["_law_urn", "_law_low_so", "_law_drawn", "_law_once", "_law_far", "_law_twice"] ["_law_urn", "_law_low_so"] (defScope sTake) := ⟨rfl, rfl, rfl, by decide +kernel, rfl, by decide +kernel, by decide +kernel⟩
theorem scCells : FnScope ["_law_script", "_law_top", "_law_cells_here", "_law_k", "_law_cell", "_law_at_so"] ["_law_script", "_law_top"] (defScope sCells) := ⟨rfl, rfl, rfl, by decide +kernel, rfl, by decide +kernel, by decide +kernel⟩
theorem scSame : FnScope ["_law_got", "_law_goal", "_law_mine_so", "_law_own"] ["_law_got", "_law_goal"] (defScope sSame) := ⟨rfl, rfl, rfl, by decide +kernel, rfl, by decide +kernel, by decide +kernel⟩
theorem scOf : FnScope ["_law_urn", "_law_goods"] ["_law_urn", "_law_goods"] (defScope sOf) := ⟨rfl, rfl, rfl, by decide +kernel, rfl, by decide +kernel, by decide +kernel⟩
theorem scText : FnScope ["_law_urn", "_law_wide", "_law_most", "_law_lap"] ["_law_urn", "_law_wide", "_law_most"] (defScope sText) := ⟨rfl, rfl, rfl, by decide +kernel, rfl, by decide +kernel, by decide +kernel⟩
theorem scLetters : FnScope ["_law_urn", "_law_wide", "_law_some", "_law_own"] ["_law_urn", "_law_wide"] (defScope sLetters) := ⟨rfl, rfl, rfl, by decide +kernel, rfl, by decide +kernel, by decide +kernel⟩
theorem scLNext : FnScope ["_law_text_here", "_law_place", "_law_letters_here", "_law_goods", "_law_k", "_law_own"] ["_law_text_here", "_law_place", "_law_letters_here"] (defScope sLNext) := ⟨rfl, rfl, rfl, by decide +kernel, rfl, by decide +kernel, by decide +kernel⟩
theorem scLLast : FnScope ["_law_text_here", "_law_place", "_law_letters_here", "_law_goods", "_law_k", "_law_own"] ["_law_text_here", "_law_place", "_law_letters_here"] (defScope sLLast) := ⟨rfl, rfl, rfl, by decide +kernel, rfl, by decide +kernel, by decide +kernel⟩
theorem scLChg : FnScope ["_law_text_here", "_law_change", "error"] ["_law_text_here", "_law_change"] (defScope sLChg) := ⟨rfl, rfl, rfl, by decide +kernel, rfl, by decide +kernel, by decide +kernel⟩
theorem scDue : FnScope ["_law_text_here", "_law_change", "_law_word", "_law_place", "_law_row"] ["_law_text_here", "_law_change"] (defScope sDue) := ⟨rfl, rfl, rfl, by decide +kernel, rfl, by decide +kernel, by decide +kernel⟩
theorem scRight : FnScope ["_law_urn", "_law_wide", "_law_text_here", "_law_other", "_law_size", "_law_letters_here", "_law_more", "_law_both", "_law_lap", "_law_place", "_law_far", "_law_got", "_law_due_here", "_law_word", "_law_change", "_law_near", "_law_one", "_law_two"] ["_law_urn"] (defScope sRight) := ⟨rfl, rfl, rfl, by decide +kernel, rfl, by decide +kernel, by decide +kernel⟩
theorem scHand : FnScope ["_law_row", "_law_got", "_law_own"] [] (defScope sHand) := ⟨rfl, rfl, rfl, by decide +kernel, rfl, by decide +kernel, by decide +kernel⟩
theorem scLaw : FnScope ["_law_script"] ["_law_script"] (defScope sLaw) := ⟨rfl, rfl, rfl, by decide +kernel, rfl, by decide +kernel, by decide +kernel⟩
/-! ### what the module's names are: the built-ins are not bound there -/
structure Tx (mg : Str → Option Value) : Prop where
  isi : mg "isinstance" = none
  int : mg "int" = none
  bool : mg "bool" = none
  list : mg "list" = none
  tuple : mg "tuple" = none
  len : mg "len" = none
  all : mg "all" = none
  zip : mg "zip" = none
  str : mg "str" = none
  range : mg "range" = none
  sorted : mg "sorted" = none
  set : mg "set" = none
  max : mg "max" = none
  min : mg "min" = none
  abs : mg "abs" = none
  enum : mg "enumerate" = none
/-! ### small words -/
section
variable {X : Cx}
/-- a built-in class as a value -/
theorem pe_ty {x : Str} {T : String} {pos : Pos} (hm : X.mg x = none) (hv : bootBuiltins x = some (.type T)) (hg : Gl X x := by rfl) (hn : x ≠ "__name__" := by decide) (hd : (x == ("__debug__" : Str)) = false := by decide) : PE X (.Name x pos) (tC (.ty T)) :=
  pe_bltn (v := .ty T) hg hm hv rfl hn hd
end
theorem boot_int' : bootBuiltins "int" = some (.type "int") := by decide +kernel
theorem boot_bool' : bootBuiltins "bool" = some (.type "bool") := by decide +kernel
theorem boot_str' : bootBuiltins "str" = some (.type "str") := by decide +kernel
theorem boot_list' : bootBuiltins "list" = some (.type "list") := by decide +kernel
theorem boot_tuple' : bootBuiltins "tuple" = some (.type "tuple") := by decide +kernel
theorem boot_set' : bootBuiltins "set" = some (.type "set") := by decide +kernel
theorem boot_isi' : bootBuiltins "isinstance" = some (.builtin "isinstance") := by decide +kernel
theorem boot_len' : bootBuiltins "len" = some (.builtin "len") := by decide +kernel
theorem boot_all' : bootBuiltins "all" = some (.builtin "all") := by decide +kernel
theorem boot_max' : bootBuiltins "max" = some (.builtin "max") := by decide +kernel
theorem boot_min' : bootBuiltins "min" = some (.builtin "min") := by decide +kernel
theorem boot_abs' : bootBuiltins "abs" = some (.builtin "abs") := by decide +kernel
theorem boot_sorted' : bootBuiltins "sorted" = some (.builtin "sorted") := by decide +kernel
theorem same_upd {H : Hp} {p : Addr} {o : HO} (h : H p = none) : Same H (upd H p o) := fun b x e => by
  rw [upd_ne (ne_of_none e h)]
  exact e
/-- a list or a tuple that stands -/
def Sq (H : Hp) (a : Addr) (xs : List V) : Prop := H a = some (.lst xs) ∨ H a = some (.tup xs)
theorem Sq.same {H H' : Hp} {a : Addr} {xs : List V} (h : Sq H a xs) (s : Same H H') : Sq H' a xs := h.imp (s _ _) (s _ _)
theorem Sq.or {K : PySem.W.Frag} {H : Hp} {a : Addr} {xs : List V} (h : Sq H a xs) : SqL K H a xs ∨ SqT K H a xs := h.imp SqL.of SqT.of
/-! ### is_number, is_tuple_of -/
section
variable {P : Program} {w : World} {K : PySem.W.Frag} {mg : Str → Option Value} {base : Heap}
def spNum : Sp := fun vs H Q _ => ∃ i : Int, vs = [.int i] ∧ Q (.bl true) H
theorem ok_num {f : Addr} {fd : FuncData} (F : Fun K "is_number" "is_number" sNum f fd) (T : Tx mg) : FnOk P w K mg base CX0 1 f fd ["thing"] spNum := by
  refine F.ok scNum (fun vs H Q E h => ?_) (fun cdv A outer s H vs Q E hr h => ?_)
  · obtain ⟨i, rfl, _⟩ := h
    rfl
  · obtain ⟨i, rfl, q⟩ := h
    refine ⟨_, pss_one (ps_ret (pe_and (pe_callB call_isi (by rfl) T.isi boot_isi' (pa_cons (pv 0) (pa_cons (pe_ty T.int boot_int') pa_nil)))
      (pe_one (pe_not (pe_callB call_isi (by rfl) T.isi boot_isi' (pa_cons (pv 0) (pa_cons (pe_ty T.bool boot_bool') pa_nil))))))), ?_⟩
    refine ⟨_, rfl, .int i, .ty "int", .type "int", .type "int", true, rfl, .ty _, .base (.int i), kit_ty (by decide +kernel), true, rfl, iteT ?_⟩
    exact ⟨_, rfl, .int i, .ty "bool", .type "int", .type "bool", false, rfl, .ty _, .base (.int i), kit_ty (by decide +kernel), false, rfl, q⟩
def spIto : Sp := fun vs H Q _ => ∃ (a : Addr) (xs : List V) (k : Int), vs = [.ref a, .int k] ∧ H a = some (.tup xs) ∧ Q (.bl (decide ((xs.length : Int) = k))) H
theorem ok_ito {f : Addr} {fd : FuncData} (F : Fun K "is_tuple_of" "is_tuple_of" sIto f fd) (T : Tx mg) : FnOk P w K mg base CX0 1 f fd ["thing", "many"] spIto := by
  refine F.ok scIto (fun vs H Q E h => ?_) (fun cdv A outer s H vs Q E hr h => ?_)
  · obtain ⟨a, xs, k, rfl, _⟩ := h
    rfl
  · obtain ⟨a, xs, k, rfl, hx, q⟩ := h
    refine ⟨_, pss_one (ps_ret (pe_and (pe_callB call_isi (by rfl) T.isi boot_isi' (pa_cons (pv 0) (pa_cons (pe_ty T.tuple boot_tuple') pa_nil)))
      (pe_one (pe_cmpR op_eq (pe_callB call_len_seq (by rfl) T.len boot_len' (pa_cons (pv 0) pa_nil)) (pv 1) (nomark _))))), ?_⟩
    refine ⟨_, rfl, .ref a, .ty "tuple", .type "tuple", .type "tuple", true, rfl, .ty _, .base (.tup hx), kit_ty (by decide +kernel), true, rfl, iteT ?_⟩
    refine ⟨_, rfl, a, xs, rfl, .inr (SqT.of hx), _, rfl, rfl, ?_⟩
    rw [show decide (V.int (xs.length : Int) = V.int k) = decide ((xs.length : Int) = k) by simp]
    exact q
end
end NS

namespace NS
open PySem PySem.Spec PyProof.Rows L2
theorem kitLT {K : PySem.W.Frag} {T : String} (h1 : kitB T "list" = some false) (h2 : kitB T "tuple" = some false) : PySem.W.kitAny K (.type T) [.type "list", .type "tuple"] = some false :=
  kitAny_cons (b := false) (kit_ty h1) (fun _ => kitAny_cons (b := false) (kit_ty h2) (fun _ => kitAny_nil) (fun z => nomatch z)) (fun z => nomatch z)
theorem kitLT_list {K : PySem.W.Frag} : PySem.W.kitAny K (.type "list") [.type "list", .type "tuple"] = some true :=
  kitAny_cons (b := true) (kit_ty (by decide +kernel)) (fun z => nomatch z) (fun _ => rfl)
theorem kitLT_tuple {K : PySem.W.Frag} : PySem.W.kitAny K (.type "tuple") [.type "list", .type "tuple"] = some true :=
  kitAny_cons (b := false) (kit_ty (by decide +kernel)) (fun _ => kitAny_cons (b := true) (kit_ty (by decide +kernel)) (fun z => nomatch z) (fun _ => rfl)) (fun z => nomatch z)
/-- an int or a text -/
def Flat (v : V) : Prop := (∃ i, v = .int i) ∨ ∃ x, v = .str x
theorem take_more {α : Type} {l : List α} {i : Nat} {x : α} (h : l[i]? = some x) : l.take (i + 1) = l.take i ++ [x] := by
  rw [List.take_add_one, h]
  rfl
theorem two_line : 2 ≤ sizeLine := by decide
theorem few {n k : Nat} (h : n ≤ k) (hk : k ≤ 1000 := by decide) : n < sizeLine := small1000 (Nat.le_trans h hk)
section
variable {P : Program} {w : World} {K : PySem.W.Frag} {mg : Str → Option Value} {base : Heap}
/-! ### tuple_of -/
def spTofF : Sp := fun vs H Q _ => ∃ v, vs = [v] ∧ Flat v ∧ ∀ H', Same H H' → Q v H'
def spTof : Sp := fun vs H Q _ => ∃ (a : Addr) (xs : List V), vs = [.ref a] ∧ Sq H a xs ∧ (∀ x ∈ xs, Flat x) ∧ xs.length ≤ 100 ∧ ∀ H' p, Same H H' → H p = none → H' p = some (.tup xs) → Q (.ref p) H'
theorem ok_tofF {f : Addr} {fd : FuncData} (F : Fun K "tuple_of" "tuple_of" sTof f fd) (T : Tx mg) : FnOk P w K mg base CX0 1 f fd ["thing"] spTofF := by
  refine F.ok scTof (fun vs H Q E h => ?_) (fun cdv A outer s H vs Q E hr h => ?_)
  · obtain ⟨v, rfl, _⟩ := h
    rfl
  · obtain ⟨v, rfl, hf, q⟩ := h
    refine ⟨_, pss_cons (ps_if (pt_val (pe_callB call_isiT (by rfl) T.isi boot_isi' (pa_cons (pv 0) (pa_cons (pe_tup (pa_cons (pe_ty T.list boot_list') (pa_cons (pe_ty T.tuple boot_tuple') pa_nil))) pa_nil)))) pss_never pss_nil) (pss_one (ps_ret (pv 0))), ?_⟩
    rcases hf with ⟨i, rfl⟩ | ⟨x, rfl⟩
    · exact ⟨_, rfl, two_line, fun tp np => ⟨.int i, tp, [.ty "list", .ty "tuple"], .type "int", _, false, rfl, upd_same, .cons (.ty _) (.cons (.ty _) .nil), .base (.int i), kitLT (by decide +kernel) (by decide +kernel), false, rfl, iteF ⟨_, rfl, q _ (same_upd np)⟩⟩⟩
    · exact ⟨_, rfl, two_line, fun tp np => ⟨.str x, tp, [.ty "list", .ty "tuple"], .type "str", _, false, rfl, upd_same, .cons (.ty _) (.cons (.ty _) .nil), .base (.str x), kitLT (by decide +kernel) (by decide +kernel), false, rfl, iteF ⟨_, rfl, q _ (same_upd np)⟩⟩⟩
theorem ok_tof {f : Addr} {fd : FuncData} (F : Fun K "tuple_of" "tuple_of" sTof f fd) (T : Tx mg) (g : mg "tuple_of" = some (.ref f)) (b : Binds K fd ["thing"] []) : FnOk P w K mg base CX0 2 f fd ["thing"] spTof := by
  have G : FnOk P w K mg base CX0 1 f fd ["thing"] spTofF := ok_tofF F T
  refine F.ok scTof (fun vs H Q E h => ?_) (fun cdv A outer s H vs Q E hr h => ?_)
  · obtain ⟨a, xs, rfl, _⟩ := h
    rfl
  · obtain ⟨a, xs, rfl, hs, hf, hl, q⟩ := h
    -- the turn, for both kinds
    have step : ∀ (H0 : Hp) (D : Addr) (i : Nat) (x : V) (H1 H2 : Hp), xs[i]? = some x → H0 D = none → (Same H0 H1 ∧ H1 D = some (.lst (xs.take i))) → Same H1 H2 →
        ∃ acc, H2 D = some (.lst acc) ∧ acc.length < sizeLine ∧ (Same H0 (upd H2 D (.lst (acc ++ [x]))) ∧ upd H2 D (.lst (acc ++ [x])) D = some (.lst (xs.take (i + 1)))) := fun H0 D i x H1 H2 hx nD ⟨sm, eD⟩ s12 => by
      refine ⟨_, s12 _ _ eD, few (Nat.le_trans (by rw [List.length_take]; exact Nat.min_le_right _ _) hl), fun c o e => ?_, by rw [upd_same, take_more hx]⟩
      rw [upd_ne (ne_of_none e nD)]
      exact s12 _ _ (sm _ _ e)
    rcases hs with hs | hs
    · refine ⟨_, pss_cons (ps_if (pt_val (pe_callB call_isiT (by rfl) T.isi boot_isi' (pa_cons (pv 0) (pa_cons (pe_tup (pa_cons (pe_ty T.list boot_list') (pa_cons (pe_ty T.tuple boot_tuple') pa_nil))) pa_nil))))
        (pss_one (ps_ret (pe_callTy call_tuple_of (by rfl) T.tuple boot_tuple' (pa_cons (pe_lc (own := [("part", 1)]) (g := gName 1) (tt := tYes) rfl scTof.nd (pi_list (pv 0)) (blkOk_by (N := ["thing", "part"]) (sc := defScope sTof) (by decide +kernel))
          (fun _ _ _ _ _ => pg_name (i := 1) scTof.nd rfl (Or.inl rfl)) (fun _ _ _ _ _ => pts_nil) (fun _ _ _ _ _ => pe_call G hr (by rfl) g F.kp b .nil pass0 (pa_cons (pv 1) pa_nil))) pa_nil)))) pss_nil) pss_never, ?_⟩
      refine ⟨_, rfl, two_line, fun tp np => ⟨.ref a, tp, [.ty "list", .ty "tuple"], .type "list", _, true, rfl, upd_same, .cons (.ty _) (.cons (.ty _) .nil), .base (.lst (by rw [upd_ne (ne_of_none hs np)]; exact hs)), kitLT_list, true, rfl, iteT ?_⟩⟩
      have s0 : Same H (upd H tp (.tup [.ty "list", .ty "tuple"])) := same_upd np
      refine ⟨_, rfl, a, rfl, ⟨_, SqL.of (s0 _ _ hs)⟩, fun D nD => lc_list (K := K) (xs := xs) (fun i H' => Same (upd H tp (.tup [.ty "list", .ty "tuple"])) H' ∧ H' D = some (.lst (xs.take i))) ⟨same_upd nD, upd_same⟩ (fun i H' _ z => SqL.of (z.1 _ _ (s0 _ _ hs))) (fun i x H' hx z => ?_) (fun H' z => ?_)⟩
      · exact ⟨rfl, x, rfl, x, rfl, hf x (List.mem_of_getElem? hx), fun H2 s12 => step _ D i x H' H2 hx nD z s12⟩
      · obtain ⟨sm, eD⟩ := z
        rw [List.take_length] at eD
        refine ⟨D, xs, rfl, .inl ⟨SqL.of eD, fun l nl => ?_⟩⟩
        exact q _ l (s0.trans (sm.trans (same_upd nl))) (s0.free (sm.free nl)) upd_same
    · refine ⟨_, pss_cons (ps_if (pt_val (pe_callB call_isiT (by rfl) T.isi boot_isi' (pa_cons (pv 0) (pa_cons (pe_tup (pa_cons (pe_ty T.list boot_list') (pa_cons (pe_ty T.tuple boot_tuple') pa_nil))) pa_nil))))
        (pss_one (ps_ret (pe_callTy call_tuple_of (by rfl) T.tuple boot_tuple' (pa_cons (pe_lc (own := [("part", 1)]) (g := gName 1) (tt := tYes) rfl scTof.nd (pi_tup (pv 0)) (blkOk_by (N := ["thing", "part"]) (sc := defScope sTof) (by decide +kernel))
          (fun _ _ _ _ _ => pg_name (i := 1) scTof.nd rfl (Or.inl rfl)) (fun _ _ _ _ _ => pts_nil) (fun _ _ _ _ _ => pe_call G hr (by rfl) g F.kp b .nil pass0 (pa_cons (pv 1) pa_nil))) pa_nil)))) pss_nil) pss_never, ?_⟩
      refine ⟨_, rfl, two_line, fun tp np => ⟨.ref a, tp, [.ty "list", .ty "tuple"], .type "tuple", _, true, rfl, upd_same, .cons (.ty _) (.cons (.ty _) .nil), .base (.tup (by rw [upd_ne (ne_of_none hs np)]; exact hs)), kitLT_tuple, true, rfl, iteT ?_⟩⟩
      have s0 : Same H (upd H tp (.tup [.ty "list", .ty "tuple"])) := same_upd np
      refine ⟨_, rfl, a, rfl, ⟨_, SqT.of (s0 _ _ hs)⟩, fun D nD => lc_tup (K := K) (xs := xs) (fun i H' => Same (upd H tp (.tup [.ty "list", .ty "tuple"])) H' ∧ H' D = some (.lst (xs.take i))) ⟨same_upd nD, upd_same⟩ (fun i H' _ z => SqT.of (z.1 _ _ (s0 _ _ hs))) (fun i x H' hx z => ?_) (fun H' z => ?_)⟩
      · exact ⟨rfl, x, rfl, x, rfl, hf x (List.mem_of_getElem? hx), fun H2 s12 => step _ D i x H' H2 hx nD z s12⟩
      · obtain ⟨sm, eD⟩ := z
        rw [List.take_length] at eD
        refine ⟨D, xs, rfl, .inl ⟨SqL.of eD, fun l nl => ?_⟩⟩
        exact q _ l (s0.trans (sm.trans (same_upd nl))) (s0.free (sm.free nl)) upd_same
/-! ### is_letter, is_text -/
def spLet : Sp := fun vs H Q _ => ∃ wd i : Int, vs = [.int wd, .int i] ∧ Q (.bl (decide (1 ≤ i ∧ i ≤ wd))) H
theorem ok_let {f fN : Addr} {fd fdN : FuncData} (F : Fun K "is_letter" "is_letter" sLet f fd) (FN : Fun K "is_number" "is_number" sNum fN fdN) (gN : mg "is_number" = some (.ref fN)) (bN : Binds K fdN ["thing"] []) (T : Tx mg) : FnOk P w K mg base CX0 2 f fd ["wide", "thing"] spLet := by
  have GN : FnOk P w K mg base CX0 1 fN fdN ["thing"] spNum := ok_num FN T
  refine F.ok scLet (fun vs H Q E h => ?_) (fun cdv A outer s H vs Q E hr h => ?_)
  · obtain ⟨wd, i, rfl, _⟩ := h
    rfl
  · obtain ⟨wd, i, rfl, q⟩ := h
    refine ⟨_, pss_one (ps_ret (pe_and (pe_call GN hr (by rfl) gN FN.kp bN .nil pass0 (pa_cons (pv 1) pa_nil)) (pe_one (pe_chain op_le op_le pe_int (pv 1) (pv 0))))), ?_⟩
    refine ⟨_, rfl, i, rfl, true, rfl, iteT ?_⟩
    refine ⟨_, rfl, 1, i, rfl, rfl, _, rfl, ite2 (fun c => ?_) (fun c => ?_)⟩
    · have c' : 1 ≤ i := of_decide_eq_true c
      refine ⟨_, rfl, i, wd, rfl, rfl, ?_⟩
      rw [show decide (1 ≤ i ∧ i ≤ wd) = decide (i ≤ wd) by simp [c']] at q
      exact q
    · have c' : ¬ 1 ≤ i := fun z => c (decide_eq_true z)
      rw [show decide (1 ≤ i ∧ i ≤ wd) = false from decide_eq_false fun z => c' z.1] at q
      exact q
def isTxt (wd : Int) (ns : List Int) : Bool := ns.all fun n => decide (1 ≤ n ∧ n ≤ wd)
def spTxt : Sp := fun vs H Q _ => ∃ (wd : Int) (a : Addr) (ns : List Int), vs = [.int wd, .ref a] ∧ H a = some (.tup (ns.map V.int)) ∧ ns.length ≤ 100 ∧ ∀ H', Same H H' → Q (.bl (isTxt wd ns)) H'
theorem ok_txt {f fL fN : Addr} {fd fdL fdN : FuncData} (F : Fun K "is_text" "is_text" sTxt f fd) (FL : Fun K "is_letter" "is_letter" sLet fL fdL) (gL : mg "is_letter" = some (.ref fL)) (bL : Binds K fdL ["wide", "thing"] [])
    (FN : Fun K "is_number" "is_number" sNum fN fdN) (gN : mg "is_number" = some (.ref fN)) (bN : Binds K fdN ["thing"] []) (T : Tx mg) : FnOk P w K mg base CX0 3 f fd ["wide", "thing"] spTxt := by
  have GL : FnOk P w K mg base CX0 2 fL fdL ["wide", "thing"] spLet := ok_let FL FN gN bN T
  refine F.ok scTxt (fun vs H Q E h => ?_) (fun cdv A outer s H vs Q E hr h => ?_)
  · obtain ⟨wd, a, ns, rfl, _⟩ := h
    rfl
  · obtain ⟨wd, a, ns, rfl, hx, hl, q⟩ := h
    refine ⟨_, pss_one (ps_ret (pe_and (pe_callB call_isi (by rfl) T.isi boot_isi' (pa_cons (pv 1) (pa_cons (pe_ty T.tuple boot_tuple') pa_nil)))
      (pe_one (pe_callB (cr_all rfl) (by rfl) T.all boot_all' (pa_cons (pe_lc (own := [("own", 2)]) (g := gName 2) (tt := tYes) rfl scTxt.nd (pi_tup (pv 1)) (blkOk_by (N := ["wide", "thing", "own"]) (sc := defScope sTxt) (by decide +kernel))
          (fun _ _ _ _ _ => pg_name (i := 2) scTxt.nd rfl (Or.inl rfl)) (fun _ _ _ _ _ => pts_nil) (fun _ _ _ _ _ => pe_call GL hr (by rfl) gL FL.kp bL .nil pass0 (pa_cons (pv 0) (pa_cons (pv 2) pa_nil)))) pa_nil))))), ?_⟩
    refine ⟨_, rfl, .ref a, .ty "tuple", .type "tuple", .type "tuple", true, rfl, .ty _, .base (.tup hx), kit_ty (by decide +kernel), true, rfl, iteT ?_⟩
    refine ⟨_, rfl, a, rfl, ⟨_, SqT.of hx⟩, fun D nD => lc_tup (K := K) (xs := ns.map V.int) (fun i H' => Same H H' ∧ H' D = some (.lst (((ns.take i).map fun n => decide (1 ≤ n ∧ n ≤ wd)).map V.bl))) ⟨same_upd nD, upd_same⟩ (fun i H' _ z => SqT.of (z.1 _ _ hx)) (fun i x H' hi z => ?_) (fun H' z => ?_)⟩
    · obtain ⟨sm, eD⟩ := z
      rw [List.getElem?_map] at hi
      cases e : ns[i]? with
      | none => rw [e] at hi; cases hi
      | some n =>
        rw [e] at hi
        cases hi
        refine ⟨rfl, _, rfl, _, rfl, wd, n, rfl, _, eD, few (k := 100) ?_, fun c o g => ?_, ?_⟩
        · rw [List.length_map, List.length_map, List.length_take]
          exact Nat.le_trans (Nat.min_le_right _ _) hl
        · rw [upd_ne (ne_of_none g nD)]
          exact sm _ _ g
        · rw [upd_same, take_more e, List.map_append, List.map_append]
          rfl
    · obtain ⟨sm, eD⟩ := z
      rw [List.length_map, List.take_length] at eD
      refine ⟨D, _, rfl, SqL.of eD, ?_⟩
      have e : (ns.map fun n => decide (1 ≤ n ∧ n ≤ wd)).all id = isTxt wd ns := by rw [List.all_map]; rfl
      have q' := q _ sm
      rw [← e] at q'
      exact q'
end
end NS

namespace NS
open PySem L2
/-! ### the plain laws: next, last, the sorted set, the cut -/
/-- v is the nearest place beyond p with one of ls, the back without -/
def IsNext (ns : List Int) (p : Int) (ls : List Int) (v : Int) : Prop :=
  (v = (ns.length : Int) + 1 ∨ ∃ (k : Nat) (x : Int), ns[k]? = some x ∧ v = (k : Int) + 1 ∧ p < v ∧ x ∈ ls) ∧ ∀ (k : Nat) (x : Int), ns[k]? = some x → p < (k : Int) + 1 → (k : Int) + 1 < v → x ∉ ls
/-- v is the nearest place ahead of p with one of ls, the front without -/
def IsLast (ns : List Int) (p : Int) (ls : List Int) (v : Int) : Prop :=
  (v = 0 ∨ ∃ (k : Nat) (x : Int), ns[k]? = some x ∧ v = (k : Int) + 1 ∧ v < p ∧ x ∈ ls) ∧ ∀ (k : Nat) (x : Int), ns[k]? = some x → v < (k : Int) + 1 → (k : Int) + 1 < p → x ∉ ls
theorem get_lt {α : Type} {l : List α} {k : Nat} {x : α} (h : l[k]? = some x) : k < l.length := (List.getElem?_eq_some_iff.mp h).1
theorem IsNext.uniq {ns : List Int} {p : Int} {ls : List Int} {v u : Int} (a : IsNext ns p ls v) (b : IsNext ns p ls u) : v = u := by
  obtain ⟨a1, a2⟩ := a
  obtain ⟨b1, b2⟩ := b
  rcases Int.lt_trichotomy v u with h | h | h
  · rcases a1 with e | ⟨k, x, hk, ev, hp, hx⟩
    · rcases b1 with e' | ⟨k', x', hk', ev', _, _⟩
      · omega
      · have := get_lt hk'; omega
    · exact absurd hx (b2 k x hk (by omega) (by omega))
  · exact h
  · rcases b1 with e | ⟨k, x, hk, ev, hp, hx⟩
    · rcases a1 with e' | ⟨k', x', hk', ev', _, _⟩
      · omega
      · have := get_lt hk'; omega
    · exact absurd hx (a2 k x hk (by omega) (by omega))
theorem IsLast.uniq {ns : List Int} {p : Int} {ls : List Int} {v u : Int} (a : IsLast ns p ls v) (b : IsLast ns p ls u) : v = u := by
  obtain ⟨a1, a2⟩ := a
  obtain ⟨b1, b2⟩ := b
  rcases Int.lt_trichotomy v u with h | h | h
  · rcases b1 with e | ⟨k, x, hk, ev, hp, hx⟩
    · rcases a1 with e' | ⟨k', x', hk', ev', _, _⟩ <;> omega
    · exact absurd hx (a2 k x hk (by omega) (by omega))
  · exact h
  · rcases a1 with e | ⟨k, x, hk, ev, hp, hx⟩
    · rcases b1 with e' | ⟨k', x', hk', ev', _, _⟩ <;> omega
    · exact absurd hx (b2 k x hk (by omega) (by omega))
theorem IsNext.bound {ns : List Int} {p : Int} {ls : List Int} {v : Int} (a : IsNext ns p ls v) : 0 < v ∧ v ≤ (ns.length : Int) + 1 := by
  rcases a.1 with e | ⟨k, x, hk, ev, _, _⟩
  · omega
  · have := get_lt hk; omega
/-- with more letters the nearer of both -/
theorem IsNext.both {ns : List Int} {p : Int} {ls ms bs : List Int} {v u : Int} (hb : ∀ x, x ∈ bs ↔ x ∈ ls ∨ x ∈ ms) (a : IsNext ns p ls v) (b : IsNext ns p ms u) : IsNext ns p bs (if u < v then u else v) := by
  by_cases h : u < v
  · rw [if_pos h]
    refine ⟨?_, fun k x hk h1 h2 hx => ?_⟩
    · rcases b.1 with e | ⟨k, x, hk, ev, hp, hx⟩
      · have := a.bound; omega
      · exact .inr ⟨k, x, hk, ev, hp, (hb x).mpr (.inr hx)⟩
    · rcases (hb x).mp hx with z | z
      · exact a.2 k x hk h1 (by omega) z
      · exact b.2 k x hk h1 h2 z
  · rw [if_neg h]
    refine ⟨?_, fun k x hk h1 h2 hx => ?_⟩
    · rcases a.1 with e | ⟨k, x, hk, ev, hp, hx⟩
      · exact .inl e
      · exact .inr ⟨k, x, hk, ev, hp, (hb x).mpr (.inl hx)⟩
    · rcases (hb x).mp hx with z | z
      · exact a.2 k x hk h1 h2 z
      · exact b.2 k x hk h1 (by omega) z
/-- the text turned round -/
theorem IsNext.turned {ns : List Int} {p : Int} {ls : List Int} {v : Int} (a : IsNext ns.reverse ((ns.length : Int) + 1 - p) ls v) : IsLast ns p ls ((ns.length : Int) + 1 - v) := by
  have hl : (ns.reverse.length : Int) = ns.length := by rw [List.length_reverse]
  have get : ∀ (k : Nat) (x : Int), ns[k]? = some x → ns.reverse[ns.length - 1 - k]? = some x := fun k x hk => by
    have hlt := get_lt hk
    rw [List.getElem?_reverse (by omega), show ns.length - 1 - (ns.length - 1 - k) = k by omega]
    exact hk
  have get' : ∀ (k : Nat) (x : Int), ns.reverse[k]? = some x → k < ns.length ∧ ns[ns.length - 1 - k]? = some x := fun k x hk => by
    have hlt := get_lt hk
    rw [List.length_reverse] at hlt
    rw [List.getElem?_reverse hlt] at hk
    exact ⟨hlt, hk⟩
  refine ⟨?_, fun k x hk h1 h2 hx => ?_⟩
  · rcases a.1 with e | ⟨k, x, hk, ev, hp, hx⟩
    · left; omega
    · obtain ⟨hlt, hk'⟩ := get' k x hk
      exact .inr ⟨_, x, hk', by omega, by omega, hx⟩
  · have hlt := get_lt hk
    exact a.2 (ns.length - 1 - k) x (get k x hk) (by omega) (by omega) hx
/-- rs is the ascending set of l -/
def SetOf (rs l : List Int) : Prop := rs.Pairwise (· < ·) ∧ ∀ k, k ∈ rs ↔ k ∈ l
theorem SetOf.uniq : ∀ {rs ss l : List Int}, SetOf rs l → SetOf ss l → rs = ss := by
  intro rs ss l ⟨p1, m1⟩ ⟨p2, m2⟩
  have hm : ∀ k, k ∈ rs ↔ k ∈ ss := fun k => (m1 k).trans (m2 k).symm
  clear m1 m2
  induction rs generalizing ss with
  | nil =>
    cases ss with
    | nil => rfl
    | cons b t => exact absurd ((hm b).mpr List.mem_cons_self) (by simp)
  | cons a r ih =>
    cases ss with
    | nil => exact absurd ((hm a).mp List.mem_cons_self) (by simp)
    | cons b t =>
      have q1 := List.pairwise_cons.mp p1
      have q2 := List.pairwise_cons.mp p2
      have eab : a = b := by
        rcases List.mem_cons.mp ((hm a).mp List.mem_cons_self) with e | e
        · exact e
        · rcases List.mem_cons.mp ((hm b).mpr List.mem_cons_self) with e' | e'
          · exact e'.symm
          · have := q2.1 a e
            have := q1.1 b e'
            omega
      subst eab
      congr 1
      refine ih q1.2 q2.2 fun k => ⟨fun hk => ?_, fun hk => ?_⟩
      · rcases List.mem_cons.mp ((hm k).mp (List.mem_cons_of_mem _ hk)) with e | e
        · have := q1.1 k hk; omega
        · exact e
      · rcases List.mem_cons.mp ((hm k).mpr (List.mem_cons_of_mem _ hk)) with e | e
        · have := q2.1 k hk; omega
        · exact e
theorem nodup_len : ∀ {rs l : List Int}, rs.Nodup → (∀ k, k ∈ rs → k ∈ l) → rs.length ≤ l.length
  | [], _, _, _ => Nat.zero_le _
  | a :: r, l, nd, h => by
    have q := List.nodup_cons.mp nd
    have ha := h a List.mem_cons_self
    have ih := nodup_len (rs := r) (l := l.erase a) q.2 fun k hk => (List.mem_erase_of_ne (fun (e : k = a) => q.1 (by rw [← e]; exact hk))).mpr (h k (List.mem_cons_of_mem _ hk))
    rw [List.length_erase_of_mem ha] at ih
    have := List.length_pos_of_mem ha
    rw [List.length_cons]
    omega
theorem SetOf.len {rs l : List Int} (h : SetOf rs l) : rs.length ≤ l.length := by
  have nd : rs.Nodup := h.1.imp (fun {a b} (z : a < b) => by omega)
  exact nodup_len nd fun k hk => (h.2 k).mp hk
/-- the cut of a list, its bounds as a slice's -/
def cutG {α : Type} (xs : List α) (lo hi : Option Int) : List α := (xs.drop (HT.sIx xs.length 0 lo)).take (HT.sIx xs.length xs.length hi - HT.sIx xs.length 0 lo)
theorem cutV_is (xs : List V) (lo hi : Option Int) : cutV xs lo hi = cutG xs lo hi := rfl
theorem cut_map {α β : Type} (f : α → β) (xs : List α) (lo hi : Option Int) : cutG (xs.map f) lo hi = (cutG xs lo hi).map f := by
  unfold cutG
  rw [List.length_map, List.map_take, List.map_drop]
theorem cutG_len {α : Type} (xs : List α) (lo hi : Option Int) : (cutG xs lo hi).length ≤ xs.length := by
  unfold cutG
  rw [List.length_take, List.length_drop]
  omega
theorem cut_whole {α : Type} {xs : List α} {lo hi : Option Int} (h : HT.sIx xs.length 0 lo = 0 ∧ HT.sIx xs.length xs.length hi = xs.length) : cutG xs lo hi = xs := by
  unfold cutG
  rw [h.1, h.2, List.drop_zero, Nat.sub_zero, List.take_length]
end NS

namespace NS
open PySem PySem.Spec PyProof.Rows L2
theorem walk_zipT {K : PySem.W.Frag} {a b : Addr} {xs ys : List V} {n : Nat} (hn : n = min xs.length ys.length) : Walk (RZ.ItzT K a b) n (fun H => SqT K H a xs ∧ SqT K H b ys) (YPair (fun i => xs[i]?) (fun i => ys[i]?)) := by
  subst hn
  refine ⟨fun i _ hi q => ?_, fun _ q => ⟨xs, ys, q.1, q.2, by omega⟩, fun i H v H' _ q y => ?_⟩
  · have h1 : i < xs.length := by omega
    have h2 : i < ys.length := by omega
    exact ⟨xs, ys, xs[i], ys[i], q.1, q.2, by simp [h1], by simp [h2]⟩
  · obtain ⟨T, x, z, h1, h2, h3, h4, h5⟩ := y
    exact ⟨T, x, z, h1, h2, h3, h4 xs q.1, h5 ys q.2⟩
theorem map_get {ns : List Int} {i : Nat} {x : V} (h : (ns.map V.int)[i]? = some x) : ∃ n, ns[i]? = some n ∧ x = .int n := by
  rw [List.getElem?_map] at h
  cases e : ns[i]? with
  | none => rw [e] at h; cases h
  | some n => rw [e] at h; exact ⟨n, rfl, (Option.some.inj h).symm⟩
theorem map_get' {ns : List Int} {i : Nat} {n : Int} (h : ns[i]? = some n) : (ns.map V.int)[i]? = some (.int n) := by rw [List.getElem?_map, h]; rfl
theorem flat_ints (ns : List Int) : ∀ x ∈ ns.map V.int, Flat x := fun x hx => by
  obtain ⟨n, _, e⟩ := List.mem_map.mp hx
  exact .inl ⟨n, e.symm⟩
theorem lay_ints : ∀ ns : List Int, PyData.canLayAll0 (ns.map PyData.int) = true
  | [] => rfl
  | n :: r => by
    show (PyData.canLay0 (.int n) && PyData.canLayAll0 (r.map PyData.int)) = true
    rw [lay_ints r]
    rfl
theorem depth_ints : ∀ ns : List Int, PyData.depthAll (ns.map PyData.int) = 0
  | [] => rfl
  | n :: r => by
    show max (PyData.depth (.int n)) (PyData.depthAll (r.map PyData.int)) = 0
    rw [depth_ints r]
    rfl
theorem shaped_tup (ns : List Int) : SeqAt.shaped (.tuple (ns.map PyData.int)) = true := by
  show (PyData.canLayAll0 (ns.map PyData.int) && decide (PyData.depthAll (ns.map PyData.int) + 1 ≤ 64)) = true
  rw [lay_ints, depth_ints]
  rfl
theorem shaped_lst (ns : List Int) : SeqAt.shaped (.list (ns.map PyData.int)) = true := by
  show (PyData.canLayAll0 (ns.map PyData.int) && decide (PyData.depthAll (ns.map PyData.int) + 1 ≤ 64)) = true
  rw [lay_ints, depth_ints]
  rfl
theorem dp_ints {K : PySem.W.Frag} {H : Hp} : ∀ l : List Int, DpAll K H (l.map V.int) (l.map PyData.int)
  | [] => .nil
  | n :: r => .cons (.int n) (dp_ints r)
/-- a turn's new item behind the list that grows -/
theorem grow {H0 H2 : Hp} {D : Addr} {acc ys : List V} (nD : H0 D = none) (s : Same H0 H2) (e : ys = acc) (x : V) : Same H0 (upd H2 D (.lst (acc ++ [x]))) := fun c o g => by
  rw [upd_ne (ne_of_none g nD)]
  exact s _ _ g
section
variable {P : Program} {w : World} {K : PySem.W.Frag} {mg : Str → Option Value} {base : Heap}
/-! ### is_letters -/
def spLts : Sp := fun vs H Q _ => ∃ (wd : Int) (a : Addr) (ns : List Int), vs = [.int wd, .ref a] ∧ H a = some (.tup (ns.map V.int)) ∧ ns ≠ [] ∧ isTxt wd ns = true ∧ ns.Pairwise (· < ·) ∧ ns.length ≤ 100 ∧ ∀ H', Same H H' → Q (.bl true) H'
theorem ok_lts {f fT fL fN : Addr} {fd fdT fdL fdN : FuncData} (F : Fun K "is_letters" "is_letters" sLts f fd) (FT : Fun K "is_text" "is_text" sTxt fT fdT) (gT : mg "is_text" = some (.ref fT)) (bT : Binds K fdT ["wide", "thing"] [])
    (FL : Fun K "is_letter" "is_letter" sLet fL fdL) (gL : mg "is_letter" = some (.ref fL)) (bL : Binds K fdL ["wide", "thing"] [])
    (FN : Fun K "is_number" "is_number" sNum fN fdN) (gN : mg "is_number" = some (.ref fN)) (bN : Binds K fdN ["thing"] []) (T : Tx mg) : FnOk P w K mg base CX0 4 f fd ["wide", "thing"] spLts := by
  have GT : FnOk P w K mg base CX0 3 fT fdT ["wide", "thing"] spTxt := ok_txt FT FL gL bL FN gN bN T
  refine F.ok scLts (fun vs H Q E h => ?_) (fun cdv A outer s H vs Q E hr h => ?_)
  · obtain ⟨wd, a, ns, rfl, _⟩ := h
    rfl
  · obtain ⟨wd, a, ns, rfl, hx, hne, ht, hp, hl, q⟩ := h
    refine ⟨_, pss_one (ps_ret (pe_and (pe_call GT hr (by rfl) gT FT.kp bT .nil pass0 (pa_cons (pv 0) (pa_cons (pv 1) pa_nil)))
      (pe_and (pe_cmpR (op_neD hr.units) (pv 1) (pe_tup pa_nil) (nomark _))
      (pe_one (pe_callB (cr_all rfl) (by rfl) T.all boot_all' (pa_cons (pe_lc (own := [("near", 2), ("far", 3)]) (g := gTup K 2 (gCons (gName 2) (gCons (gName 3) gNil))) (tt := tYes) rfl scLts.nd
          (RZ.pi_zipA (by rfl) T.zip (pa_cons (pv 1) (pa_cons (pe_slice sl_tupA (pv 1) (po_some pe_int) po_none) pa_nil))) (blkOk_by (N := ["wide", "thing", "near", "far"]) (sc := defScope sLts) (by decide +kernel))
          (fun _ _ _ _ _ => pg_tup rfl (pgs_cons (pg_name (i := 2) scLts.nd rfl (Or.inl rfl)) (pgs_cons (pg_name (i := 3) scLts.nd rfl (Or.inl rfl)) pgs_nil))) (fun _ _ _ _ _ => pts_nil) (fun _ _ _ _ _ => pe_cmpR op_lt (pv 2) (pv 3) (nomark _))) pa_nil)))))), ?_⟩
    refine ⟨_, rfl, _, rfl, wd, a, ns, rfl, hx, hl, fun H1 s1 => ?_⟩
    rw [ht]
    refine ⟨true, rfl, iteT ?_⟩
    refine ⟨_, rfl, Nat.zero_le _, fun e ne => ?_⟩
    have s2 : Same H (upd H1 e (.tup [])) := s1.trans (same_upd ne)
    have hx2 := s2 _ _ hx
    obtain ⟨n0, r0, rfl⟩ : ∃ n0 r0, ns = n0 :: r0 := by
      cases ns with
      | nil => exact absurd rfl hne
      | cons n0 r0 => exact ⟨n0, r0, rfl⟩
    refine ⟨_, _, .tup (SqT.of hx2) (dp_ints _), .tup (SqT.of upd_same) .nil, shaped_tup _, by rfl, true, by rfl, iteT ?_⟩
    have hw : ¬ (HT.sIx ((n0 :: r0).map V.int).length 0 (some 1) = 0 ∧ HT.sIx ((n0 :: r0).map V.int).length ((n0 :: r0).map V.int).length none = ((n0 :: r0).map V.int).length) := fun z => by
      have z1 := z.1
      rw [show ((1 : Int)) = ((1 : Nat) : Int) from rfl, HT.sIx_nat, List.length_map, List.length_cons] at z1
      omega
    refine ⟨_, rfl, _, rfl, 1, rfl, a, _, rfl, SqT.of hx2, fun z => absurd z hw, fun _ c nc => ?_⟩
    have ec : cutV ((n0 :: r0).map V.int) (some 1) none = r0.map V.int := by
      rw [cutV_is, cut_map]
      congr 1
      unfold cutG
      rw [show ((1 : Int)) = ((1 : Nat) : Int) from rfl, HT.sIx_nat, HT.sIx_none, List.length_cons, show min 1 (r0.length + 1) = 1 by omega]
      show (r0.take (r0.length + 1 - 1)) = r0
      rw [Nat.add_sub_cancel, List.take_length]
    rw [ec] at *
    have s3 := same_upd (o := .tup (r0.map V.int)) nc
    have hx3 := s3 _ _ hx2
    refine ⟨a, c, _, _, rfl, .inr ⟨SqT.of hx3, SqT.of upd_same, fun D nD => ?_⟩⟩
    refine lc_it (walk_zipT (n := r0.length) (by simp)) (fun i H' => Same (upd (upd H1 e (.tup [])) c (.tup (r0.map V.int))) H' ∧ H' D = some (.lst ((List.replicate i true).map V.bl))) ⟨same_upd nD, upd_same⟩ (fun i H' _ z => ⟨SqT.of (z.1 _ _ hx3), SqT.of (z.1 _ _ upd_same)⟩) (fun i x H' H2 hi z y => ?_) (fun H' z => ?_)
    · obtain ⟨sm, eD⟩ := z
      obtain ⟨T0, x1, x2, rfl, nT, rfl, g1, g2⟩ := y
      obtain ⟨n1, e1, rfl⟩ := map_get g1
      obtain ⟨n2, e2, rfl⟩ := map_get g2
      have hlt : n1 < n2 := by
        have k1 := List.getElem?_eq_some_iff.mp e1
        have e2' : (n0 :: r0)[i + 1]? = some n2 := e2
        have k2 := List.getElem?_eq_some_iff.mp e2'
        obtain ⟨k1, rfl⟩ := k1
        obtain ⟨k2, rfl⟩ := k2
        exact List.pairwise_iff_getElem.mp hp i (i + 1) k1 k2 (by omega)
      have sT : Same H' (upd H' T0 (.tup [.int n1, .int n2])) := same_upd nT
      refine ⟨T0, _, rfl, SqT.of upd_same, rfl, _, _, rfl, _, _, rfl, rfl, rfl, _, rfl, _, rfl, n1, n2, rfl, rfl, _, sT _ _ eD, few (k := 100) ?_, grow nD (sm.trans sT) rfl _, ?_⟩
      · rw [List.length_map, List.length_replicate]
        rw [List.length_cons] at hl
        omega
      · rw [upd_same, List.replicate_succ', List.map_append]
        show some (HO.lst (_ ++ [V.bl (decide (n1 < n2))])) = _
        rw [decide_eq_true hlt]
        rfl
    · obtain ⟨sm, eD⟩ := z
      refine ⟨D, _, rfl, SqL.of eD, ?_⟩
      have e' : (List.replicate r0.length true).all id = true := by simp
      have q' := q H' (s2.trans (s3.trans sm))
      rw [← e'] at q'
      exact q'
end
end NS

namespace NS
open PySem PySem.Spec PyProof.Rows L2
/-! ### calls in short -/
section
variable {X : Cx}
theorem pe_isi {e c : Expr} {te : TE} {T : String} {p pos : Pos} (hm : X.mg "isinstance" = none) (he : PE X e te) (hc : PE X c (tC (.ty T))) (hg : Gl X "isinstance" := by rfl)
    (h1 : starEach [c] X.env = (false, eval c X.env) :: starEach [] X.env := by rfl) (h2 : starEach [e, c] X.env = (false, eval e X.env) :: starEach [c] X.env := by rfl) (h3 : (backTo pos (starEach [c] X.env)).any (·.1) = false := by rfl) :
    PE X (.Call (.Name "isinstance" p) [e, c] [] pos) (tCB (rIsi X.K) (tCons te (tCons (tC (.ty T)) tNil))) :=
  pe_callB call_isi hg hm boot_isi' (pa_cons he (pa_cons hc pa_nil h1) h2) (by decide) (by decide) h2 h3
def rLen (K : PySem.W.Frag) : List V → Hp → VK → Prop := fun xs H Q => ∃ p ys, xs = [V.ref p] ∧ (SqL K H p ys ∨ SqT K H p ys) ∧ Q (.int ys.length) H
theorem pe_len {e : Expr} {te : TE} {p pos : Pos} (hm : X.mg "len" = none) (he : PE X e te) (hg : Gl X "len" := by rfl)
    (h2 : starEach [e] X.env = (false, eval e X.env) :: starEach [] X.env := by rfl) : PE X (.Call (.Name "len" p) [e] [] pos) (tCB (rLen X.K) (tCons te tNil)) :=
  pe_callB call_len_seq hg hm boot_len' (pa_cons he pa_nil h2) (by decide) (by decide) h2 rfl
/-- e[k], k written -/
theorem pe_at {e : Expr} {te : TE} {k : Int} {j : Nat} {p pos : Pos} (he : PE X e te) : PE X (.Subscript e (.Constant (.int k) j p) pos) (tOp (rIxT X.K) te (tC (.int k))) := pe_ix ix_tup he pe_int (fun _ _ => rfl)
theorem pt_or {a b : Expr} {ta tb : TT} {pos : Pos} (ha : PT X a ta) (hb : PT X b tb) : PT X (.BoolOp .Or [a, b] pos) (tOr ta tb) := PW.pt (pw_or ha (pw_or1 hb))
theorem pt_or3 {a b c : Expr} {ta tb tc : TT} {pos : Pos} (ha : PT X a ta) (hb : PT X b tb) (hc : PT X c tc) : PT X (.BoolOp .Or [a, b, c] pos) (tOr ta (tOr tb tc)) := PW.pt (pw_or ha (pw_or hb (pw_or1 hc)))
theorem pt_and {a b : Expr} {ta tb : TT} {pos : Pos} (ha : PT X a ta) (hb : PT X b tb) : PT X (.BoolOp .And [a, b] pos) (tAnd ta tb) := PW.pt (pw_and ha (pw_and1 hb))
theorem pe_and2 {a b : Expr} {ta tb : TE} {pos : Pos} (ha : PE X a ta) (hb : PE X b tb) : PE X (.BoolOp .And [a, b] pos) (tAndV ta tb) := pe_and ha (pe_one hb)
theorem pe_and3 {a b c : Expr} {ta tb tc : TE} {pos : Pos} (ha : PE X a ta) (hb : PE X b tb) (hc : PE X c tc) : PE X (.BoolOp .And [a, b, c] pos) (tAndV ta (tAndV tb tc)) := pe_and ha (pe_and hb (pe_one hc))
theorem pe_or2 {a b : Expr} {ta tb : TE} {pos : Pos} (ha : PE X a ta) (hb : PE X b tb) : PE X (.BoolOp .Or [a, b] pos) (tOrV ta tb) := pe_or ha (pe_one hb)
end
/-! ### a change as data -/
inductive Chg where
  | put (p l : Int) | drop (p : Int) | turn (p l : Int)
def Chg.xs : Chg → List V
  | .put p l => [.str "put", .int p, .int l]
  | .drop p => [.str "drop", .int p]
  | .turn p l => [.str "turn", .int p, .int l]
def Chg.place : Chg → Int
  | .put p _ => p
  | .drop p => p
  | .turn p _ => p
/-- its place is from 1, its letter one to wd -/
def Chg.ok (wd : Int) : Chg → Prop
  | .put p l => 1 ≤ p ∧ 1 ≤ l ∧ l ≤ wd
  | .drop p => 1 ≤ p
  | .turn p l => 1 ≤ p ∧ 1 ≤ l ∧ l ≤ wd
theorem str_ne {a b : Str} (h : decide (a = b) = false) : ¬ (V.str a = V.str b) := fun z => by
  have e : a = b := V.str.inj z
  rw [e] at h
  simp at h
section
variable {P : Program} {w : World} {K : PySem.W.Frag} {mg : Str → Option Value} {base : Heap}
/-! ### is_change -/
def spIch : Sp := fun vs H Q _ => ∃ (wd : Int) (a : Addr) (c : Chg), vs = [.int wd, .ref a] ∧ H a = some (.tup c.xs) ∧ c.ok wd ∧ ∀ H', Same H H' → Q (.bl true) H'
theorem ok_ich {f fL fN fI : Addr} {fd fdL fdN fdI : FuncData} (F : Fun K "is_change" "is_change" sIch f fd)
    (FL : Fun K "is_letter" "is_letter" sLet fL fdL) (gL : mg "is_letter" = some (.ref fL)) (bL : Binds K fdL ["wide", "thing"] [])
    (FI : Fun K "is_tuple_of" "is_tuple_of" sIto fI fdI) (gI : mg "is_tuple_of" = some (.ref fI)) (bI : Binds K fdI ["thing", "many"] [])
    (FN : Fun K "is_number" "is_number" sNum fN fdN) (gN : mg "is_number" = some (.ref fN)) (bN : Binds K fdN ["thing"] []) (T : Tx mg) : FnOk P w K mg base CX0 3 f fd ["wide", "thing"] spIch := by
  have GL : FnOk P w K mg base CX0 2 fL fdL ["wide", "thing"] spLet := ok_let FL FN gN bN T
  have GN : FnOk P w K mg base CX0 1 fN fdN ["thing"] spNum := ok_num FN T
  have GI : FnOk P w K mg base CX0 1 fI fdI ["thing", "many"] spIto := ok_ito FI T
  refine F.ok scIch (fun vs H Q E h => ?_) (fun cdv A outer s H vs Q E hr h => ?_)
  · obtain ⟨wd, a, c, rfl, _⟩ := h
    rfl
  · obtain ⟨wd, a, c, rfl, hx, hc, q⟩ := h
    have hr1 : Room 1 _ := hr.mono (by decide)
    refine ⟨_, pss_cons (ps_if (pt_or3 (pt_not (pt_val (pe_isi T.isi (pv 1) (pe_ty T.tuple boot_tuple')))) (pt_cmpR op_lt (pe_len T.len (pv 1)) pe_int (nomark _)) (pt_not (pt_val (pe_isi T.isi (pe_at (pv 1)) (pe_ty T.str boot_str'))))) pss_never pss_nil)
      (pss_cons (ps_if (pt_or (pt_not (pt_val (pe_call GN hr1 (by rfl) gN FN.kp bN .nil pass0 (pa_cons (pe_at (pv 1)) pa_nil)))) (pt_cmpR op_lt (pe_at (pv 1)) pe_int (nomark _))) pss_never pss_nil)
      (pss_cons (ps_if (pt_cmpR op_eq (pe_at (pv 1)) pe_str (nomark _)) (pss_one (ps_ret (pe_cmpR op_eq (pe_len T.len (pv 1)) pe_int (nomark _)))) pss_nil)
      (pss_one (ps_ret (pe_and3 (pe_cmpR op_in_seq (pe_at (pv 1)) (pe_tup (pa_cons pe_str (pa_cons pe_str pa_nil))) (by rfl))
        (pe_call GI hr1 (by rfl) gI FI.kp bI .nil pass0 (pa_cons (pv 1) (pa_cons pe_int pa_nil)))
        (pe_call GL hr (by rfl) gL FL.kp bL .nil pass0 (pa_cons (pv 0) (pa_cons (pe_at (pv 1)) pa_nil)))))))), ?_⟩
    cases c with
    | drop p =>
      have hp : 1 ≤ p := hc
      refine ⟨_, rfl, .ref a, .ty "tuple", .type "tuple", .type "tuple", true, rfl, .ty _, .base (.tup hx), kit_ty (by decide +kernel), true, rfl, iteF ?_⟩
      refine ⟨_, rfl, a, _, rfl, .inr (SqT.of hx), 2, 2, rfl, rfl, false, rfl, iteF ?_⟩
      refine ⟨_, rfl, a, _, 0, .str "drop", rfl, rfl, SqT.of hx, rfl, .str "drop", .ty "str", .type "str", .type "str", true, rfl, .ty _, .base (.str _), kit_ty (by decide +kernel), true, rfl, iteF ?_⟩
      refine ⟨_, rfl, a, _, 1, .int p, rfl, rfl, SqT.of hx, rfl, p, rfl, true, rfl, iteF ?_⟩
      refine ⟨_, rfl, a, _, 1, .int p, rfl, rfl, SqT.of hx, rfl, p, 1, rfl, rfl, _, rfl, ?_⟩
      rw [decide_eq_false (show ¬ p < 1 by omega)]
      refine iteF ?_
      refine ⟨_, rfl, a, _, 0, .str "drop", rfl, rfl, SqT.of hx, rfl, rfl, true, by rfl, iteT ?_⟩
      exact ⟨_, rfl, a, _, rfl, .inr (SqT.of hx), rfl, q _ (Same.refl _)⟩
    | put p l =>
      obtain ⟨hp, hl1, hl2⟩ := (show 1 ≤ p ∧ 1 ≤ l ∧ l ≤ wd from hc)
      refine ⟨_, rfl, .ref a, .ty "tuple", .type "tuple", .type "tuple", true, rfl, .ty _, .base (.tup hx), kit_ty (by decide +kernel), true, rfl, iteF ?_⟩
      refine ⟨_, rfl, a, _, rfl, .inr (SqT.of hx), 3, 2, rfl, rfl, false, rfl, iteF ?_⟩
      refine ⟨_, rfl, a, _, 0, .str "put", rfl, rfl, SqT.of hx, rfl, .str "put", .ty "str", .type "str", .type "str", true, rfl, .ty _, .base (.str _), kit_ty (by decide +kernel), true, rfl, iteF ?_⟩
      refine ⟨_, rfl, a, _, 1, .int p, rfl, rfl, SqT.of hx, rfl, p, rfl, true, rfl, iteF ?_⟩
      refine ⟨_, rfl, a, _, 1, .int p, rfl, rfl, SqT.of hx, rfl, p, 1, rfl, rfl, _, rfl, ?_⟩
      rw [decide_eq_false (show ¬ p < 1 by omega)]
      refine iteF ?_
      refine ⟨_, rfl, a, _, 0, .str "put", rfl, rfl, SqT.of hx, rfl, rfl, false, by rfl, iteF ?_⟩
      refine ⟨_, rfl, a, _, 0, .str "put", rfl, rfl, SqT.of hx, rfl, two_line, fun t nt => ?_⟩
      have st := same_upd (o := .tup [.str "put", .str "turn"]) nt
      have hx' := st _ _ hx
      refine ⟨t, _, rfl, .inr (SqT.of upd_same), rfl, rfl, true, by rfl, iteT ?_⟩
      refine ⟨_, rfl, a, _, 3, rfl, hx', true, by rfl, iteT ?_⟩
      refine ⟨_, rfl, _, rfl, a, _, 2, .int l, rfl, rfl, SqT.of hx', rfl, wd, l, rfl, ?_⟩
      rw [decide_eq_true (show 1 ≤ l ∧ l ≤ wd from ⟨hl1, hl2⟩)]
      exact q _ st
    | turn p l =>
      obtain ⟨hp, hl1, hl2⟩ := (show 1 ≤ p ∧ 1 ≤ l ∧ l ≤ wd from hc)
      refine ⟨_, rfl, .ref a, .ty "tuple", .type "tuple", .type "tuple", true, rfl, .ty _, .base (.tup hx), kit_ty (by decide +kernel), true, rfl, iteF ?_⟩
      refine ⟨_, rfl, a, _, rfl, .inr (SqT.of hx), 3, 2, rfl, rfl, false, rfl, iteF ?_⟩
      refine ⟨_, rfl, a, _, 0, .str "turn", rfl, rfl, SqT.of hx, rfl, .str "turn", .ty "str", .type "str", .type "str", true, rfl, .ty _, .base (.str _), kit_ty (by decide +kernel), true, rfl, iteF ?_⟩
      refine ⟨_, rfl, a, _, 1, .int p, rfl, rfl, SqT.of hx, rfl, p, rfl, true, rfl, iteF ?_⟩
      refine ⟨_, rfl, a, _, 1, .int p, rfl, rfl, SqT.of hx, rfl, p, 1, rfl, rfl, _, rfl, ?_⟩
      rw [decide_eq_false (show ¬ p < 1 by omega)]
      refine iteF ?_
      refine ⟨_, rfl, a, _, 0, .str "turn", rfl, rfl, SqT.of hx, rfl, rfl, false, by rfl, iteF ?_⟩
      refine ⟨_, rfl, a, _, 0, .str "turn", rfl, rfl, SqT.of hx, rfl, two_line, fun t nt => ?_⟩
      have st := same_upd (o := .tup [.str "put", .str "turn"]) nt
      have hx' := st _ _ hx
      refine ⟨t, _, rfl, .inr (SqT.of upd_same), rfl, rfl, true, by rfl, iteT ?_⟩
      refine ⟨_, rfl, a, _, 3, rfl, hx', true, by rfl, iteT ?_⟩
      refine ⟨_, rfl, _, rfl, a, _, 2, .int l, rfl, rfl, SqT.of hx', rfl, wd, l, rfl, ?_⟩
      rw [decide_eq_true (show 1 ≤ l ∧ l ≤ wd from ⟨hl1, hl2⟩)]
      exact q _ st
end
end NS

namespace NS
open PySem PySem.Spec PyProof.Rows L2
theorem blT {c : Prop} [Decidable c] (h : c) : V.bl (decide c) = V.bl true := by rw [decide_eq_true h]
theorem blF {c : Prop} [Decidable c] (h : ¬ c) : V.bl (decide c) = V.bl false := by rw [decide_eq_false h]
/-- x in ls, of ints -/
theorem in_ints (x : Int) (ls : List Int) : inV (.int x) (ls.map V.int) = decide (x ∈ ls) := by
  unfold inV
  rw [List.any_map]
  rw [Bool.eq_iff_iff, List.any_eq_true, decide_eq_true_eq]
  constructor
  · rintro ⟨y, hy, e⟩
    have e' : (y == x) = true := e
    rw [beq_iff_eq] at e'
    rw [← e']
    exact hy
  · intro h
    exact ⟨x, h, by show (x == x) = true; simp⟩
theorem flat_all (ls : List Int) : (ls.map V.int).all flatV = true := by
  rw [List.all_map, List.all_eq_true]
  intro x _
  rfl
/-- an item of a list or a tuple at a place from 0 -/
theorem sq_at {K : PySem.W.Frag} {H : Hp} {a : Addr} {xs : List V} {z : Int} {j : Nat} {v : V} {Q : VK} (h : Sq H a xs) (e : z = (j : Int)) (g : xs[j]? = some v) (q : Q v H) : rIx K (.ref a) (.int z) H Q := by
  rcases h with h | h
  · exact .inl ⟨a, xs, z, v, rfl, rfl, SqL.of h, at_of e g, q⟩
  · exact .inr (.inl ⟨a, xs, z, v, rfl, rfl, SqT.of h, at_of e g, q⟩)
section
variable {P : Program} {w : World} {K : PySem.W.Frag} {mg : Str → Option Value} {base : Heap}
/-! ### sure_place -/
def spSure : Sp := fun vs H Q _ => ∃ (a : Addr) (xs : List V) (p : Int), vs = [.ref a, .int p] ∧ Sq H a xs ∧ 0 ≤ p ∧ p ≤ (xs.length : Int) + 1 ∧ Q .non H
theorem ok_sure {f fN : Addr} {fd fdN : FuncData} (F : Fun K "sure_place" "sure_place" sSure f fd) (FN : Fun K "is_number" "is_number" sNum fN fdN) (gN : mg "is_number" = some (.ref fN)) (bN : Binds K fdN ["thing"] []) (T : Tx mg) : FnOk P w K mg base CX0 2 f fd ["text", "place"] spSure := by
  have GN : FnOk P w K mg base CX0 1 fN fdN ["thing"] spNum := ok_num FN T
  refine F.ok scSure (fun vs H Q E h => ?_) (fun cdv A outer s H vs Q E hr h => ?_)
  · obtain ⟨a, xs, p, rfl, _⟩ := h
    rfl
  · obtain ⟨a, xs, p, rfl, hs, h0, h1, q⟩ := h
    refine ⟨_, pss_one (ps_if (pt_or (pt_not (pt_val (pe_call GN hr (by rfl) gN FN.kp bN .nil pass0 (pa_cons (pv 1) pa_nil)))) (pt_not (pt_chain op_le op_le pe_int (pv 1) (pe_op op_add (pe_len T.len (pv 0)) pe_int)))) pss_never pss_nil), ?_⟩
    refine ⟨_, rfl, p, rfl, true, rfl, iteF ?_⟩
    refine ⟨_, rfl, 0, p, rfl, rfl, true, blT h0, iteT ?_⟩
    exact ⟨_, rfl, a, xs, rfl, hs.or, _, 1, rfl, rfl, p, _, rfl, rfl, true, blT h1, iteF q⟩
/-! ### next_place, last_place -/
def spNext : Sp := fun vs H Q _ => ∃ (a b : Addr) (ns ls : List Int) (p : Int), vs = [.ref a, .int p, .ref b] ∧ Sq H a (ns.map V.int) ∧ Sq H b (ls.map V.int) ∧ 0 ≤ p ∧ p ≤ (ns.length : Int) + 1 ∧ ns.length ≤ 100 ∧ ∀ v, IsNext ns p ls v → Q (.int v) H
def spLast : Sp := fun vs H Q _ => ∃ (a b : Addr) (ns ls : List Int) (p : Int), vs = [.ref a, .int p, .ref b] ∧ Sq H a (ns.map V.int) ∧ Sq H b (ls.map V.int) ∧ 0 ≤ p ∧ p ≤ (ns.length : Int) + 1 ∧ ns.length ≤ 100 ∧ ∀ v, IsLast ns p ls v → Q (.int v) H
theorem ok_next {f fS fN : Addr} {fd fdS fdN : FuncData} (F : Fun K "next_place" "next_place" sNext f fd) (FS : Fun K "sure_place" "sure_place" sSure fS fdS) (gS : mg "sure_place" = some (.ref fS)) (bS : Binds K fdS ["text", "place"] [])
    (FN : Fun K "is_number" "is_number" sNum fN fdN) (gN : mg "is_number" = some (.ref fN)) (bN : Binds K fdN ["thing"] []) (T : Tx mg) : FnOk P w K mg base CX0 3 f fd ["text", "place", "letters"] spNext := by
  have GS : FnOk P w K mg base CX0 2 fS fdS ["text", "place"] spSure := ok_sure FS FN gN bN T
  refine F.ok scNext (fun vs H Q E h => ?_) (fun cdv A outer s H vs Q E hr h => ?_)
  · obtain ⟨a, b, ns, ls, p, rfl, _⟩ := h
    rfl
  · obtain ⟨a, b, ns, ls, p, rfl, ha, hb, h0, h1, hl, q⟩ := h
    refine ⟨_, pss_cons (ps_expr (pe_call GS hr (by rfl) gS FS.kp bS .nil pass0 (pa_cons (pv 0) (pa_cons (pv 1) pa_nil))))
      (pss_cons (ps_for PassesOwn.never rfl (pi_range2 (by rfl) T.range (pa_cons (pe_op op_add (pv 1) pe_int) (pa_cons (pe_op op_add (pe_len T.len (pv 0)) pe_int) pa_nil))) (pg_name (i := 3) scNext.nd rfl (Or.inl rfl))
        (pss_one (ps_if (pt_cmpR op_in_seq (pe_ix ix_seq (pv 0) (pe_op op_sub (pv 3) pe_int) (fun _ _ => rfl)) (pv 2) (by rfl)) (pss_one (ps_ret (pv 3))) pss_nil)))
      (pss_one (ps_ret (pe_op op_add (pe_len T.len (pv 0)) pe_int)))), ?_⟩
    have hlen : ((ns.map V.int).length : Int) = ns.length := by rw [List.length_map]
    refine ⟨_, rfl, _, rfl, a, _, p, rfl, ha, h0, by rw [hlen]; exact h1, ?_⟩
    refine ⟨_, rfl, p, 1, rfl, rfl, _, rfl, a, _, rfl, ha.or, _, 1, rfl, rfl, p + 1, _, rfl, ⟨by omega, by omega, by omega, by omega⟩, ?_⟩
    refine for_range (lo := p + 1) (fun i σ H' => H' = H ∧ (∃ y, σ = [some (.ref a), some (.int p), some (.ref b), y]) ∧ ∀ (k : Nat) (x : Int), ns[k]? = some x → p < (k : Int) + 1 → (k : Int) + 1 < p + 1 + i → x ∉ ls) ⟨rfl, ⟨none, rfl⟩, fun k x _ h2 h3 => by omega⟩ (fun i σ H' hi z => ?_) (fun σ H' z => ?_)
    · obtain ⟨rfl, ⟨y, rfl⟩, hno⟩ := z
      rw [hlen] at hi
      have hk : (p.toNat + i) < ns.length := by omega
      have g := List.getElem?_eq_getElem hk
      refine ⟨_, rfl, _, rfl, p + 1 + i, 1, rfl, rfl, sq_at ha (j := p.toNat + i) (by omega) (map_get' g) ⟨_, rfl, b, _, rfl, hb.or, rfl, flat_all ls, ?_⟩⟩
      rw [in_ints]
      refine ⟨_, rfl, ite2 (fun c => ?_) (fun c => ?_)⟩
      · have c' : ns[p.toNat + i] ∈ ls := of_decide_eq_true c
        exact ⟨_, rfl, q _ ⟨.inr ⟨p.toNat + i, _, g, by omega, by omega, c'⟩, fun k x hk2 h2 h3 => hno k x hk2 h2 h3⟩⟩
      · have c' : ns[p.toNat + i] ∉ ls := fun z => c (decide_eq_true z)
        refine ⟨rfl, ⟨_, rfl⟩, fun k x hk2 h2 h3 hx => ?_⟩
        by_cases e : k = p.toNat + i
        · subst e
          rw [g] at hk2
          cases hk2
          exact c' hx
        · exact hno k x hk2 h2 (by omega) hx
    · obtain ⟨rfl, ⟨y, rfl⟩, hno⟩ := z
      rw [hlen] at hno
      refine ⟨_, rfl, a, _, rfl, ha.or, _, 1, rfl, rfl, ?_⟩
      have q' := q ((ns.length : Int) + 1) ⟨.inl rfl, fun k x hk2 h2 h3 => hno k x hk2 h2 (by omega)⟩
      rw [← hlen] at q'
      exact q'
theorem ok_last {f fS fN : Addr} {fd fdS fdN : FuncData} (F : Fun K "last_place" "last_place" sLast f fd) (FS : Fun K "sure_place" "sure_place" sSure fS fdS) (gS : mg "sure_place" = some (.ref fS)) (bS : Binds K fdS ["text", "place"] [])
    (FN : Fun K "is_number" "is_number" sNum fN fdN) (gN : mg "is_number" = some (.ref fN)) (bN : Binds K fdN ["thing"] []) (T : Tx mg) : FnOk P w K mg base CX0 3 f fd ["text", "place", "letters"] spLast := by
  have GS : FnOk P w K mg base CX0 2 fS fdS ["text", "place"] spSure := ok_sure FS FN gN bN T
  refine F.ok scLast (fun vs H Q E h => ?_) (fun cdv A outer s H vs Q E hr h => ?_)
  · obtain ⟨a, b, ns, ls, p, rfl, _⟩ := h
    rfl
  · obtain ⟨a, b, ns, ls, p, rfl, ha, hb, h0, h1, hl, q⟩ := h
    refine ⟨_, pss_cons (ps_expr (pe_call GS hr (by rfl) gS FS.kp bS .nil pass0 (pa_cons (pv 0) (pa_cons (pv 1) pa_nil))))
      (pss_cons (ps_for PassesOwn.never rfl (pi_range3 (by rfl) T.range (pa_cons (pe_op op_sub (pv 1) pe_int) (pa_cons pe_int (pa_cons (pe_un un_neg pe_int) pa_nil)))) (pg_name (i := 3) scLast.nd rfl (Or.inl rfl))
        (pss_one (ps_if (pt_cmpR op_in_seq (pe_ix ix_seq (pv 0) (pe_op op_sub (pv 3) pe_int) (fun _ _ => rfl)) (pv 2) (by rfl)) (pss_one (ps_ret (pv 3))) pss_nil)))
      (pss_one (ps_ret pe_int))), ?_⟩
    have hlen : ((ns.map V.int).length : Int) = ns.length := by rw [List.length_map]
    refine ⟨_, rfl, _, rfl, a, _, p, rfl, ha, h0, by rw [hlen]; exact h1, ?_⟩
    refine ⟨_, rfl, p, 1, rfl, rfl, 1, rfl, p - 1, 0, -1, _, rfl, RgC.neg (by omega) (by omega) (by omega) (by omega), ?_⟩
    refine for_rangeC (lo := p - 1) (c := -1) (fun i σ H' => H' = H ∧ (∃ y, σ = [some (.ref a), some (.int p), some (.ref b), y]) ∧ ∀ (k : Nat) (x : Int), ns[k]? = some x → p - 1 - i < (k : Int) + 1 → (k : Int) + 1 < p → x ∉ ls) ⟨rfl, ⟨none, rfl⟩, fun k x _ h2 h3 => by omega⟩ (fun i σ H' hi z => ?_) (fun σ H' z => ?_)
    · obtain ⟨rfl, ⟨y, rfl⟩, hno⟩ := z
      have hk : (p.toNat - 2 - i) < ns.length := by omega
      have g := List.getElem?_eq_getElem hk
      refine ⟨_, rfl, _, rfl, p - 1 + (i : Int) * -1, 1, rfl, rfl, sq_at ha (j := p.toNat - 2 - i) (by omega) (map_get' g) ⟨_, rfl, b, _, rfl, hb.or, rfl, flat_all ls, ?_⟩⟩
      rw [in_ints]
      refine ⟨_, rfl, ite2 (fun c => ?_) (fun c => ?_)⟩
      · have c' : ns[p.toNat - 2 - i] ∈ ls := of_decide_eq_true c
        exact ⟨_, rfl, q _ ⟨.inr ⟨p.toNat - 2 - i, _, g, by omega, by omega, c'⟩, fun k x hk2 h2 h3 => hno k x hk2 (by omega) h3⟩⟩
      · have c' : ns[p.toNat - 2 - i] ∉ ls := fun z => c (decide_eq_true z)
        refine ⟨rfl, ⟨_, rfl⟩, fun k x hk2 h2 h3 hx => ?_⟩
        by_cases e : k = p.toNat - 2 - i
        · subst e
          rw [g] at hk2
          cases hk2
          exact c' hx
        · exact hno k x hk2 (by omega) h3 hx
    · obtain ⟨rfl, ⟨y, rfl⟩, hno⟩ := z
      exact q 0 ⟨.inl rfl, fun k x hk2 h2 h3 => hno k x hk2 (by omega) h3⟩
end
end NS

namespace NS
open PySem PySem.Spec PyProof.Rows L2
/-- a slice of a tuple: itself, or a new one: in both cases some tuple holds the cut -/
theorem slA {K : PySem.W.Frag} {H : Hp} {a : Addr} {ns : List Int} {lo hi : Option Int} {Q : VK} (h : H a = some (.tup (ns.map V.int)))
    (q : ∀ (H' : Hp) (p : Addr), Same H H' → H' p = some (.tup ((cutG ns lo hi).map V.int)) → Q (.ref p) H') : rSlA K (.ref a) lo hi H Q := by
  refine ⟨a, _, rfl, SqT.of h, fun z => ?_, fun _ p np => ?_⟩
  · refine q H a (Same.refl _) ?_
    rw [List.length_map] at z
    rw [cut_whole z]
    exact h
  · refine q _ p (same_upd np) ?_
    rw [upd_same, cutV_is, cut_map]
theorem slL {K : PySem.W.Frag} {H : Hp} {a : Addr} {ns : List Int} {lo hi : Option Int} {Q : VK} (h : H a = some (.lst (ns.map V.int)))
    (q : ∀ (H' : Hp) (p : Addr), Same H H' → H' p = some (.lst ((cutG ns lo hi).map V.int)) → Q (.ref p) H') : rSlL K (.ref a) lo hi H Q := by
  refine ⟨a, _, rfl, SqL.of h, fun p np => ?_⟩
  refine q _ p (same_upd np) ?_
  rw [upd_same, cutV_is, cut_map]
/-- tuple(sorted(set(x))): the ascending set -/
theorem sst {K : PySem.W.Frag} {w : World} {H : Hp} {a : Addr} {ns : List Int} {Q : VK} (h : Sq H a (ns.map V.int)) (hl : ns.length < 63)
    (q : ∀ (H' : Hp) (p : Addr) (rs : List Int), Same H H' → H p = none → H' p = some (.tup (rs.map V.int)) → SetOf rs ns → Q (.ref p) H') :
    rSetI K w [.ref a] H fun y H2 => rSortedSet w [y] H2 fun z H3 => ∃ p ys, [z] = [V.ref p] ∧ ((SqL K H3 p ys ∧ ∀ l, H3 l = none → Q (.ref l) (upd H3 l (.tup ys))) ∨ (SqT K H3 p ys ∧ Q (.ref p) H3)) := by
  refine ⟨a, ns, rfl, h.or, hl, fun p c np hc => ⟨p, _, c, rfl, upd_same, by omega, fun rs l h1 h2 h3 nl => ⟨l, _, rfl, .inl ⟨SqL.of upd_same, fun t nt => ?_⟩⟩⟩⟩
  have s1 := same_upd (o := SetO w p (fun j => decide (j ∈ ns)) c) np
  have s2 := s1.trans (same_upd (o := .lst (rs.map V.int)) nl)
  have s3 := s2.trans (same_upd (o := .tup (rs.map V.int)) nt)
  exact q _ t rs s3 (s2.free nt) upd_same ⟨h1, fun k => by rw [h2, decide_eq_true_eq]⟩
/-- the cut that between takes -/
def betw (ns : List Int) (lo hi : Int) : List Int := cutG ns (some lo) (some (if hi - 1 > lo then hi - 1 else lo))
section
variable {P : Program} {w : World} {K : PySem.W.Frag} {mg : Str → Option Value} {base : Heap}
def spBetw : Sp := fun vs H Q _ => ∃ (a : Addr) (ns : List Int) (lo hi : Int), vs = [.ref a, .int lo, .int hi] ∧ Sq H a (ns.map V.int) ∧ 0 ≤ lo ∧ lo ≤ (ns.length : Int) + 1 ∧ 0 ≤ hi ∧ hi ≤ (ns.length : Int) + 1 ∧ ns.length ≤ 60 ∧
  ∀ (H' : Hp) (p : Addr) (rs : List Int), Same H H' → H' p = some (.tup (rs.map V.int)) → SetOf rs (betw ns lo hi) → Q (.ref p) H'
theorem ok_betw {f fS fN : Addr} {fd fdS fdN : FuncData} (F : Fun K "between" "between" sBetw f fd) (FS : Fun K "sure_place" "sure_place" sSure fS fdS) (gS : mg "sure_place" = some (.ref fS)) (bS : Binds K fdS ["text", "place"] [])
    (FN : Fun K "is_number" "is_number" sNum fN fdN) (gN : mg "is_number" = some (.ref fN)) (bN : Binds K fdN ["thing"] []) (T : Tx mg) : FnOk P w K mg base CX0 3 f fd ["text", "near", "far"] spBetw := by
  have GS : FnOk P w K mg base CX0 2 fS fdS ["text", "place"] spSure := ok_sure FS FN gN bN T
  refine F.ok scBetw (fun vs H Q E h => ?_) (fun cdv A outer s H vs Q E hr h => ?_)
  · obtain ⟨a, ns, lo, hi, rfl, _⟩ := h
    rfl
  · obtain ⟨a, ns, lo, hi, rfl, ha, l0, l1, h0, h1, hl, q⟩ := h
    have hlen : ((ns.map V.int).length : Int) = ns.length := by rw [List.length_map]
    have hb : (betw ns lo hi).length < 63 := Nat.lt_of_le_of_lt (cutG_len _ _ _) (by omega)
    rcases ha with ha | ha
    · refine ⟨_, pss_cons (ps_expr (pe_call GS hr (by rfl) gS FS.kp bS .nil pass0 (pa_cons (pv 0) (pa_cons (pv 1) pa_nil)))) (pss_cons (ps_expr (pe_call GS hr (by rfl) gS FS.kp bS .nil pass0 (pa_cons (pv 0) (pa_cons (pv 2) pa_nil))))
        (pss_one (ps_ret (pe_callTy call_tuple_of (by rfl) T.tuple boot_tuple' (pa_cons (pe_callB (cr_sortedSet rfl) (by rfl) T.sorted boot_sorted' (pa_cons (pe_callTy (cr_setI rfl) (by rfl) T.set boot_set' (pa_cons
          (pe_slice sl_list (pv 0) (po_some (pv 1)) (po_some (pe_callB (call_max2 rfl) (by rfl) T.max boot_max' (pa_cons (pv 1) (pa_cons (pe_op op_sub (pv 2) pe_int) pa_nil))))) pa_nil)) pa_nil)) pa_nil))))), ?_⟩
      refine ⟨_, rfl, _, rfl, a, _, lo, rfl, .inl ha, l0, by rw [hlen]; exact l1, ?_⟩
      refine ⟨_, rfl, _, rfl, a, _, hi, rfl, .inl ha, h0, by rw [hlen]; exact h1, ?_⟩
      refine ⟨_, rfl, _, rfl, lo, rfl, _, rfl, _, rfl, hi, 1, rfl, rfl, lo, hi - 1, rfl, _, rfl, slL ha fun H1 c s1 ec => ?_⟩
      exact sst (ns := betw ns lo hi) (.inl ec) hb fun H2 p rs s2 _ e2 hs => q H2 p rs (s1.trans s2) e2 hs
    · refine ⟨_, pss_cons (ps_expr (pe_call GS hr (by rfl) gS FS.kp bS .nil pass0 (pa_cons (pv 0) (pa_cons (pv 1) pa_nil)))) (pss_cons (ps_expr (pe_call GS hr (by rfl) gS FS.kp bS .nil pass0 (pa_cons (pv 0) (pa_cons (pv 2) pa_nil))))
        (pss_one (ps_ret (pe_callTy call_tuple_of (by rfl) T.tuple boot_tuple' (pa_cons (pe_callB (cr_sortedSet rfl) (by rfl) T.sorted boot_sorted' (pa_cons (pe_callTy (cr_setI rfl) (by rfl) T.set boot_set' (pa_cons
          (pe_slice sl_tupA (pv 0) (po_some (pv 1)) (po_some (pe_callB (call_max2 rfl) (by rfl) T.max boot_max' (pa_cons (pv 1) (pa_cons (pe_op op_sub (pv 2) pe_int) pa_nil))))) pa_nil)) pa_nil)) pa_nil))))), ?_⟩
      refine ⟨_, rfl, _, rfl, a, _, lo, rfl, .inr ha, l0, by rw [hlen]; exact l1, ?_⟩
      refine ⟨_, rfl, _, rfl, a, _, hi, rfl, .inr ha, h0, by rw [hlen]; exact h1, ?_⟩
      refine ⟨_, rfl, _, rfl, lo, rfl, _, rfl, _, rfl, hi, 1, rfl, rfl, lo, hi - 1, rfl, _, rfl, slA ha fun H1 c s1 ec => ?_⟩
      exact sst (ns := betw ns lo hi) (.inr ec) hb fun H2 p rs s2 _ e2 hs => q H2 p rs (s1.trans s2) e2 hs
/-! ### shorter -/
def spShort : Sp := fun vs H Q _ => ∃ (a b : Addr) (ns ms : List Int), vs = [.ref a, .ref b] ∧ Sq H a (ns.map V.int) ∧ Sq H b (ms.map V.int) ∧ ns.length ≤ 100 ∧ ms.length ≤ 100 ∧ ∀ H', Same H H' → Q (.bl (HT.lexLt ((ns.length : Int) :: ns) ((ms.length : Int) :: ms))) H'
theorem ok_short {f fT : Addr} {fd fdT : FuncData} (F : Fun K "shorter" "shorter" sShort f fd) (FT : Fun K "tuple_of" "tuple_of" sTof fT fdT) (gT : mg "tuple_of" = some (.ref fT)) (bT : Binds K fdT ["thing"] []) (T : Tx mg) : FnOk P w K mg base CX0 3 f fd ["one", "other"] spShort := by
  have GT : FnOk P w K mg base CX0 2 fT fdT ["thing"] spTof := ok_tof FT T gT bT
  refine F.ok scShort (fun vs H Q E h => ?_) (fun cdv A outer s H vs Q E hr h => ?_)
  · obtain ⟨a, b, ns, ms, rfl, _⟩ := h
    rfl
  · obtain ⟨a, b, ns, ms, rfl, ha, hb, l1, l2, q⟩ := h
    refine ⟨_, pss_one (ps_ret (pe_cmpR (op_ltP hr.units) (pe_tup (pa_cons (pe_len T.len (pv 0)) (pa_cons (pe_call GT hr (by rfl) gT FT.kp bT .nil pass0 (pa_cons (pv 0) pa_nil)) pa_nil)))
      (pe_tup (pa_cons (pe_len T.len (pv 1)) (pa_cons (pe_call GT hr (by rfl) gT FT.kp bT .nil pass0 (pa_cons (pv 1) pa_nil)) pa_nil))) (nomark _))), ?_⟩
    have e1 : ((ns.map V.int).length : Int) = ns.length := by rw [List.length_map]
    have e2 : ((ms.map V.int).length : Int) = ms.length := by rw [List.length_map]
    refine ⟨_, rfl, a, _, rfl, ha.or, _, rfl, a, _, rfl, ha, flat_ints ns, by rw [List.length_map]; exact l1, fun H1 p s1 np ep => ⟨two_line, fun t nt => ?_⟩⟩
    have s2 := s1.trans (same_upd (o := .tup [.int ((ns.map V.int).length : Int), .ref p]) nt)
    have hb2 := hb.same s2
    refine ⟨_, rfl, b, _, rfl, hb2.or, _, rfl, b, _, rfl, hb2, flat_ints ms, by rw [List.length_map]; exact l2, fun H2 p' s3 np' ep' => ⟨two_line, fun t' nt' => ?_⟩⟩
    have s4 := s3.trans (same_upd (o := .tup [.int ((ms.map V.int).length : Int), .ref p']) nt')
    have n1 : Same (upd H1 t (.tup [.int ((ns.map V.int).length : Int), .ref p])) (upd H2 t' (.tup [.int ((ms.map V.int).length : Int), .ref p'])) := s4
    have z1 : upd H1 t (.tup [.int ((ns.map V.int).length : Int), .ref p]) p = some (.tup (ns.map V.int)) := same_upd nt _ _ ep
    refine ⟨t, t', p, p', ((ns.map V.int).length : Int), ((ms.map V.int).length : Int), ns, ms, rfl, rfl, SqT.of (n1 _ _ upd_same), SqT.of upd_same, SqT.of (n1 _ _ z1), SqT.of (same_upd nt' _ _ ep'), ?_⟩
    have q' := q _ (s2.trans s4)
    rw [← e1, ← e2] at q'
    exact q'
end
end NS

namespace NS
open PySem PySem.Spec PyProof.Rows L2
/-! ### changed -/
def Chg.word : Chg → Str
  | .put _ _ => "put"
  | .drop _ => "drop"
  | .turn _ _ => "turn"
def Chg.ls : Chg → List Int
  | .put _ l => [l]
  | .drop _ => []
  | .turn _ l => [l]
/-- its place is one of the text's -/
def Chg.fits (ns : List Int) : Chg → Prop
  | .put p _ => p ≤ (ns.length : Int) + 1
  | .drop p => p ≤ (ns.length : Int)
  | .turn p _ => p ≤ (ns.length : Int)
/-- the text that comes -/
def Chg.out (ns : List Int) : Chg → List Int
  | .put p l => ns.take (p - 1).toNat ++ [l] ++ ns.drop (p - 1).toNat
  | .drop p => ns.take (p - 1).toNat ++ [] ++ ns.drop p.toNat
  | .turn p l => ns.take (p - 1).toNat ++ [l] ++ ns.drop p.toNat
theorem cut_to {α : Type} (ns : List α) (k : Int) (h0 : 0 ≤ k) (h1 : k ≤ ns.length) : cutG ns none (some k) = ns.take k.toNat := by
  unfold cutG
  obtain ⟨j, rfl⟩ : ∃ j : Nat, k = j := ⟨k.toNat, by omega⟩
  rw [HT.sIx_none, HT.sIx_nat, List.drop_zero, Nat.sub_zero, Int.toNat_natCast, Nat.min_eq_left (by omega)]
theorem cut_from {α : Type} (ns : List α) (k : Int) (h0 : 0 ≤ k) (h1 : k ≤ ns.length) : cutG ns (some k) none = ns.drop k.toNat := by
  unfold cutG
  obtain ⟨j, rfl⟩ : ∃ j : Nat, k = j := ⟨k.toNat, by omega⟩
  rw [HT.sIx_none, HT.sIx_nat, Int.toNat_natCast, Nat.min_eq_left (by omega)]
  exact List.take_of_length_le (by rw [List.length_drop]; exact Nat.le_refl _)
/-- t + u of texts: some tuple holds both -/
theorem catA {K : PySem.W.Frag} {H : Hp} {a b : Addr} {ns ms : List Int} {Q : VK} (ha : H a = some (.tup (ns.map V.int))) (hb : H b = some (.tup (ms.map V.int))) (hl : ns.length + ms.length ≤ 1000)
    (q : ∀ (H' : Hp) (p : Addr), Same H H' → H' p = some (.tup ((ns ++ ms).map V.int)) → Q (.ref p) H') : rCatA K (.ref a) (.ref b) H Q := by
  refine ⟨a, b, _, _, rfl, rfl, SqT.of ha, SqT.of hb, Nat.le_of_lt (few (k := 1000) (by rw [List.length_map, List.length_map]; exact hl)), fun z => ?_, fun _ z => ?_, fun _ _ p np => ?_⟩
  · have e : ns = [] := by
      cases ns with
      | nil => rfl
      | cons x r => cases z
    subst e
    exact q H b (Same.refl _) hb
  · have e : ms = [] := by
      cases ms with
      | nil => rfl
      | cons x r => cases z
    subst e
    exact q H a (Same.refl _) (by rw [List.append_nil]; exact ha)
  · exact q _ p (same_upd np) (by rw [upd_same, List.map_append])
section
variable {P : Program} {w : World} {K : PySem.W.Frag} {mg : Str → Option Value} {base : Heap}
def spChg (C : Addr) : Sp := fun vs H Q E => ∃ (a b : Addr) (ns : List Int) (c : Chg), vs = [.ref a, .ref b] ∧ Sq H a (ns.map V.int) ∧ Sq H b c.xs ∧ ns.length ≤ 60 ∧ 1 ≤ c.place ∧
  (c.fits ns → ∀ (H' : Hp) (p : Addr), Same H H' → H' p = some (.tup ((c.out ns).map V.int)) → Q (.ref p) H') ∧
  (¬ c.fits ns → ∀ (H' : Hp) (d : Addr), Same H H' → H d = none → H' d = some (.xd [(("place" : Str), .int c.place)]) → E (.ref C) (some d) H')
theorem ok_chg {f fT C fI : Addr} {fd fdT : FuncData} (F : Fun K "changed" "changed" sChg f fd) (FT : Fun K "tuple_of" "tuple_of" sTof fT fdT) (gT : mg "tuple_of" = some (.ref fT)) (bT : Binds K fdT ["thing"] [])
    (N : PySem.NpX.NpTxt K mg C fI) (T : Tx mg) : FnOk P w K mg base (L2.CX P w) 3 f fd ["text", "change"] (spChg C) := by
  have GT : FnOk P w K mg base CX0 2 fT fdT ["thing"] spTof := ok_tof FT T gT bT
  refine F.okX scChg (fun vs H Q E h => ?_) (fun cdv A outer s H vs Q E hr h => ?_)
  · obtain ⟨a, b, ns, c, rfl, _⟩ := h
    rfl
  · obtain ⟨a, b, ns, c, rfl, ha, hb, hl, h1, q, e⟩ := h
    refine ⟨_, pss_cons (ps_asg (pe_tup (pa_cons (pe_call GT hr (by rfl) gT FT.kp bT .nil pass0 (pa_cons (pv 0) pa_nil)) (pa_cons (pe_call GT hr (by rfl) gT FT.kp bT .nil pass0 (pa_cons (pv 1) pa_nil)) pa_nil)))
        (pg_tup rfl (pgs_cons (pg_name (i := 2) scChg.nd rfl (Or.inl rfl)) (pgs_cons (pg_star (i := 2) (n := 3) rfl (pgs_cons (pg_name (i := 3) scChg.nd rfl (Or.inl rfl)) (pgs_cons (pg_name (i := 4) scChg.nd rfl (Or.inl rfl)) (pgs_star (pg_name (i := 5) scChg.nd rfl (Or.inl rfl)) pgs_nil))) (by decide)) pgs_nil))))
      (pss_cons (ps_set (i := 6) scChg.nd rfl (Or.inl rfl) (pe_ifExp (pt_cmpR op_eq (pv 3) pe_str (nomark _)) (pe_op op_add (pe_len T.len (pv 2)) pe_int) (pe_len T.len (pv 2))))
      (pss_cons (ps_if (pt_not (pt_chain op_le op_le pe_int (pv 4) (pv 6))) (pss_one (ps_raiseNp rfl N hr (takes_of rfl rfl rfl rfl) (pa_cons (pv 4) pa_nil))) pss_nil)
      (pss_one (ps_ret (pe_op op_catA (pe_op op_catA (pe_slice sl_tupA (pv 2) po_none (po_some (pe_op op_sub (pv 4) pe_int))) (pe_callTy call_tuple_of (by rfl) T.tuple boot_tuple' (pa_cons (pv 5) pa_nil)))
        (pe_ifExp (pt_cmpR op_eq (pv 3) pe_str (nomark _)) (pe_slice sl_tupA (pv 2) (po_some (pe_op op_sub (pv 4) pe_int)) po_none) (pe_slice sl_tupA (pv 2) (po_some (pv 4)) po_none))))))), ?_⟩
    have e1 : ((ns.map V.int).length : Int) = ns.length := by rw [List.length_map]
    refine ⟨_, rfl, a, _, rfl, ha, flat_ints ns, by rw [List.length_map]; omega, fun H1 o s1 no eo => ?_⟩
    refine ⟨_, rfl, b, _, rfl, hb.same s1, ?_, ?_, fun H2 t s2 nt et => ⟨two_line, fun u nu => ?_⟩⟩
    · cases c <;> (intro x hx; simp only [Chg.xs, List.mem_cons, List.not_mem_nil, or_false] at hx; rcases hx with rfl | rfl | rfl <;> first | exact .inl ⟨_, rfl⟩ | exact .inr ⟨_, rfl⟩)
    · cases c <;> simp [Chg.xs]
    have s3 : Same H2 (upd H2 u (.tup [.ref o, .ref t])) := same_upd nu
    have eo3 := s3 _ _ (s2 _ _ eo)
    have et3 := s3 _ _ et
    refine ⟨u, _, rfl, SqT.of upd_same, rfl, _, _, rfl, _, _, rfl, ?_⟩
    cases c with
    | put p l =>
      have h1 : 1 ≤ p := h1
      refine ⟨t, _, rfl, SqT.of et3, by show 3 ≤ 3 + 1; decide, by show 3 ≤ 16384; decide, fun D nD => ?_⟩
      have s4 : Same (upd H2 u (.tup [.ref o, .ref t])) (upd (upd H2 u (.tup [.ref o, .ref t])) D (.lst [.int l])) := same_upd nD
      have sA := s1.trans (s2.trans (s3.trans s4))
      have eo4 := s4 _ _ eo3
      refine ⟨_, _, rfl, _, _, rfl, _, _, rfl, rfl, rfl, ?_⟩
      refine ⟨_, rfl, rfl, true, by rfl, iteT ?_⟩
      refine ⟨_, rfl, o, _, rfl, .inr (SqT.of eo4), _, 1, rfl, rfl, ?_⟩
      refine ⟨_, rfl, 1, p, rfl, rfl, true, blT h1, iteT ?_⟩
      refine ⟨_, rfl, p, _, rfl, rfl, _, rfl, ?_⟩
      by_cases hf : p ≤ (ns.length : Int) + 1
      · rw [decide_eq_true (show p ≤ (((ns.map V.int).length : Int) + 1) by rw [e1]; exact hf)]
        refine iteF ?_
        refine ⟨_, rfl, _, rfl, p, 1, rfl, rfl, _, rfl, slA eo4 fun H5 x s5 ex => ?_⟩
        rw [cut_to ns (p - 1) (by omega) (by omega)] at ex
        refine ⟨_, rfl, D, _, rfl, .inl ⟨SqL.of (s5 _ _ upd_same), fun y ny => ?_⟩⟩
        have s6 := same_upd (o := .tup [.int l]) ny
        refine catA (ms := [l]) (s6 _ _ ex) upd_same (by rw [List.length_take]; show _ + 1 ≤ 1000; omega) fun H7 z s7 ez => ?_
        refine ⟨_, rfl, rfl, true, by rfl, iteT ?_⟩
        refine ⟨_, rfl, _, rfl, p, 1, rfl, rfl, _, rfl, ?_⟩
        dsimp only [tNoPart]
        refine slA (s7 _ _ (s6 _ _ (s5 _ _ eo4))) fun H8 v s8 ev => ?_
        rw [cut_from ns (p - 1) (by omega) (by omega)] at ev
        refine catA (s8 _ _ ez) ev (by rw [List.length_append, List.length_take, List.length_drop]; show _ + 1 + _ ≤ 1000; omega) fun H9 r s9 er => ?_
        exact q hf H9 r (sA.trans (s5.trans (s6.trans (s7.trans (s8.trans s9))))) er
      · rw [decide_eq_false (show ¬ p ≤ (((ns.map V.int).length : Int) + 1) by rw [e1]; exact hf)]
        refine iteT ?_
        exact ⟨_, rfl, _, rfl, fun d nd => e hf _ d (sA.trans (same_upd nd)) (sA.free nd) upd_same⟩
    | drop p =>
      have h1 : 1 ≤ p := h1
      refine ⟨t, _, rfl, SqT.of et3, by show 3 ≤ 2 + 1; decide, by show 2 ≤ 16384; decide, fun D nD => ?_⟩
      have s4 : Same (upd H2 u (.tup [.ref o, .ref t])) (upd (upd H2 u (.tup [.ref o, .ref t])) D (.lst [])) := same_upd nD
      have sA := s1.trans (s2.trans (s3.trans s4))
      have eo4 := s4 _ _ eo3
      refine ⟨_, _, rfl, _, _, rfl, _, _, rfl, rfl, rfl, ?_⟩
      refine ⟨_, rfl, rfl, false, by rfl, iteF ?_⟩
      refine ⟨_, rfl, o, _, rfl, .inr (SqT.of eo4), ?_⟩
      refine ⟨_, rfl, 1, p, rfl, rfl, true, blT h1, iteT ?_⟩
      refine ⟨_, rfl, p, _, rfl, rfl, _, rfl, ?_⟩
      by_cases hf : p ≤ (ns.length : Int)
      · rw [decide_eq_true (show p ≤ ((ns.map V.int).length : Int) by rw [e1]; exact hf)]
        refine iteF ?_
        refine ⟨_, rfl, _, rfl, p, 1, rfl, rfl, _, rfl, slA eo4 fun H5 x s5 ex => ?_⟩
        rw [cut_to ns (p - 1) (by omega) (by omega)] at ex
        refine ⟨_, rfl, D, _, rfl, .inl ⟨SqL.of (s5 _ _ upd_same), fun y ny => ?_⟩⟩
        have s6 := same_upd (o := .tup []) ny
        refine catA (ms := []) (s6 _ _ ex) upd_same (by rw [List.length_take]; show _ + 0 ≤ 1000; omega) fun H7 z s7 ez => ?_
        refine ⟨_, rfl, rfl, false, by rfl, iteF ?_⟩
        refine ⟨_, rfl, _, rfl, p, rfl, ?_⟩
        dsimp only [tNoPart]
        refine slA (s7 _ _ (s6 _ _ (s5 _ _ eo4))) fun H8 v s8 ev => ?_
        rw [cut_from ns p (by omega) (by omega)] at ev
        refine catA (s8 _ _ ez) ev (by rw [List.length_append, List.length_take, List.length_drop]; show _ + 0 + _ ≤ 1000; omega) fun H9 r s9 er => ?_
        exact q hf H9 r (sA.trans (s5.trans (s6.trans (s7.trans (s8.trans s9))))) er
      · rw [decide_eq_false (show ¬ p ≤ ((ns.map V.int).length : Int) by rw [e1]; exact hf)]
        refine iteT ?_
        exact ⟨_, rfl, _, rfl, fun d nd => e hf _ d (sA.trans (same_upd nd)) (sA.free nd) upd_same⟩
    | turn p l =>
      have h1 : 1 ≤ p := h1
      refine ⟨t, _, rfl, SqT.of et3, by show 3 ≤ 3 + 1; decide, by show 3 ≤ 16384; decide, fun D nD => ?_⟩
      have s4 : Same (upd H2 u (.tup [.ref o, .ref t])) (upd (upd H2 u (.tup [.ref o, .ref t])) D (.lst [.int l])) := same_upd nD
      have sA := s1.trans (s2.trans (s3.trans s4))
      have eo4 := s4 _ _ eo3
      refine ⟨_, _, rfl, _, _, rfl, _, _, rfl, rfl, rfl, ?_⟩
      refine ⟨_, rfl, rfl, false, by rfl, iteF ?_⟩
      refine ⟨_, rfl, o, _, rfl, .inr (SqT.of eo4), ?_⟩
      refine ⟨_, rfl, 1, p, rfl, rfl, true, blT h1, iteT ?_⟩
      refine ⟨_, rfl, p, _, rfl, rfl, _, rfl, ?_⟩
      by_cases hf : p ≤ (ns.length : Int)
      · rw [decide_eq_true (show p ≤ ((ns.map V.int).length : Int) by rw [e1]; exact hf)]
        refine iteF ?_
        refine ⟨_, rfl, _, rfl, p, 1, rfl, rfl, _, rfl, slA eo4 fun H5 x s5 ex => ?_⟩
        rw [cut_to ns (p - 1) (by omega) (by omega)] at ex
        refine ⟨_, rfl, D, _, rfl, .inl ⟨SqL.of (s5 _ _ upd_same), fun y ny => ?_⟩⟩
        have s6 := same_upd (o := .tup [.int l]) ny
        refine catA (ms := [l]) (s6 _ _ ex) upd_same (by rw [List.length_take]; show _ + 1 ≤ 1000; omega) fun H7 z s7 ez => ?_
        refine ⟨_, rfl, rfl, false, by rfl, iteF ?_⟩
        refine ⟨_, rfl, _, rfl, p, rfl, ?_⟩
        dsimp only [tNoPart]
        refine slA (s7 _ _ (s6 _ _ (s5 _ _ eo4))) fun H8 v s8 ev => ?_
        rw [cut_from ns p (by omega) (by omega)] at ev
        refine catA (s8 _ _ ez) ev (by rw [List.length_append, List.length_take, List.length_drop]; show _ + 1 + _ ≤ 1000; omega) fun H9 r s9 er => ?_
        exact q hf H9 r (sA.trans (s5.trans (s6.trans (s7.trans (s8.trans s9))))) er
      · rw [decide_eq_false (show ¬ p ≤ ((ns.map V.int).length : Int) by rw [e1]; exact hf)]
        refine iteT ?_
        exact ⟨_, rfl, _, rfl, fun d nd => e hf _ d (sA.trans (same_upd nd)) (sA.free nd) upd_same⟩
end
end NS

namespace NS
open PySem PySem.Spec PyProof.Rows L2
/-- all but what stands at u is as it was -/
def But (u : Addr) (H H' : Hp) : Prop := ∀ b o, b ≠ u → H b = some o → H' b = some o
theorem But.of {u : Addr} {H H' : Hp} (s : Same H H') : But u H H' := fun b o _ e => s b o e
theorem But.trans {u : Addr} {H H1 H2 : Hp} (a : But u H H1) (b : But u H1 H2) : But u H H2 := fun c o n e => b c o n (a c o n e)
theorem But.tup {u c : Addr} {H H' : Hp} {xs ys : List V} (b : But u H H') (hu : H u = some (.lst xs)) (hc : H c = some (.tup ys)) : H' c = some (.tup ys) :=
  b c _ (ne_of hc hu (fun z => by cases z)) hc
/-- the urn: three ints, the last one the count -/
def Urn (H : Hp) (u : Addr) (k : Nat) : Prop := ∃ a b c : Int, H u = some (.lst [.int a, .int b, .int c]) ∧ 0 ≤ c ∧ c ≤ k
theorem Urn.same {H H' : Hp} {u : Addr} {k : Nat} (h : Urn H u k) (s : Same H H') : Urn H' u k := by
  obtain ⟨a, b, c, e, h1, h2⟩ := h
  exact ⟨a, b, c, s _ _ e, h1, h2⟩
theorem Urn.mono {H : Hp} {u : Addr} {j k : Nat} (h : Urn H u j) (l : j ≤ k) : Urn H u k := by
  obtain ⟨a, b, c, e, h1, h2⟩ := h
  exact ⟨a, b, c, e, h1, by omega⟩
theorem Urn.tup {H H' : Hp} {u c : Addr} {k : Nat} {ys : List V} (h : Urn H u k) (b : But u H H') (hc : H c = some (.tup ys)) : H' c = some (.tup ys) := by
  obtain ⟨_, _, _, e, _⟩ := h
  exact b.tup e hc
theorem Urn.ne {H : Hp} {u c : Addr} {k : Nat} (h : Urn H u k) (hc : H c = none) : c ≠ u := fun z => by
  obtain ⟨_, _, _, e, _⟩ := h
  rw [z, e] at hc
  cases hc
section
variable {X : Cx}
/-- l[k], l a list, k written -/
theorem pe_atL {e : Expr} {te : TE} {k : Int} {j : Nat} {p pos : Pos} (he : PE X e te) : PE X (.Subscript e (.Constant (.int k) j p) pos) (tOp (rIxL X.K) te (tC (.int k))) := pe_ix ix_list he pe_int (fun _ _ => rfl)
def rInt1 : List V → Hp → VK → Prop := fun xs H Q => (∃ i, xs = [V.int i] ∧ Q (.int i) H) ∨ ∃ k : Bool, xs = [V.bl k] ∧ Q (.int (if k then 1 else 0)) H
/-- int(e) -/
theorem pe_toInt {e : Expr} {te : TE} {p pos : Pos} (hm : X.mg "int" = none) (he : PE X e te) (hg : Gl X "int" := by rfl)
    (h2 : starEach [e] X.env = (false, eval e X.env) :: starEach [] X.env := by rfl) : PE X (.Call (.Name "int" p) [e] [] pos) (tCB rInt1 (tCons te tNil)) :=
  pe_callTy call_int1 hg hm boot_int' (pa_cons he pa_nil h2) (by decide) (by decide) h2 rfl
end
section
variable {P : Program} {w : World} {K : PySem.W.Frag} {mg : Str → Option Value} {base : Heap}
def spTake : Sp := fun vs H Q _ => ∃ (u : Addr) (k : Nat) (low : Int), vs = [.ref u, .int low] ∧ Urn H u k ∧ k ≤ 100000 ∧ 0 < low ∧ low ≤ 1000 ∧ ∀ (H' : Hp) (v : Int), But u H H' → Urn H' u (k + 1) → 0 ≤ v → v < low → Q (.int v) H'
theorem ok_take {f : Addr} {fd : FuncData} (F : Fun K "_law_take" "_law_take" sTake f fd) (T : Tx mg) : FnOk P w K mg base CX0 1 f fd ["_law_urn", "_law_low_so"] spTake := by
  refine F.ok scTake (fun vs H Q E h => ?_) (fun cdv A outer s H vs Q E hr h => ?_)
  · obtain ⟨u, k, low, rfl, _⟩ := h
    rfl
  · obtain ⟨u, k, low, rfl, ⟨a, b, c, hu, c0, c1⟩, hk, l0, l1, q⟩ := h
    refine ⟨_, pss_cons (ps_if (pt_cmpR op_gt (pe_atL (pv 0)) pe_int (nomark _))
        (pss_cons (ps_set (i := 2) scTake.nd rfl (Or.inl rfl) (pe_op op_mod (pe_toInt T.int (pe_atL (pv 0))) (pv 1)))
        (pss_cons (ps_asg (pe_op op_fdiv (pe_atL (pv 0)) (pv 1)) (pg_sub (pv 0) pe_int set_list))
        (pss_one (ps_ret (pv 2))))) pss_nil)
      (pss_cons (ps_asg (pe_op op_add (pe_atL (pv 0)) pe_int) (pg_sub (pv 0) pe_int set_list))
      (pss_cons (ps_set (i := 3) scTake.nd rfl (Or.inl rfl) (pe_op op_mod (pe_toInt T.int (pe_op op_mul (pe_op op_add (pe_atL (pv 0)) (pe_op op_mul pe_int (pe_atL (pv 0)))) (pe_op op_add pe_int (pe_atL (pv 0))))) pe_int))
      (pss_cons (ps_set (i := 4) scTake.nd rfl (Or.inl rfl) (pe_op op_add (pe_op op_mod (pe_toInt T.int (pv 3)) pe_int) pe_int))
      (pss_cons (ps_set (i := 5) scTake.nd rfl (Or.inl rfl) (pe_op op_mod (pe_toInt T.int (pe_op op_mul (pe_op op_add (pe_op op_add (pv 3) (pe_atL (pv 0))) (pe_op op_fdiv (pe_atL (pv 0)) pe_int)) (pv 4))) pe_int))
      (pss_one (ps_ret (pe_op op_mod (pe_toInt T.int (pe_op op_fdiv (pe_op op_mod (pe_toInt T.int (pe_op op_add (pe_op op_mul (pv 5) pe_int) (pv 3))) pe_int) pe_int)) (pv 1)))))))), ?_⟩
    refine ⟨_, rfl, u, _, 0, .int a, rfl, rfl, SqL.of hu, rfl, a, 0, rfl, rfl, _, rfl, ite2 (fun _ => ?_) (fun _ => ?_)⟩
    · refine ⟨_, rfl, u, _, 0, .int a, rfl, rfl, SqL.of hu, rfl, .inl ⟨a, rfl, _, rfl, a, low, rfl, rfl, l0, ?_⟩⟩
      refine ⟨_, rfl, u, _, 0, .int a, rfl, rfl, SqL.of hu, rfl, _, rfl, a, low, rfl, rfl, ⟨l0, by omega⟩, _, rfl, u, _, 0, 0, rfl, rfl, hu, rfl, ?_⟩
      refine ⟨_, rfl, q _ (a % low) (fun d o n e => by rw [upd_ne n]; exact e) ⟨a / low, b, c, upd_same, c0, by omega⟩ (Int.emod_nonneg _ (by omega)) (Int.emod_lt_of_pos _ l0)⟩
    · refine ⟨_, rfl, u, _, 2, .int c, rfl, rfl, SqL.of hu, rfl, c, 1, rfl, rfl, _, rfl, u, _, 2, 2, rfl, rfl, hu, rfl, ?_⟩
      have hu1 : upd H u (.lst [.int a, .int b, .int (c + 1)]) u = some (.lst [.int a, .int b, .int (c + 1)]) := upd_same
      show tSeq _ _ _ _ (upd H u (.lst [.int a, .int b, .int (c + 1)]))
      refine ⟨_, rfl, u, _, 1, .int b, rfl, rfl, SqL.of hu1, rfl, _, rfl, u, _, 2, .int (c + 1), rfl, rfl, SqL.of hu1, rfl, 48271, c + 1, rfl, rfl, .inl ⟨by decide, by decide⟩, b, _, rfl, rfl, ?_⟩
      refine ⟨_, rfl, u, _, 2, .int (c + 1), rfl, rfl, SqL.of hu1, rfl, 39373, c + 1, rfl, rfl, _, _, rfl, rfl, .inr ⟨by omega, by omega⟩, .inl ⟨_, rfl, _, 2147483647, rfl, rfl, (by decide : (0 : Int) < 2147483647), ?_⟩⟩
      -- once
      obtain ⟨once, eo⟩ : ∃ o : Int, o = (b + 48271 * (c + 1)) * (39373 + (c + 1)) % 2147483647 := ⟨_, rfl⟩
      show tSeq _ _ _ [some (.ref u), some (.int low), none, some (.int ((b + 48271 * (c + 1)) * (39373 + (c + 1)) % 2147483647)), none, none] _
      rw [← eo]
      refine ⟨_, rfl, .inl ⟨once, rfl, _, 40009, rfl, rfl, (by decide : (0 : Int) < 40009), _, 7, rfl, rfl, ?_⟩⟩
      obtain ⟨far, ef, f0, f1⟩ : ∃ o : Int, o = once % 40009 + 7 ∧ 0 ≤ o ∧ o < 50000 := ⟨_, rfl, by omega, by omega⟩
      show tSeq _ _ _ [some (.ref u), some (.int low), none, some (.int once), some (.int (once % 40009 + 7)), none] _
      rw [← ef]
      refine ⟨_, rfl, _, rfl, u, _, 2, .int (c + 1), rfl, rfl, SqL.of hu1, rfl, once, c + 1, rfl, rfl, _, rfl, u, _, 1, .int b, rfl, rfl, SqL.of hu1, rfl, b, 1000003, rfl, rfl, ⟨(by decide : (0 : Int) < 1000003), (by decide : (1000003 : Int) < 1073741824)⟩, _, _, rfl, rfl, ?_⟩
      refine ⟨_, rfl, _, far, rfl, rfl, .inr ⟨by omega, by omega⟩, .inl ⟨_, rfl, _, 2147483629, rfl, rfl, (by decide : (0 : Int) < 2147483629), ?_⟩⟩
      refine ⟨_, rfl, _, 48271, rfl, rfl, .inr ⟨by decide, by decide⟩, _, rfl, _, once, rfl, rfl, .inl ⟨_, rfl, _, 2147483587, rfl, rfl, (by decide : (0 : Int) < 2147483587), ?_⟩⟩
      refine ⟨_, 64, rfl, rfl, ⟨(by decide : (0 : Int) < 64), (by decide : (64 : Int) < 1073741824)⟩, .inl ⟨_, rfl, _, rfl, _, low, rfl, rfl, l0, ?_⟩⟩
      exact q _ _ (fun d o n e => by rw [upd_ne n]; exact e) ⟨a, b, c + 1, upd_same, by omega, by omega⟩ (Int.emod_nonneg _ (by omega)) (Int.emod_lt_of_pos _ l0)
end
end NS

namespace NS
open PySem PySem.Spec PyProof.Rows L2
section
variable {X : Cx}
/-- abs(e) -/
theorem pe_abs {e : Expr} {te : TE} {p pos : Pos} (hm : X.mg "abs" = none) (he : PE X e te) (hg : Gl X "abs" := by rfl)
    (h2 : starEach [e] X.env = (false, eval e X.env) :: starEach [] X.env := by rfl) : PE X (.Call (.Name "abs" p) [e] [] pos) (tCB (fun xs H Q => ∃ i, xs = [V.int i] ∧ Q (.int (if i < 0 then -i else i)) H) (tCons te tNil)) :=
  pe_callB call_abs hg hm boot_abs' (pa_cons he pa_nil h2) (by decide) (by decide) h2 rfl
end
section
variable {P : Program} {w : World} {K : PySem.W.Frag} {mg : Str → Option Value} {base : Heap}
theorem b01 (k : Bool) : -(2 ^ 64) < (if k = true then (1 : Int) else 0) ∧ (if k = true then (1 : Int) else 0) < 2 ^ 64 := by cases k <;> decide
/-! ### _law_box -/
def spBox : Sp := fun vs H Q _ => ∃ (a : Addr) (c : Int), vs = [.ref a, .int 0] ∧ H a = some (.lst [.int c]) ∧ ∀ (H' : Hp) (u : Addr), Same H H' → H u = none → Urn H' u 0 → Q (.ref u) H'
theorem ok_box {f : Addr} {fd : FuncData} (F : Fun K "_law_box" "_law_box" sBox f fd) (T : Tx mg) : FnOk P w K mg base CX0 1 f fd ["_law_script", "_law_k"] spBox := by
  refine F.ok scBox (fun vs H Q E h => ?_) (fun cdv A outer s H vs Q E hr h => ?_)
  · obtain ⟨a, c, rfl, _⟩ := h
    rfl
  · obtain ⟨a, c, rfl, ha, q⟩ := h
    refine ⟨_, pss_cons (ps_set (i := 2) scBox.nd rfl (Or.inl rfl) (pe_ifExp (pt_cmpR op_lt (pv 1) (pe_len T.len (pv 0)) (nomark _)) (pe_ix ix_list (pv 0) (pv 1) (fun _ _ => rfl)) pe_int))
      (pss_one (ps_ret (pe_lst (pa_cons (pe_op op_mul (pe_abs T.abs (pv 2)) (pe_toInt T.int (pe_cmpR op_ge (pe_abs T.abs (pv 2)) (pe_op op_pow pe_int pe_int) (nomark _))))
        (pa_cons (pe_op op_add (pe_op op_add (pe_op op_mod (pe_toInt T.int (pv 2)) pe_int) (pe_op op_mul pe_int (pv 1))) pe_int) (pa_cons pe_int pa_nil)))))), ?_⟩
    refine ⟨_, rfl, _, rfl, a, _, rfl, .inl (SqL.of ha), 0, 1, rfl, rfl, true, blT (by decide), iteT ?_⟩
    refine ⟨_, rfl, _, rfl, a, _, 0, .int c, rfl, rfl, SqL.of ha, rfl, ?_⟩
    refine ⟨_, rfl, c, rfl, _, rfl, c, rfl, 10, 18, rfl, rfl, ⟨by decide, by decide, by decide⟩, _, _, rfl, rfl, .inr ⟨_, rfl, _, _, rfl, rfl, .inr (b01 _), ?_⟩⟩
    · refine ⟨_, rfl, .inl ⟨c, rfl, _, 2305843009213693951, rfl, rfl, (by decide : (0 : Int) < 2305843009213693951), _, rfl, 39373, 0, rfl, rfl, .inl ⟨by decide, by decide⟩, _, _, rfl, rfl, _, 3185002, rfl, rfl, ?_⟩⟩
      refine ⟨Nat.le_of_lt (few (n := 3) (k := 3) (by decide)), fun p np => ?_⟩
      exact q _ p (same_upd np) np ⟨_, _, 0, upd_same, by decide, by decide⟩
/-! ### _law_cells -/
def rListOf (K : PySem.W.Frag) : List V → Hp → VK → Prop := fun xs H Q => ∃ p ys, xs = [V.ref p] ∧ (SqL K H p ys ∨ SqT K H p ys) ∧ ∀ l, H l = none → Q (.ref l) (upd H l (.lst ys))
/-- list(script[:1]) or [0]: one int -/
theorem one_or {K : PySem.W.Frag} {σ : L2.St} {H : Hp} {a : Addr} {ns : List Int} {Q : VK} (h0 : σ[0]? = some (some (.ref a))) (h1 : σ[1]? = some (some (.int 1))) (ha : SqL K H a (ns.map V.int))
    (q : ∀ (H1 : Hp) (p : Addr) (c : Int), Same H H1 → H p = none → H1 p = some (.lst [.int c]) → Q (.ref p) H1) :
    tOrT K (tCB (rListOf K) (tCons (tSl (rSlL K) (tVar 0) tNoPart (tPart (tVar 1))) tNil)) (tLst (tCons (tC (.int 0)) tNil)) σ H Q := by
  refine ⟨_, h0, _, h1, 1, rfl, a, _, rfl, ha, fun p np => ⟨p, _, rfl, .inl (SqL.of upd_same), fun l nl => ?_⟩⟩
  have s1 := same_upd (o := .lst (cutV (ns.map V.int) none (some 1))) np
  have s2 := s1.trans (same_upd (o := .lst (cutV (ns.map V.int) none (some 1))) nl)
  cases ns with
  | nil =>
    refine ⟨false, .inl ⟨_, SqL.of upd_same, rfl⟩, iteF ⟨Nat.le_of_lt (few (n := 1) (k := 1) (by decide)), fun p0 n0 => ?_⟩⟩
    exact q _ p0 0 (s2.trans (same_upd n0)) (s2.free n0) upd_same
  | cons n r =>
    have e : cutV ((n :: r).map V.int) none (some 1) = [.int n] := by
      rw [cutV_is, cut_to _ 1 (by decide) (by rw [List.length_map, List.length_cons]; omega)]
      rfl
    rw [e] at *
    exact ⟨true, .inl ⟨_, SqL.of upd_same, rfl⟩, iteT (q _ l n s2 (s1.free nl) upd_same)⟩
def spCells (K : PySem.W.Frag) : Sp := fun vs H Q _ => ∃ (a : Addr) (ns : List Int), vs = [.ref a, .int 1] ∧ SqL K H a (ns.map V.int) ∧ ns.length ≤ 63 ∧ ∀ (H' : Hp) (p : Addr) (c : Int), Same H H' → H' p = some (.lst [.int c]) → Q (.ref p) H'
theorem ok_cells {f : Addr} {fd : FuncData} (F : Fun K "_law_cells" "_law_cells" sCells f fd) (T : Tx mg) : FnOk P w K mg base CX0 1 f fd ["_law_script", "_law_top"] (spCells K) := by
  refine F.ok scCells (fun vs H Q E h => ?_) (fun cdv A outer s H vs Q E hr h => ?_)
  · obtain ⟨a, ns, rfl, _⟩ := h
    rfl
  · obtain ⟨a, ns, rfl, ha, hl, q⟩ := h
    refine ⟨_, pss_cons (ps_set (i := 2) scCells.nd rfl (Or.inl rfl) (pe_orT (pe_callTy call_list_of (by rfl) T.list boot_list' (pa_cons (pe_slice sl_list (pv 0) po_none (po_some (pv 1))) pa_nil)) (pe_one (pe_lst (pa_cons pe_int pa_nil)))))
      (pss_cons (ps_for PassesOwn.never rfl (pi_enum (by rfl) T.enum (pa_cons (pe_slice sl_list (pv 0) (po_some (pv 1)) (po_some pe_int)) pa_nil))
          (pg_tup rfl (pgs_cons (pg_name (i := 3) scCells.nd rfl (Or.inl rfl)) (pgs_cons (pg_name (i := 4) scCells.nd rfl (Or.inl rfl)) pgs_nil)))
        (pss_cons (ps_set (i := 5) scCells.nd rfl (Or.inl rfl) (pe_op op_mod (pe_toInt T.int (pv 3)) (pv 1)))
        (pss_one (ps_asg (pe_op op_add (pe_ix ix_list (pv 2) (pv 5) (fun _ _ => rfl)) (pe_op op_mul (pv 4) (pe_op op_add (pv 3) pe_int))) (pg_sub (pv 2) (pv 5) set_list)))))
      (pss_one (ps_ret (pv 2)))), ?_⟩
    refine one_or rfl rfl ha fun H1 p c s1 np ep => ?_
    refine ⟨_, rfl, _, rfl, 1, rfl, 63, rfl, a, _, rfl, s1.seq ha, fun z nz => ?_⟩
    have s2 := same_upd (o := .lst (cutV (ns.map V.int) (some 1) (some 63))) nz
    have ez : upd H1 z (.lst (cutV (ns.map V.int) (some 1) (some 63))) z = some (.lst ((cutG ns (some 1) (some 63)).map V.int)) := by rw [upd_same, cutV_is, cut_map]
    have hz : (cutG ns (some 1) (some 63)).length ≤ 63 := Nat.le_trans (cutG_len _ _ _) hl
    have npz : z ≠ p := fun e => by rw [e, ep] at nz; cases nz
    refine ⟨z, _, rfl, SqL.of ez, for_it walk_enum (fun i σ H' => (∃ y1 y2 y3, σ = [some (.ref a), some (.int 1), some (.ref p), y1, y2, y3]) ∧ Same H H' ∧ H' z = some (.lst ((cutG ns (some 1) (some 63)).map V.int)) ∧ ∃ c, H' p = some (.lst [.int c]))
      ⟨⟨none, none, none, rfl⟩, s1.trans s2, ez, c, s2 _ _ ep⟩ (fun i σ H' _ g => SqL.of g.2.2.1) (fun i x σ H' H2 hi g y => ?_) (fun σ H' g => ?_)⟩
    · obtain ⟨⟨y1, y2, y3, rfl⟩, sm, e1, c1, e2⟩ := g
      obtain ⟨T0, x1, x2, rfl, nT, rfl, g1, g2⟩ := y
      cases g1
      obtain ⟨n, en, rfl⟩ := map_get g2
      have sT := same_upd (o := .tup [.int (i : Int), .int n]) nT
      have e2' := sT _ _ e2
      rw [List.length_map] at hi
      refine ⟨T0, _, rfl, SqT.of upd_same, rfl, _, _, rfl, _, _, rfl, rfl, ?_⟩
      refine ⟨_, rfl, .inl ⟨_, rfl, _, rfl, (i : Int), 1, rfl, rfl, (by decide : (0 : Int) < 1), ?_⟩⟩
      have e0 : (i : Int) % 1 = 0 := by omega
      refine ⟨_, rfl, _, rfl, p, _, (i : Int) % 1, .int c1, rfl, rfl, SqL.of e2', by rw [e0]; rfl, _, rfl, _, rfl, (i : Int), 2, rfl, rfl, n, _, rfl, rfl, .inr ⟨by omega, by omega⟩, c1, _, rfl, rfl, ?_⟩
      refine ⟨_, rfl, _, rfl, p, _, (i : Int) % 1, 0, rfl, rfl, e2', by rw [e0]; rfl, ?_⟩
      refine ⟨⟨_, _, _, rfl⟩, fun b o e => ?_, ?_, _, upd_same⟩
      · rw [upd_ne (fun h => by rw [h, np] at e; cases e)]
        exact sT _ _ (sm _ _ e)
      · rw [upd_ne npz]
        exact sT _ _ e1
    · obtain ⟨⟨y1, y2, y3, rfl⟩, sm, e1, c1, e2⟩ := g
      exact ⟨_, rfl, q H' p c1 sm e2⟩
end
end NS

namespace NS
open PySem PySem.Spec PyProof.Rows L2
theorem But.upd {u d : Addr} {H H' : Hp} {o : HO} (b : But u H H') (n : H d = none) : But u H (upd H' d o) := fun c x nc e => by
  rw [upd_ne (ne_of_none e n)]
  exact b c x nc e
theorem Urn.upd {u d : Addr} {H : Hp} {k : Nat} {o : HO} (h : Urn H u k) (n : d ≠ u) : Urn (upd H d o) u k := by
  obtain ⟨a, b, c, e, h1, h2⟩ := h
  exact ⟨a, b, c, by rw [upd_ne (Ne.symm n)]; exact e, h1, h2⟩
theorem isTxt_snoc {wd n : Int} {ns : List Int} (h : isTxt wd ns = true) (h1 : 1 ≤ n) (h2 : n ≤ wd) : isTxt wd (ns ++ [n]) = true := by
  unfold isTxt at *
  rw [List.all_append, h, Bool.true_and, List.all_cons, List.all_nil, Bool.and_true]
  exact decide_eq_true ⟨h1, h2⟩
section
variable {P : Program} {w : World} {K : PySem.W.Frag} {mg : Str → Option Value} {base : Heap}
/-! ### _law_of -/
def spOf : Sp := fun vs H Q _ => ∃ (u b : Addr) (k : Nat) (xs : List V), vs = [.ref u, .ref b] ∧ Urn H u k ∧ k ≤ 90000 ∧ H b = some (.lst xs) ∧ b ≠ u ∧ 0 < xs.length ∧ xs.length ≤ 100 ∧
  ∀ (H' : Hp) (i : Nat) (v : V), But u H H' → Urn H' u (k + 1) → xs[i]? = some v → Q v H'
theorem ok_of {f fT : Addr} {fd fdT : FuncData} (F : Fun K "_law_of" "_law_of" sOf f fd) (FT : Fun K "_law_take" "_law_take" sTake fT fdT) (gT : mg "_law_take" = some (.ref fT)) (bT : Binds K fdT ["_law_urn", "_law_low_so"] []) (T : Tx mg) : FnOk P w K mg base CX0 2 f fd ["_law_urn", "_law_goods"] spOf := by
  have GT : FnOk P w K mg base CX0 1 fT fdT ["_law_urn", "_law_low_so"] spTake := ok_take FT T
  refine F.ok scOf (fun vs H Q E h => ?_) (fun cdv A outer s H vs Q E hr h => ?_)
  · obtain ⟨u, b, k, xs, rfl, _⟩ := h
    rfl
  · obtain ⟨u, b, k, xs, rfl, hu, hk, hb, nb, l0, l1, q⟩ := h
    refine ⟨_, pss_one (ps_ret (pe_ix ix_list (pv 1) (pe_call GT hr (by rfl) gT FT.kp bT .nil pass0 (pa_cons (pv 0) (pa_cons (pe_len T.len (pv 1)) pa_nil))) (fun _ _ => rfl))), ?_⟩
    refine ⟨_, rfl, _, rfl, _, rfl, b, _, rfl, .inl (SqL.of hb), u, k, _, rfl, hu, by omega, by omega, by omega, fun H1 v b1 u1 v0 v1 => ?_⟩
    have hv : v.toNat < xs.length := by omega
    have e := List.getElem?_eq_getElem hv
    exact ⟨b, xs, v, _, rfl, rfl, SqL.of (b1 _ _ nb hb), at_of (by omega) e, q H1 _ _ b1 u1 e⟩
/-! ### _law_text -/
def spText : Sp := fun vs H Q _ => ∃ (u : Addr) (k : Nat) (wd m : Int), vs = [.ref u, .int wd, .int m] ∧ Urn H u k ∧ k ≤ 50000 ∧ 1 ≤ wd ∧ wd ≤ 100 ∧ 0 ≤ m ∧ m ≤ 20 ∧
  ∀ (H' : Hp) (p : Addr) (ns : List Int), But u H H' → Urn H' u (k + 30) → H' p = some (.tup (ns.map V.int)) → (ns.length : Int) ≤ m → isTxt wd ns = true → Q (.ref p) H'
theorem ok_text {f fT : Addr} {fd fdT : FuncData} (F : Fun K "_law_text" "_law_text" sText f fd) (FT : Fun K "_law_take" "_law_take" sTake fT fdT) (gT : mg "_law_take" = some (.ref fT)) (bT : Binds K fdT ["_law_urn", "_law_low_so"] []) (T : Tx mg) : FnOk P w K mg base CX0 2 f fd ["_law_urn", "_law_wide", "_law_most"] spText := by
  have GT : FnOk P w K mg base CX0 1 fT fdT ["_law_urn", "_law_low_so"] spTake := ok_take FT T
  refine F.ok scText (fun vs H Q E h => ?_) (fun cdv A outer s H vs Q E hr h => ?_)
  · obtain ⟨u, k, wd, m, rfl, _⟩ := h
    rfl
  · obtain ⟨u, k, wd, m, rfl, hu, hk, w1, w2, m0, m1, q⟩ := h
    refine ⟨_, pss_one (ps_ret (pe_callTy call_tuple_of (by rfl) T.tuple boot_tuple' (pa_cons (pe_lc (own := [("_law_lap", 3)]) (g := gName 3) (tt := tYes) rfl scText.nd
        (pi_range1 (by rfl) T.range (pa_cons (pe_call GT hr (by rfl) gT FT.kp bT .nil pass0 (pa_cons (pv 0) (pa_cons (pe_op op_add (pv 2) pe_int) pa_nil))) pa_nil))
        (blkOk_by (N := ["_law_urn", "_law_wide", "_law_most", "_law_lap"]) (sc := defScope sText) (by decide +kernel)) (fun _ _ _ _ _ => pg_name (i := 3) scText.nd rfl (Or.inl rfl)) (fun _ _ _ _ _ => pts_nil)
        (fun _ _ _ _ _ => pe_op op_add pe_int (pe_call GT hr (by rfl) gT FT.kp bT .nil pass0 (pa_cons (pv 0) (pa_cons (pv 1) pa_nil))))) pa_nil))), ?_⟩
    refine ⟨_, rfl, _, rfl, m, 1, rfl, rfl, u, k, m + 1, rfl, hu, by omega, by omega, by omega, fun H1 j b1 u1 j0 j1 => ?_⟩
    refine ⟨j, rfl, by omega, by omega, fun D nD => ?_⟩
    have nDu := u1.ne nD
    have nDH : H D = none := by
      cases e : H D with
      | none => rfl
      | some o =>
        rw [b1 D o nDu e] at nD
        cases nD
    refine lc_range (lo := 0) (n := j.toNat) (fun i H' => But u H H' ∧ Urn H' u (k + 1 + i) ∧ ∃ ns : List Int, H' D = some (.lst (ns.map V.int)) ∧ ns.length = i ∧ isTxt wd ns = true) ⟨b1.upd nDH, u1.upd nDu, [], upd_same, rfl, rfl⟩ (fun i H' hi z => ?_) (fun H' z => ?_)
    · obtain ⟨b2, u2, ns, eD, hl, ht⟩ := z
      refine ⟨rfl, _, rfl, _, rfl, u, _, wd, rfl, u2, by omega, by omega, by omega, fun H3 v b3 u3 v0 v1 => ⟨1, v, rfl, rfl, _, b3 _ _ nDu eD, few (k := 100) ?_, (b2.trans b3).upd nDH, (u3.upd nDu).mono (by omega), ns ++ [1 + v], ?_, ?_, isTxt_snoc ht (by omega) (by omega)⟩⟩
      · rw [List.length_map]; omega
      · rw [upd_same, List.map_append]; rfl
      · rw [List.length_append, hl]; rfl
    · obtain ⟨b2, u2, ns, eD, hl, ht⟩ := z
      refine ⟨D, _, rfl, .inl ⟨SqL.of eD, fun p np => ?_⟩⟩
      have npu := u2.ne np
      have npH : H p = none := by
        cases e : H p with
        | none => rfl
        | some o =>
          rw [b2 p o npu e] at np
          cases np
      exact q _ p ns (b2.upd npH) ((u2.upd npu).mono (by omega)) upd_same (by omega) ht
/-! ### _law_letters -/
def spLetters : Sp := fun vs H Q _ => ∃ (u : Addr) (k : Nat) (wd : Int), vs = [.ref u, .int wd] ∧ Urn H u k ∧ k ≤ 50000 ∧ 1 ≤ wd ∧ wd ≤ 3 ∧
  ∀ (H' : Hp) (p : Addr) (ns : List Int), But u H H' → Urn H' u (k + 10) → H' p = some (.tup (ns.map V.int)) → ns ≠ [] → ns.length ≤ 3 → isTxt wd ns = true → Q (.ref p) H'
theorem ok_letters {f fT : Addr} {fd fdT : FuncData} (F : Fun K "_law_letters" "_law_letters" sLetters f fd) (FT : Fun K "_law_take" "_law_take" sTake fT fdT) (gT : mg "_law_take" = some (.ref fT)) (bT : Binds K fdT ["_law_urn", "_law_low_so"] []) (T : Tx mg) : FnOk P w K mg base CX0 2 f fd ["_law_urn", "_law_wide"] spLetters := by
  have GT : FnOk P w K mg base CX0 1 fT fdT ["_law_urn", "_law_low_so"] spTake := ok_take FT T
  refine F.ok scLetters (fun vs H Q E h => ?_) (fun cdv A outer s H vs Q E hr h => ?_)
  · obtain ⟨u, k, wd, rfl, _⟩ := h
    rfl
  · obtain ⟨u, k, wd, rfl, hu, hk, w1, w2, q⟩ := h
    refine ⟨_, pss_cons (ps_setLc (i := 2) (own := [("_law_own", 3)]) (g := gName 3) rfl scLetters.nd rfl rfl (sw_true rfl rfl rfl (by decide +kernel))
        (pi_range2 (by rfl) T.range (pa_cons pe_int (pa_cons (pe_op op_add (pv 1) pe_int) pa_nil)))
        (blkOk_by (N := ["_law_urn", "_law_wide", "_law_some", "_law_own"]) (sc := defScope sLetters) (by decide +kernel)) (fun _ _ _ _ _ => pg_name (i := 3) scLetters.nd rfl (Or.inl rfl))
        (fun _ _ _ _ _ => pts_one (pt_cmpR op_eq (pe_call GT hr (by rfl) gT FT.kp bT .nil pass0 (pa_cons (pv 0) (pa_cons pe_int pa_nil))) pe_int (nomark _))) (fun _ _ _ _ _ => pv 3))
      (pss_one (ps_ret (pe_ifExp (pt_cmpR (op_neD hr.units) (pv 2) (pe_lst pa_nil) (nomark _)) (pe_callTy call_tuple_of (by rfl) T.tuple boot_tuple' (pa_cons (pv 2) pa_nil))
        (pe_tup (pa_cons (pe_op op_add pe_int (pe_call GT hr (by rfl) gT FT.kp bT .nil pass0 (pa_cons (pv 0) (pa_cons (pv 1) pa_nil)))) pa_nil))))), ?_⟩
    refine ⟨_, rfl, wd, 1, rfl, rfl, 1, wd + 1, rfl, ⟨by omega, by omega, by omega, by omega⟩, fun D nD => ?_⟩
    have nDu := hu.ne nD
    refine lc_range (lo := 1) (n := (wd + 1 - 1).toNat) (fun i H' => But u H H' ∧ Urn H' u (k + i) ∧ ∃ ns : List Int, H' D = some (.lst (ns.map V.int)) ∧ ns.length ≤ i ∧ isTxt wd ns = true) ⟨(But.of (Same.refl H)).upd nD, hu.upd nDu, [], upd_same, Nat.le_refl _, rfl⟩ (fun i H' hi z => ?_) (fun H' z => ?_)
    · obtain ⟨b2, u2, ns, eD, hl, ht⟩ := z
      refine ⟨rfl, _, rfl, u, _, 2, rfl, u2, by omega, by decide, by decide, fun H3 v b3 u3 v0 v1 => ⟨rfl, _, rfl, ite2 (fun c => ?_) (fun c => ?_)⟩⟩
      · refine ⟨_, rfl, _, b3 _ _ nDu eD, few (k := 100) (by rw [List.length_map]; omega), (b2.trans b3).upd nD, (u3.upd nDu).mono (by omega), ns ++ [1 + (i : Int)], ?_, ?_, isTxt_snoc ht (by omega) (by omega)⟩
        · rw [upd_same, List.map_append]; rfl
        · rw [List.length_append]; exact Nat.succ_le_succ hl
      · exact ⟨b2.trans b3, u3.mono (by omega), ns, b3 _ _ nDu eD, by omega, ht⟩
    · obtain ⟨b2, u2, ns, eD, hl, ht⟩ := z
      refine ⟨_, rfl, Nat.zero_le _, fun e ne => ?_⟩
      have s3 := same_upd (o := .lst []) ne
      have eD3 := s3 _ _ eD
      have neu := u2.ne ne
      have back : ∀ {Hx : Hp} {p : Addr}, But u H Hx → Urn Hx u (k + (wd + 1 - 1).toNat) → Hx p = none → H p = none := fun {Hx p} b u' n => by
        cases e : H p with
        | none => rfl
        | some o =>
          rw [b p o (u'.ne n) e] at n
          cases n
      have b3 := b2.upd (o := .lst []) (back b2 u2 ne)
      have u3 := u2.upd (o := .lst []) neu
      refine ⟨_, _, .lst (SqL.of eD3) (dp_ints ns), .lst (SqL.of upd_same) .nil, shaped_lst ns, by rfl, ?_⟩
      cases ns with
      | nil =>
        refine ⟨false, by rfl, iteF ?_⟩
        refine ⟨_, rfl, _, rfl, u, _, wd, rfl, u3, by omega, by omega, by omega, fun H4 v b4 u4 v0 v1 => ⟨1, v, rfl, rfl, Nat.le_of_lt (few (n := 1) (k := 1) (by decide)), fun p np => ?_⟩⟩
        have npu := u4.ne np
        have npH : H p = none := by
          cases e : H p with
          | none => rfl
          | some o =>
            rw [(b3.trans b4) p o npu e] at np
            cases np
        exact q _ p [1 + v] ((b3.trans b4).upd npH) ((u4.upd npu).mono (by omega)) upd_same (by simp) (by simp) (isTxt_snoc (ns := []) rfl (by omega) (by omega))
      | cons n r =>
        refine ⟨true, by rfl, iteT ?_⟩
        refine ⟨_, rfl, D, _, rfl, .inl ⟨SqL.of eD3, fun p np => ?_⟩⟩
        exact q _ p (n :: r) (b3.upd (back b3 u3 np)) ((u3.upd (u3.ne np)).mono (by omega)) upd_same (by simp) (by omega) ht
end
end NS

namespace NS
open PySem L2
/-- the good places among the first i, ascending -/
def Goods (ok : Int → Prop) (ns ls : List Int) (i : Nat) (gs : List Int) : Prop :=
  gs.Pairwise (· < ·) ∧ ∀ v : Int, v ∈ gs ↔ ∃ (k : Nat) (x : Int), k < i ∧ ns[k]? = some x ∧ v = (k : Int) + 1 ∧ ok v ∧ x ∈ ls
theorem Goods.nil {ok : Int → Prop} {ns ls : List Int} : Goods ok ns ls 0 [] :=
  ⟨.nil, fun v => ⟨fun h => (nomatch h), fun ⟨k, _, h, _⟩ => absurd h (Nat.not_lt_zero k)⟩⟩
theorem Goods.yes {ok : Int → Prop} {ns ls gs : List Int} {i : Nat} {x : Int} (g : Goods ok ns ls i gs) (e : ns[i]? = some x) (h : ok ((i : Int) + 1)) (hx : x ∈ ls) : Goods ok ns ls (i + 1) (gs ++ [(i : Int) + 1]) := by
  obtain ⟨p, m⟩ := g
  refine ⟨List.pairwise_append.mpr ⟨p, List.pairwise_singleton _ _, fun a ha b hb => ?_⟩, fun v => ?_⟩
  · obtain ⟨k, _, hk, _, ev, _⟩ := (m a).mp ha
    have eb : b = (i : Int) + 1 := by simpa using hb
    omega
  · rw [List.mem_append, List.mem_singleton, m v]
    constructor
    · rintro (⟨k, y, hk, r⟩ | rfl)
      · exact ⟨k, y, by omega, r⟩
      · exact ⟨i, x, by omega, e, rfl, h, hx⟩
    · rintro ⟨k, y, hk, e1, ev, r⟩
      by_cases hki : k = i
      · subst hki; exact .inr ev
      · exact .inl ⟨k, y, by omega, e1, ev, r⟩
theorem Goods.no {ok : Int → Prop} {ns ls gs : List Int} {i : Nat} {x : Int} (g : Goods ok ns ls i gs) (e : ns[i]? = some x) (h : ¬ (ok ((i : Int) + 1) ∧ x ∈ ls)) : Goods ok ns ls (i + 1) gs := by
  obtain ⟨p, m⟩ := g
  refine ⟨p, fun v => ?_⟩
  rw [m v]
  constructor
  · rintro ⟨k, y, hk, r⟩
    exact ⟨k, y, by omega, r⟩
  · rintro ⟨k, y, hk, e1, ev, r1, r2⟩
    by_cases hki : k = i
    · subst hki
      rw [e] at e1
      cases e1
      rw [ev] at r1
      exact absurd ⟨r1, r2⟩ h
    · exact ⟨k, y, by omega, e1, ev, r1, r2⟩
theorem Goods.len {ok : Int → Prop} {ns ls gs : List Int} {i : Nat} (g : Goods ok ns ls i gs) (hi : i ≤ ns.length) : gs.length ≤ i := by
  have nd : gs.Nodup := g.1.imp (fun {a b} (z : a < b) => by omega)
  have := nodup_len (l := (List.range i).map fun (k : Nat) => (k : Int) + 1) nd fun v hv => by
    obtain ⟨k, _, hk, _, ev, _⟩ := (g.2 v).mp hv
    exact List.mem_map.mpr ⟨k, List.mem_range.mpr hk, ev.symm⟩
  rw [List.length_map, List.length_range] at this
  exact this
theorem Goods.head {ns ls gs : List Int} {p g0 : Int} (g : Goods (fun v => p < v) ns ls ns.length (g0 :: gs)) : IsNext ns p ls g0 := by
  obtain ⟨q, m⟩ := g
  obtain ⟨k, x, hk, e, ev, h, hx⟩ := (m g0).mp List.mem_cons_self
  refine ⟨.inr ⟨k, x, e, ev, h, hx⟩, fun k' y e' h1 h2 hy => ?_⟩
  have hin := (m ((k' : Int) + 1)).mpr ⟨k', y, get_lt e', e', rfl, h1, hy⟩
  rcases List.mem_cons.mp hin with z | z
  · omega
  · have := (List.pairwise_cons.mp q).1 _ z
    omega
theorem Goods.none {ns ls : List Int} {p : Int} (g : Goods (fun v => p < v) ns ls ns.length []) : IsNext ns p ls ((ns.length : Int) + 1) :=
  ⟨.inl rfl, fun k x e h1 _ hx => nomatch (g.2 ((k : Int) + 1)).mpr ⟨k, x, get_lt e, e, rfl, h1, hx⟩⟩
theorem Goods.last {ns ls gs : List Int} {p g0 : Int} (g : Goods (fun v => v < p) ns ls ns.length (gs ++ [g0])) : IsLast ns p ls g0 := by
  obtain ⟨q, m⟩ := g
  obtain ⟨k, x, hk, e, ev, h, hx⟩ := (m g0).mp (by simp)
  refine ⟨.inr ⟨k, x, e, ev, h, hx⟩, fun k' y e' h1 h2 hy => ?_⟩
  have hin := (m ((k' : Int) + 1)).mpr ⟨k', y, get_lt e', e', rfl, h2, hy⟩
  rcases List.mem_append.mp hin with z | z
  · have := (List.pairwise_append.mp q).2.2 _ z g0 (by simp)
    omega
  · have : (k' : Int) + 1 = g0 := by simpa using z
    omega
theorem Goods.noneL {ns ls : List Int} {p : Int} (g : Goods (fun v => v < p) ns ls ns.length []) : IsLast ns p ls 0 :=
  ⟨.inl rfl, fun k x e _ h2 hx => nomatch (g.2 ((k : Int) + 1)).mpr ⟨k, x, get_lt e, e, rfl, h2, hx⟩⟩
end NS

namespace NS
open PySem PySem.Spec PyProof.Rows L2
theorem some_ne : ∀ l : List Int, l ≠ [] → PyData.eqv (.list (l.map PyData.int)) (.list []) = false
  | [], h => absurd rfl h
  | _ :: _, _ => rfl
section
variable {P : Program} {w : World} {K : PySem.W.Frag} {mg : Str → Option Value} {base : Heap}
def spLNext : Sp := fun vs H Q _ => ∃ (a b : Addr) (ns ls : List Int) (p : Int), vs = [.ref a, .int p, .ref b] ∧ H a = some (.tup (ns.map V.int)) ∧ Sq H b (ls.map V.int) ∧ ns.length ≤ 100 ∧ ∀ (H' : Hp) (v : Int), Same H H' → IsNext ns p ls v → Q (.int v) H'
def spLLast : Sp := fun vs H Q _ => ∃ (a b : Addr) (ns ls : List Int) (p : Int), vs = [.ref a, .int p, .ref b] ∧ H a = some (.tup (ns.map V.int)) ∧ Sq H b (ls.map V.int) ∧ ns.length ≤ 100 ∧ ∀ (H' : Hp) (v : Int), Same H H' → IsLast ns p ls v → Q (.int v) H'
theorem ok_lnext {f : Addr} {fd : FuncData} (F : Fun K "_law_next" "_law_next" sLNext f fd) (T : Tx mg) : FnOk P w K mg base CX0 1 f fd ["_law_text_here", "_law_place", "_law_letters_here"] spLNext := by
  refine F.ok scLNext (fun vs H Q E h => ?_) (fun cdv A outer s H vs Q E hr h => ?_)
  · obtain ⟨a, b, ns, ls, p, rfl, _⟩ := h
    rfl
  · obtain ⟨a, b, ns, ls, p, rfl, ha, hb, hl, q⟩ := h
    refine ⟨_, pss_cons (ps_setLc (i := 3) (own := [("_law_k", 4), ("_law_own", 5)]) (g := gTup K 2 (gCons (gName 4) (gCons (gName 5) gNil))) rfl scLNext.nd rfl rfl (sw_true rfl rfl rfl (by decide +kernel))
        (pi_enumT (by rfl) T.enum (pa_cons (pv 0) pa_nil))
        (blkOk_by (N := ["_law_text_here", "_law_place", "_law_letters_here", "_law_goods", "_law_k", "_law_own"]) (sc := defScope sLNext) (by decide +kernel))
        (fun _ _ _ _ _ => pg_tup rfl (pgs_cons (pg_name (i := 4) scLNext.nd rfl (Or.inl rfl)) (pgs_cons (pg_name (i := 5) scLNext.nd rfl (Or.inl rfl)) pgs_nil)))
        (fun _ _ _ _ _ => pts_one (pt_and (pt_cmpR op_gt (pe_op op_add (pv 4) pe_int) (pv 1) (nomark _)) (pt_cmpR (show OpR _ (compareOp .In) (rIn K false) from op_in_seq) (pv 5) (pv 2) (by rfl)))) (fun _ _ _ _ _ => pe_op op_add (pv 4) pe_int))
      (pss_one (ps_ret (pe_ifExp (pt_cmpR (op_neD hr.units) (pv 3) (pe_lst pa_nil) (nomark _)) (pe_atL (pv 3)) (pe_op op_add (pe_len T.len (pv 0)) pe_int)))), ?_⟩
    refine ⟨_, rfl, a, _, rfl, ha, fun D nD => ?_⟩
    refine lc_it walk_enumT (fun i H' => Same H H' ∧ ∃ gs : List Int, H' D = some (.lst (gs.map V.int)) ∧ Goods (fun v => p < v) ns ls i gs) ⟨same_upd nD, [], upd_same, Goods.nil⟩ (fun i H' _ z => z.1 _ _ ha) (fun i x H' H2 hi z y => ?_) (fun H' z => ?_)
    · obtain ⟨sm, gs, eD, g⟩ := z
      obtain ⟨T0, x1, x2, rfl, nT, rfl, g1, g2⟩ := y
      cases g1
      obtain ⟨n, en, rfl⟩ := map_get g2
      have sT := same_upd (o := .tup [.int (i : Int), .int n]) nT
      have hle : gs.length ≤ 100 := Nat.le_trans (g.len (by rw [List.length_map] at hi; omega)) (by rw [List.length_map] at hi; omega)
      refine ⟨T0, _, rfl, SqT.of upd_same, rfl, _, _, rfl, _, _, rfl, rfl, rfl, ?_⟩
      refine ⟨_, rfl, (i : Int), 1, rfl, rfl, _, rfl, (i : Int) + 1, p, rfl, rfl, _, rfl, ite2 (fun c => ?_) (fun c => ?_)⟩
      · have c1 : p < (i : Int) + 1 := of_decide_eq_true c
        refine ⟨_, rfl, _, rfl, b, _, rfl, (hb.same (sm.trans sT)).or, rfl, flat_all ls, ?_⟩
        rw [in_ints]
        refine ⟨_, rfl, ite2 (fun c => ?_) (fun c => ?_)⟩
        · have c2 : n ∈ ls := of_decide_eq_true c
          refine ⟨_, rfl, (i : Int), 1, rfl, rfl, _, sT _ _ eD, few (k := 100) (by rw [List.length_map]; exact hle), grow nD (sm.trans sT) rfl _, gs ++ [(i : Int) + 1], ?_, g.yes en c1 c2⟩
          rw [upd_same, List.map_append]
          rfl
        · exact ⟨sm.trans sT, gs, sT _ _ eD, g.no en fun z => c (decide_eq_true z.2)⟩
      · exact ⟨sm.trans sT, gs, sT _ _ eD, g.no en fun z => c (decide_eq_true z.1)⟩
    · obtain ⟨sm, gs, eD, g⟩ := z
      rw [List.length_map] at g
      refine ⟨_, rfl, Nat.zero_le _, fun e ne => ?_⟩
      have s3 := same_upd (o := .lst []) ne
      refine ⟨_, _, .lst (SqL.of (s3 _ _ eD)) (dp_ints gs), .lst (SqL.of upd_same) .nil, shaped_lst gs, by rfl, ?_⟩
      cases gs with
      | nil =>
        refine ⟨false, by rfl, iteF ?_⟩
        refine ⟨_, rfl, a, _, rfl, .inr (SqT.of (s3 _ _ (sm _ _ ha))), _, 1, rfl, rfl, ?_⟩
        have q' := q _ _ (sm.trans s3) g.none
        rw [show ((ns.length : Int)) = ((ns.map V.int).length : Int) by rw [List.length_map]] at q'
        exact q'
      | cons g0 r =>
        refine ⟨true, by rfl, iteT ?_⟩
        exact ⟨_, rfl, D, _, 0, .int g0, rfl, rfl, SqL.of (s3 _ _ eD), atI_nat (j := 0) rfl, q _ _ (sm.trans s3) g.head⟩
theorem ok_llast {f : Addr} {fd : FuncData} (F : Fun K "_law_last" "_law_last" sLLast f fd) (T : Tx mg) : FnOk P w K mg base CX0 1 f fd ["_law_text_here", "_law_place", "_law_letters_here"] spLLast := by
  refine F.ok scLLast (fun vs H Q E h => ?_) (fun cdv A outer s H vs Q E hr h => ?_)
  · obtain ⟨a, b, ns, ls, p, rfl, _⟩ := h
    rfl
  · obtain ⟨a, b, ns, ls, p, rfl, ha, hb, hl, q⟩ := h
    refine ⟨_, pss_cons (ps_setLc (i := 3) (own := [("_law_k", 4), ("_law_own", 5)]) (g := gTup K 2 (gCons (gName 4) (gCons (gName 5) gNil))) rfl scLLast.nd rfl rfl (sw_true rfl rfl rfl (by decide +kernel))
        (pi_enumT (by rfl) T.enum (pa_cons (pv 0) pa_nil))
        (blkOk_by (N := ["_law_text_here", "_law_place", "_law_letters_here", "_law_goods", "_law_k", "_law_own"]) (sc := defScope sLLast) (by decide +kernel))
        (fun _ _ _ _ _ => pg_tup rfl (pgs_cons (pg_name (i := 4) scLLast.nd rfl (Or.inl rfl)) (pgs_cons (pg_name (i := 5) scLLast.nd rfl (Or.inl rfl)) pgs_nil)))
        (fun _ _ _ _ _ => pts_one (pt_and (pt_cmpR op_lt (pe_op op_add (pv 4) pe_int) (pv 1) (nomark _)) (pt_cmpR (show OpR _ (compareOp .In) (rIn K false) from op_in_seq) (pv 5) (pv 2) (by rfl)))) (fun _ _ _ _ _ => pe_op op_add (pv 4) pe_int))
      (pss_one (ps_ret (pe_ifExp (pt_cmpR (op_neD hr.units) (pv 3) (pe_lst pa_nil) (nomark _)) (pe_ix ix_list (pv 3) (pe_un un_neg pe_int) (fun _ _ => rfl)) pe_int))), ?_⟩
    refine ⟨_, rfl, a, _, rfl, ha, fun D nD => ?_⟩
    refine lc_it walk_enumT (fun i H' => Same H H' ∧ ∃ gs : List Int, H' D = some (.lst (gs.map V.int)) ∧ Goods (fun v => v < p) ns ls i gs) ⟨same_upd nD, [], upd_same, Goods.nil⟩ (fun i H' _ z => z.1 _ _ ha) (fun i x H' H2 hi z y => ?_) (fun H' z => ?_)
    · obtain ⟨sm, gs, eD, g⟩ := z
      obtain ⟨T0, x1, x2, rfl, nT, rfl, g1, g2⟩ := y
      cases g1
      obtain ⟨n, en, rfl⟩ := map_get g2
      have sT := same_upd (o := .tup [.int (i : Int), .int n]) nT
      have hle : gs.length ≤ 100 := Nat.le_trans (g.len (by rw [List.length_map] at hi; omega)) (by rw [List.length_map] at hi; omega)
      refine ⟨T0, _, rfl, SqT.of upd_same, rfl, _, _, rfl, _, _, rfl, rfl, rfl, ?_⟩
      refine ⟨_, rfl, (i : Int), 1, rfl, rfl, _, rfl, (i : Int) + 1, p, rfl, rfl, _, rfl, ite2 (fun c => ?_) (fun c => ?_)⟩
      · have c1 : (i : Int) + 1 < p := of_decide_eq_true c
        refine ⟨_, rfl, _, rfl, b, _, rfl, (hb.same (sm.trans sT)).or, rfl, flat_all ls, ?_⟩
        rw [in_ints]
        refine ⟨_, rfl, ite2 (fun c => ?_) (fun c => ?_)⟩
        · have c2 : n ∈ ls := of_decide_eq_true c
          refine ⟨_, rfl, (i : Int), 1, rfl, rfl, _, sT _ _ eD, few (k := 100) (by rw [List.length_map]; exact hle), grow nD (sm.trans sT) rfl _, gs ++ [(i : Int) + 1], ?_, g.yes en c1 c2⟩
          rw [upd_same, List.map_append]
          rfl
        · exact ⟨sm.trans sT, gs, sT _ _ eD, g.no en fun z => c (decide_eq_true z.2)⟩
      · exact ⟨sm.trans sT, gs, sT _ _ eD, g.no en fun z => c (decide_eq_true z.1)⟩
    · obtain ⟨sm, gs, eD, g⟩ := z
      rw [List.length_map] at g
      refine ⟨_, rfl, Nat.zero_le _, fun e ne => ?_⟩
      have s3 := same_upd (o := .lst []) ne
      refine ⟨_, _, .lst (SqL.of (s3 _ _ eD)) (dp_ints gs), .lst (SqL.of upd_same) .nil, shaped_lst gs, by rfl, ?_⟩
      have hgs : gs = [] ∨ ∃ gs' g0, gs = gs' ++ [g0] := (List.eq_nil_or_concat gs).imp_right fun ⟨l, b, e⟩ => ⟨l, b, by rw [e, List.concat_eq_append]⟩
      rcases hgs with rfl | ⟨gs', g0, rfl⟩
      · refine ⟨false, by rfl, iteF ?_⟩
        exact q _ _ (sm.trans s3) g.noneL
      · have ez := some_ne (gs' ++ [g0]) (by simp)
        refine ⟨true, congrArg (fun z => V.bl (!z)) ez, iteT ?_⟩
        have ea : atI ((gs' ++ [g0]).map V.int) (-1) = some (.int g0) := by
          rw [List.map_append]
          exact atI_last _ _
        exact ⟨_, rfl, 1, rfl, D, _, -1, _, rfl, rfl, SqL.of (s3 _ _ eD), ea, q _ _ (sm.trans s3) g.last⟩
end
end NS

namespace NS
open PySem PySem.Spec PyProof.Rows L2
/-- what comes of a change: the text, or where it has no place -/
def Outc (H : Hp) (v : V) (ns : List Int) (c : Chg) : Prop := ∃ p : Addr, v = .ref p ∧ ((c.fits ns ∧ H p = some (.tup ((c.out ns).map V.int))) ∨ (¬ c.fits ns ∧ H p = some (.lst [.str "place", .int c.place])))
theorem Outc.same {H H' : Hp} {v : V} {ns : List Int} {c : Chg} (h : Outc H v ns c) (s : Same H H') : Outc H' v ns c := by
  obtain ⟨p, e, h⟩ := h
  exact ⟨p, e, h.imp (fun z => ⟨z.1, s _ _ z.2⟩) fun z => ⟨z.1, s _ _ z.2⟩⟩
section
variable {P : Program} {w : World} {K : PySem.W.Frag} {mg : Str → Option Value} {base : Heap}
def spLChg : Sp := fun vs H Q _ => ∃ (a b : Addr) (ns : List Int) (c : Chg), vs = [.ref a, .ref b] ∧ Sq H a (ns.map V.int) ∧ Sq H b c.xs ∧ ns.length ≤ 60 ∧ 1 ≤ c.place ∧ ∀ (H' : Hp) (v : V), Same H H' → Outc H' v ns c → Q v H'
theorem ok_lchg {f fC fT C fI : Addr} {fd fdC fdT : FuncData} (F : Fun K "_law_changed" "_law_changed" sLChg f fd) (FC : Fun K "changed" "changed" sChg fC fdC) (gC : mg "changed" = some (.ref fC)) (bC : Binds K fdC ["text", "change"] [])
    (FT : Fun K "tuple_of" "tuple_of" sTof fT fdT) (gT : mg "tuple_of" = some (.ref fT)) (bT : Binds K fdT ["thing"] []) (N : PySem.NpX.NpTxt K mg C fI) (T : Tx mg) : FnOk P w K mg base CX0 4 f fd ["_law_text_here", "_law_change"] spLChg := by
  have GC : FnOk P w K mg base (L2.CX P w) 3 fC fdC ["text", "change"] (spChg C) := ok_chg FC FT gT bT N T
  refine F.ok scLChg (fun vs H Q E h => ?_) (fun cdv A outer s H vs Q E hr h => ?_)
  · obtain ⟨a, b, ns, c, rfl, _⟩ := h
    rfl
  · obtain ⟨a, b, ns, c, rfl, ha, hb, hl, h1, q⟩ := h
    refine ⟨_, pss_one (ps_try_as (i := 2) (tb := fun W => tRet (tCallS (spChg C) (WE W) (tCons (tVar 0) (tCons (tVar 1) tNil)))) (ts := fun a cls d => tRet (tLst (tCons (tC (.str "place")) (tCons (tByNp C a cls d (tVar 2)) tNil)))) (Wout := fun _ _ _ _ => False) rfl rfl scLChg.nd rfl rfl ⟨rfl, by decide, Or.inl N.gC⟩ takes0
        (fun W pn xe tk _ => pss_one (ps_ret (by exact (pe_callS GC hr rfl gC FC.kp bC (fun σ => passAt tk σ) (by exact (pa_cons (pv 0) (pa_cons (pv 1) pa_nil)))))))
        (fun a oe cls d pn hz hf => pss_one (ps_ret (by exact (pe_lst (pa_cons pe_str (pa_cons (pe_byNp N hz hf (pv 2)) pa_nil))))))), ?_⟩
    refine ⟨_, rfl, _, rfl, a, b, ns, c, rfl, ha, hb, hl, h1, fun hf H1 p s1 ep => ?_, fun hf H1 d s1 nd ed => ?_⟩
    · exact q H1 _ s1 ⟨p, rfl, .inl ⟨hf, ep⟩⟩
    · refine ⟨true, N.te, fun _ x nx => ?_, fun z => Bool.noConfusion z⟩
      refine ⟨_, rfl, rfl, rfl, d, _, rfl, ed, Nat.le_of_lt (few (n := 2) (k := 2) (by decide)), fun l nl => ?_⟩
      exact q _ _ (s1.trans (same_upd nl)) ⟨l, rfl, .inr ⟨hf, upd_same⟩⟩
end
end NS

namespace NS
open PySem PySem.Spec PyProof.Rows L2
section
variable {P : Program} {w : World} {K : PySem.W.Frag} {mg : Str → Option Value} {base : Heap}
theorem cut2_two {K : PySem.W.Frag} {H : Hp} {b : Addr} {x y : V} {Q : VK} (h : H b = some (.tup [x, y])) (q : ∀ (H' : Hp) (p : Addr), Same H H' → H' p = some (.tup [x, y]) → Q (.ref p) H') : rSlA K (.ref b) none (some 2) H Q :=
  ⟨b, _, rfl, SqT.of h, fun _ => q H b (Same.refl _) h, fun z => absurd ⟨rfl, rfl⟩ z⟩
theorem cut2_three {K : PySem.W.Frag} {H : Hp} {b : Addr} {x y z : V} {Q : VK} (h : H b = some (.tup [x, y, z])) (q : ∀ (H' : Hp) (p : Addr), Same H H' → H' p = some (.tup [x, y]) → Q (.ref p) H') : rSlA K (.ref b) none (some 2) H Q :=
  ⟨b, _, rfl, SqT.of h, fun z' => absurd (show (2 : Nat) = 3 from z'.2) (by decide), fun _ p np => q _ p (same_upd np) upd_same⟩
def spDue : Sp := fun vs H Q _ => ∃ (a b : Addr) (ns : List Int) (c : Chg), vs = [.ref a, .ref b] ∧ H a = some (.tup (ns.map V.int)) ∧ H b = some (.tup c.xs) ∧ ns.length ≤ 60 ∧ 1 ≤ c.place ∧ ∀ (H' : Hp) (v : V), Same H H' → Outc H' v ns c → Q v H'
theorem ok_due {f : Addr} {fd : FuncData} (F : Fun K "_law_due" "_law_due" sDue f fd) (T : Tx mg) : FnOk P w K mg base CX0 1 f fd ["_law_text_here", "_law_change"] spDue := by
  refine F.ok scDue (fun vs H Q E h => ?_) (fun cdv A outer s H vs Q E hr h => ?_)
  · obtain ⟨a, b, ns, c, rfl, _⟩ := h
    rfl
  · obtain ⟨a, b, ns, c, rfl, ha, hb, hl, h1, q⟩ := h
    refine ⟨_, pss_cons (ps_asg (pe_slice sl_tupA (pv 1) po_none (po_some pe_int)) (pg_tup rfl (pgs_cons (pg_name (i := 2) scDue.nd rfl (Or.inl rfl)) (pgs_cons (pg_name (i := 3) scDue.nd rfl (Or.inl rfl)) pgs_nil))))
      (pss_cons (ps_if (pt_cmpR op_gt (pv 3) (pe_op op_add (pe_len T.len (pv 0)) (pe_toInt T.int (pe_cmpR op_eq (pv 2) pe_str (nomark _)))) (nomark _)) (pss_one (ps_ret (pe_lst (pa_cons pe_str (pa_cons (pv 3) pa_nil))))) pss_nil)
      (pss_cons (ps_set (i := 4) scDue.nd rfl (Or.inl rfl) (pe_callTy call_list_of (by rfl) T.list boot_list' (pa_cons (pv 0) pa_nil)))
      (pss_cons (ps_if (pt_cmpR op_eq (pv 2) pe_str (nomark _))
          (pss_one (ps_expr (pe_bm PySem.F.plainAttrs_list PySem.F.slot_list_insert PySem.F.type_list_insert mt_insert (pv 4) (pa_cons (pe_op op_sub (pv 3) pe_int) (pa_cons (pe_at (pv 1)) pa_nil)))))
          (pss_one (ps_if (pt_cmpR op_eq (pv 2) pe_str (nomark _))
            (pss_one (ps_expr (pe_bm PySem.F.plainAttrs_list PySem.F.slot_list_pop PySem.F.type_list_pop mt_popAt (pv 4) (pa_cons (pe_op op_sub (pv 3) pe_int) pa_nil))))
            (pss_one (ps_asg (pe_at (pv 1)) (pg_sub (pv 4) (pe_op op_sub (pv 3) pe_int) set_list))))))
      (pss_one (ps_ret (pe_callTy call_tuple_of (by rfl) T.tuple boot_tuple' (pa_cons (pv 4) pa_nil))))))), ?_⟩
    have e1 : ((ns.map V.int).length : Int) = ns.length := by rw [List.length_map]
    cases c with
    | put p l =>
      have h1 : 1 ≤ p := h1
      refine ⟨_, rfl, 2, rfl, cut2_three hb fun H1 t s1 et => ?_⟩
      have ha1 := s1 _ _ ha
      have hb1 := s1 _ _ hb
      refine ⟨t, _, rfl, SqT.of et, rfl, _, _, rfl, _, _, rfl, rfl, ?_⟩
      refine ⟨_, rfl, _, rfl, a, _, rfl, .inr (SqT.of ha1), _, rfl, rfl, .inr ⟨true, by rfl, _, 1, rfl, by rfl, p, _, rfl, rfl, _, rfl, ite2 (fun c => ?_) (fun c => ?_)⟩⟩
      · have c' : ((ns.map V.int).length : Int) + 1 < p := of_decide_eq_true c
        rw [e1] at c'
        refine ⟨_, rfl, Nat.le_of_lt (few (n := 2) (k := 2) (by decide)), fun z nz => ?_⟩
        exact q _ _ (s1.trans (same_upd nz)) ⟨z, rfl, .inr ⟨(fun hf => by have hf' : p ≤ (ns.length : Int) + 1 := hf; omega), upd_same⟩⟩
      · have c' : ¬ ((ns.map V.int).length : Int) + 1 < p := fun z => c (decide_eq_true z)
        rw [e1] at c'
        refine ⟨_, rfl, a, _, rfl, .inr (SqT.of ha1), fun r nr => ?_⟩
        have s2 := same_upd (o := .lst (ns.map V.int)) nr
        have hb2 := s2 _ _ hb1
        have hlen : (ns.map V.int).length < sizeLine := few (k := 60) (by rw [List.length_map]; exact hl)
        have e3 : (p - 1).toNat < ns.length ∨ p = (ns.length : Int) + 1 := by omega
        refine ⟨_, rfl, rfl, true, by rfl, iteT ?_⟩
        refine ⟨_, rfl, .inl ⟨rfl, _, SqL.of upd_same⟩, _, rfl, p, 1, rfl, rfl, _, rfl, b, _, 2, .int l, rfl, rfl, SqT.of hb2, rfl, r, _, p - 1, .int l, rfl, rfl, upd_same, hlen, by omega, by omega, ?_⟩
        have s3 : Same H1 (upd (upd H1 r (.lst (ns.map V.int))) r (.lst ((ns.map V.int).take (p - 1).toNat ++ [.int l] ++ (ns.map V.int).drop (p - 1).toNat))) := fun d o e => by
          rw [upd_ne (ne_of_none e nr)]
          exact s2 _ _ e
        refine ⟨_, rfl, r, _, rfl, .inl ⟨SqL.of upd_same, fun z nz => ?_⟩⟩
        refine q _ _ (s1.trans (s3.trans (same_upd nz))) ⟨z, rfl, .inl ⟨?_, ?_⟩⟩
        · show p ≤ (ns.length : Int) + 1
          omega
        · rw [upd_same]
          congr 2
          show _ = (ns.take (p - 1).toNat ++ [l] ++ ns.drop (p - 1).toNat).map V.int
          rw [List.map_append, List.map_append, List.map_take, List.map_drop]
          rfl
    | drop p =>
      have h1 : 1 ≤ p := h1
      refine ⟨_, rfl, 2, rfl, cut2_two hb fun H1 t s1 et => ?_⟩
      have ha1 := s1 _ _ ha
      have hb1 := s1 _ _ hb
      refine ⟨t, _, rfl, SqT.of et, rfl, _, _, rfl, _, _, rfl, rfl, ?_⟩
      refine ⟨_, rfl, _, rfl, a, _, rfl, .inr (SqT.of ha1), _, rfl, rfl, .inr ⟨false, by rfl, _, 0, rfl, by rfl, p, _, rfl, rfl, _, rfl, ite2 (fun c => ?_) (fun c => ?_)⟩⟩
      · have c' : ((ns.map V.int).length : Int) + 0 < p := of_decide_eq_true c
        rw [e1] at c'
        refine ⟨_, rfl, Nat.le_of_lt (few (n := 2) (k := 2) (by decide)), fun z nz => ?_⟩
        exact q _ _ (s1.trans (same_upd nz)) ⟨z, rfl, .inr ⟨(fun hf => by have hf' : p ≤ (ns.length : Int) := hf; omega), upd_same⟩⟩
      · have c' : ¬ ((ns.map V.int).length : Int) + 0 < p := fun z => c (decide_eq_true z)
        rw [e1] at c'
        refine ⟨_, rfl, a, _, rfl, .inr (SqT.of ha1), fun r nr => ?_⟩
        have s2 := same_upd (o := .lst (ns.map V.int)) nr
        have hb2 := s2 _ _ hb1
        have hlen : (ns.map V.int).length < sizeLine := few (k := 60) (by rw [List.length_map]; exact hl)
        have e3 : (p - 1).toNat < ns.length ∨ p = (ns.length : Int) + 1 := by omega
        refine ⟨_, rfl, rfl, false, by rfl, iteF ?_⟩
        refine ⟨_, rfl, rfl, true, by rfl, iteT ?_⟩
        have hk : (p - 1).toNat < (ns.map V.int).length := by rw [List.length_map]; omega
        have ek : seqIndex? (p - 1) (ns.map V.int).length = some (p - 1).toNat := PySem.StrLaws.seqIndex_nonneg (by omega) (by omega)
        refine ⟨_, rfl, .inl ⟨rfl, _, SqL.of upd_same⟩, _, rfl, p, 1, rfl, rfl, r, _, p - 1, (p - 1).toNat, _, rfl, rfl, upd_same, by omega, by omega, ek, List.getElem?_eq_getElem hk, ?_⟩
        have s3 : Same H1 (upd (upd H1 r (.lst (ns.map V.int))) r (.lst ((ns.map V.int).eraseIdx (p - 1).toNat))) := fun d o e => by
          rw [upd_ne (ne_of_none e nr)]
          exact s2 _ _ e
        refine ⟨_, rfl, r, _, rfl, .inl ⟨SqL.of upd_same, fun z nz => ?_⟩⟩
        refine q _ _ (s1.trans (s3.trans (same_upd nz))) ⟨z, rfl, .inl ⟨?_, ?_⟩⟩
        · show p ≤ (ns.length : Int)
          omega
        · rw [upd_same]
          congr 2
          show _ = (ns.take (p - 1).toNat ++ [] ++ ns.drop p.toNat).map V.int
          rw [List.eraseIdx_eq_take_drop_succ, List.map_append, List.map_append, List.map_take, List.map_drop, List.map_nil, List.append_nil, show (p - 1).toNat + 1 = p.toNat by omega]
    | turn p l =>
      have h1 : 1 ≤ p := h1
      refine ⟨_, rfl, 2, rfl, cut2_three hb fun H1 t s1 et => ?_⟩
      have ha1 := s1 _ _ ha
      have hb1 := s1 _ _ hb
      refine ⟨t, _, rfl, SqT.of et, rfl, _, _, rfl, _, _, rfl, rfl, ?_⟩
      refine ⟨_, rfl, _, rfl, a, _, rfl, .inr (SqT.of ha1), _, rfl, rfl, .inr ⟨false, by rfl, _, 0, rfl, by rfl, p, _, rfl, rfl, _, rfl, ite2 (fun c => ?_) (fun c => ?_)⟩⟩
      · have c' : ((ns.map V.int).length : Int) + 0 < p := of_decide_eq_true c
        rw [e1] at c'
        refine ⟨_, rfl, Nat.le_of_lt (few (n := 2) (k := 2) (by decide)), fun z nz => ?_⟩
        exact q _ _ (s1.trans (same_upd nz)) ⟨z, rfl, .inr ⟨(fun hf => by have hf' : p ≤ (ns.length : Int) := hf; omega), upd_same⟩⟩
      · have c' : ¬ ((ns.map V.int).length : Int) + 0 < p := fun z => c (decide_eq_true z)
        rw [e1] at c'
        refine ⟨_, rfl, a, _, rfl, .inr (SqT.of ha1), fun r nr => ?_⟩
        have s2 := same_upd (o := .lst (ns.map V.int)) nr
        have hb2 := s2 _ _ hb1
        have hlen : (ns.map V.int).length < sizeLine := few (k := 60) (by rw [List.length_map]; exact hl)
        have e3 : (p - 1).toNat < ns.length ∨ p = (ns.length : Int) + 1 := by omega
        refine ⟨_, rfl, rfl, false, by rfl, iteF ?_⟩
        refine ⟨_, rfl, rfl, false, by rfl, iteF ?_⟩
        have hk : (p - 1).toNat < (ns.map V.int).length := by rw [List.length_map]; omega
        have ek : ixN (ns.map V.int).length (p - 1) = some (p - 1).toNat := by
          unfold ixN
          rw [if_pos (by omega), if_pos (by omega)]
        refine ⟨_, rfl, b, _, 2, .int l, rfl, rfl, SqT.of hb2, rfl, _, rfl, _, rfl, p, 1, rfl, rfl, r, _, p - 1, _, rfl, rfl, upd_same, ek, ?_⟩
        have s3 : Same H1 (upd (upd H1 r (.lst (ns.map V.int))) r (.lst ((ns.map V.int).set (p - 1).toNat (.int l)))) := fun d o e => by
          rw [upd_ne (ne_of_none e nr)]
          exact s2 _ _ e
        refine ⟨_, rfl, r, _, rfl, .inl ⟨SqL.of upd_same, fun z nz => ?_⟩⟩
        refine q _ _ (s1.trans (s3.trans (same_upd nz))) ⟨z, rfl, .inl ⟨?_, ?_⟩⟩
        · show p ≤ (ns.length : Int)
          omega
        · rw [upd_same]
          congr 2
          show _ = (ns.take (p - 1).toNat ++ [l] ++ ns.drop p.toNat).map V.int
          rw [List.set_eq_take_append_cons_drop, if_pos hk, List.map_append, List.map_append, List.map_take, List.map_drop, show (p - 1).toNat + 1 = p.toNat by omega, List.append_assoc]
          rfl
end
end NS

namespace NS
open PySem PySem.Spec PyProof.Rows L2
section
variable {X : Cx}
/-- isinstance(e, (c, d)) -/
theorem pe_isi2 {e c d : Expr} {te : TE} {T U : String} {k : Nat} {p tp pos : Pos} (hm : X.mg "isinstance" = none) (he : PE X e te) (hc : PE X c (tC (.ty T))) (hd : PE X d (tC (.ty U))) (hg : Gl X "isinstance" := by rfl)
    (h0 : starEach [d] X.env = (false, eval d X.env) :: starEach [] X.env := by rfl) (h1 : starEach [c, d] X.env = (false, eval c X.env) :: starEach [d] X.env := by rfl)
    (h2 : starEach [e, .Tuple [c, d] k tp] X.env = (false, eval e X.env) :: starEach [.Tuple [c, d] k tp] X.env := by rfl) :
    PE X (.Call (.Name "isinstance" p) [e, .Tuple [c, d] k tp] [] pos) (tCB (rIsiT X.K) (tCons te (tCons (tTup (tCons (tC (.ty T)) (tCons (tC (.ty U)) tNil))) tNil))) :=
  pe_callB call_isiT hg hm boot_isi' (pa_cons he (pa_cons (pe_tup (pa_cons hc (pa_cons hd pa_nil h0) h1)) pa_nil rfl) h2) (by decide) (by decide) h2 rfl
end
/-- an int, a bool, a text -/
def FlatS (v : V) : Prop := (∃ i, v = .int i) ∨ (∃ b, v = .bl b) ∨ ∃ x, v = .str x
/-- alike, of the same kinds, to the depth n -/
def Alk : Nat → Hp → V → V → Prop
  | 0, _, x, y => x = y ∧ FlatS x
  | n + 1, H, x, y => (x = y ∧ FlatS x) ∨ ∃ (a b : Addr) (xs ys : List V), x = .ref a ∧ y = .ref b ∧ ((H a = some (.lst xs) ∧ H b = some (.lst ys)) ∨ (H a = some (.tup xs) ∧ H b = some (.tup ys))) ∧ xs.length = ys.length ∧ xs.length ≤ 100 ∧
      ∀ (i : Nat) (p q : V), xs[i]? = some p → ys[i]? = some q → Alk n H p q
theorem Alk.same : ∀ {n : Nat} {H H' : Hp} {x y : V}, Alk n H x y → Same H H' → Alk n H' x y
  | 0, _, _, _, _, h, _ => h
  | n + 1, _, _, _, _, .inl h, _ => .inl h
  | n + 1, _, _, _, _, .inr ⟨a, b, xs, ys, e1, e2, h, hl, h1, r⟩, s => .inr ⟨a, b, xs, ys, e1, e2, h.imp (fun z => ⟨s _ _ z.1, s _ _ z.2⟩) (fun z => ⟨s _ _ z.1, s _ _ z.2⟩), hl, h1, fun i p q g1 g2 => (r i p q g1 g2).same s⟩
theorem kit2F {K : PySem.W.Frag} {T A B : String} (h1 : kitB T A = some false) (h2 : kitB T B = some false) : PySem.W.kitAny K (.type T) [.type A, .type B] = some false :=
  kitAny_cons (b := false) (kit_ty h1) (fun _ => kitAny_cons (b := false) (kit_ty h2) (fun _ => kitAny_nil) (fun z => nomatch z)) (fun z => nomatch z)
theorem kit2L {K : PySem.W.Frag} {T A B : String} (h1 : kitB T A = some true) : PySem.W.kitAny K (.type T) [.type A, .type B] = some true :=
  kitAny_cons (b := true) (kit_ty h1) (fun z => nomatch z) (fun _ => rfl)
theorem kit2R {K : PySem.W.Frag} {T A B : String} (h1 : kitB T A = some false) (h2 : kitB T B = some true) : PySem.W.kitAny K (.type T) [.type A, .type B] = some true :=
  kitAny_cons (b := false) (kit_ty h1) (fun _ => kitAny_cons (b := true) (kit_ty h2) (fun z => nomatch z) (fun _ => rfl)) (fun z => nomatch z)
def spSame (n : Nat) : Sp := fun vs H Q _ => ∃ x y : V, vs = [x, y] ∧ Alk n H x y ∧ ∀ H', Same H H' → Q (.bl true) H'
abbrev nSame : List Str := ["_law_got", "_law_goal", "_law_mine_so", "_law_own"]
section
variable {P : Program} {w : World} {K : PySem.W.Frag} {mg : Str → Option Value} {base : Heap}
theorem same_flat {f : Addr} {cdv : Value} {A : Around} {outer : List Env} {s : Shared} {H : Hp} {Q : VK} {E : XK} {x : V} (T : Tx mg) (hx : FlatS x) (q : ∀ H', Same H H' → Q (.bl true) H') :
    ∃ t, PSs (cxOf CX0 P w K mg base nSame "_law_same" (defScope sSame) f cdv A outer s H E).nox (defBody sSame) t ∧ t { nx := fun _ H' => Q .non H', rt := Q } (start nSame [x, x]) H := by
  refine ⟨_, pss_cons (ps_if (pt_val (pe_isi2 T.isi (pv 1) (pe_ty T.list boot_list') (pe_ty T.tuple boot_tuple'))) pss_never pss_nil)
    (pss_cons (ps_if (pt_or (pt_cmpR op_isN (pv 1) pe_non (nomark _)) (pt_val (pe_isi2 T.isi (pv 1) (pe_ty T.bool boot_bool') (pe_ty T.str boot_str'))))
        (pss_one (ps_ret (pe_and3 (pe_cmpR op_eq (pv 0) (pv 1) (nomark _)) (pe_cmpR op_eq (pe_isi T.isi (pv 0) (pe_ty T.bool boot_bool')) (pe_isi T.isi (pv 1) (pe_ty T.bool boot_bool')) (nomark _))
          (pe_cmpR op_eq (pe_cmpR op_isN (pv 0) pe_non (nomark _)) (pe_cmpR op_isN (pv 1) pe_non (nomark _)) (nomark _))))) pss_nil)
    (pss_one (ps_ret (pe_and3 (pe_isi T.isi (pv 0) (pe_ty T.int boot_int')) (pe_not (pe_isi T.isi (pv 0) (pe_ty T.bool boot_bool'))) (pe_cmpR op_eq (pv 0) (pv 1) (nomark _)))))), ?_⟩
  rcases hx with ⟨i, rfl⟩ | ⟨b, rfl⟩ | ⟨z, rfl⟩
  · refine ⟨_, rfl, two_line, fun t1 n1 => ⟨.int i, t1, [.ty "list", .ty "tuple"], .type "int", _, false, rfl, upd_same, .cons (.ty _) (.cons (.ty _) .nil), .base (.int i), kit2F (by decide +kernel) (by decide +kernel), false, rfl, iteF ?_⟩⟩
    refine ⟨_, rfl, rfl, false, by rfl, iteF ?_⟩
    refine ⟨_, rfl, two_line, fun t2 n2 => ⟨.int i, t2, [.ty "bool", .ty "str"], .type "int", _, false, rfl, upd_same, .cons (.ty _) (.cons (.ty _) .nil), .base (.int i), kit2F (by decide +kernel) (by decide +kernel), false, rfl, iteF ?_⟩⟩
    refine ⟨_, rfl, .int i, .ty "int", .type "int", .type "int", true, rfl, .ty _, .base (.int i), kit_ty (by decide +kernel), true, rfl, iteT ?_⟩
    refine ⟨_, rfl, .int i, .ty "bool", .type "int", .type "bool", false, rfl, .ty _, .base (.int i), kit_ty (by decide +kernel), false, rfl, true, rfl, iteT ?_⟩
    refine ⟨_, rfl, _, rfl, rfl, ?_⟩
    have q' := q _ ((same_upd n1).trans (same_upd (o := .tup [.ty "bool", .ty "str"]) n2))
    rw [← decide_eq_true (show V.int i = V.int i from rfl)] at q'
    exact q'
  · refine ⟨_, rfl, two_line, fun t1 n1 => ⟨.bl b, t1, [.ty "list", .ty "tuple"], .type "bool", _, false, rfl, upd_same, .cons (.ty _) (.cons (.ty _) .nil), .base (.bl b), kit2F (by decide +kernel) (by decide +kernel), false, rfl, iteF ?_⟩⟩
    refine ⟨_, rfl, rfl, false, by rfl, iteF ?_⟩
    refine ⟨_, rfl, two_line, fun t2 n2 => ⟨.bl b, t2, [.ty "bool", .ty "str"], .type "bool", _, true, rfl, upd_same, .cons (.ty _) (.cons (.ty _) .nil), .base (.bl b), kit2L (by decide +kernel), true, rfl, iteT ?_⟩⟩
    refine ⟨_, rfl, _, rfl, rfl, true, blT rfl, iteT ?_⟩
    refine ⟨_, rfl, .bl b, .ty "bool", .type "bool", .type "bool", true, rfl, .ty _, .base (.bl b), kit_ty (by decide +kernel), _, rfl, .bl b, .ty "bool", .type "bool", .type "bool", true, rfl, .ty _, .base (.bl b), kit_ty (by decide +kernel), rfl, true, by rfl, iteT ?_⟩
    exact ⟨_, rfl, rfl, _, rfl, rfl, rfl, q _ ((same_upd n1).trans (same_upd n2))⟩
  · refine ⟨_, rfl, two_line, fun t1 n1 => ⟨.str z, t1, [.ty "list", .ty "tuple"], .type "str", _, false, rfl, upd_same, .cons (.ty _) (.cons (.ty _) .nil), .base (.str z), kit2F (by decide +kernel) (by decide +kernel), false, rfl, iteF ?_⟩⟩
    refine ⟨_, rfl, rfl, false, by rfl, iteF ?_⟩
    refine ⟨_, rfl, two_line, fun t2 n2 => ⟨.str z, t2, [.ty "bool", .ty "str"], .type "str", _, true, rfl, upd_same, .cons (.ty _) (.cons (.ty _) .nil), .base (.str z), kit2R (by decide +kernel) (by decide +kernel), true, rfl, iteT ?_⟩⟩
    refine ⟨_, rfl, _, rfl, rfl, true, blT rfl, iteT ?_⟩
    refine ⟨_, rfl, .str z, .ty "bool", .type "str", .type "bool", false, rfl, .ty _, .base (.str z), kit_ty (by decide +kernel), _, rfl, .str z, .ty "bool", .type "str", .type "bool", false, rfl, .ty _, .base (.str z), kit_ty (by decide +kernel), rfl, true, by rfl, iteT ?_⟩
    exact ⟨_, rfl, rfl, _, rfl, rfl, rfl, q _ ((same_upd n1).trans (same_upd n2))⟩
theorem ok_same {f : Addr} {fd : FuncData} (F : Fun K "_law_same" "_law_same" sSame f fd) (T : Tx mg) (g : mg "_law_same" = some (.ref f)) (b : Binds K fd ["_law_got", "_law_goal"] []) :
    ∀ n : Nat, FnOk P w K mg base CX0 (n + 1) f fd ["_law_got", "_law_goal"] (spSame n) := by
  intro n
  induction n with
  | zero =>
    refine F.ok scSame (fun vs H Q E h => ?_) (fun cdv A outer s H vs Q E hr h => ?_)
    · obtain ⟨x, y, rfl, _⟩ := h
      rfl
    · obtain ⟨x, y, rfl, ⟨rfl, hx⟩, q⟩ := h
      exact same_flat T hx q
  | succ n G =>
    refine F.ok scSame (fun vs H Q E h => ?_) (fun cdv A outer s H vs Q E hr h => ?_)
    · obtain ⟨x, y, rfl, _⟩ := h
      rfl
    · obtain ⟨x, y, rfl, h, q⟩ := h
      rcases h with ⟨rfl, hx⟩ | ⟨a1, a2, xs, ys, rfl, rfl, hk, hl, h1, he⟩
      · exact same_flat T hx q
      · refine ⟨_, pss_cons (ps_if (pt_val (pe_isi2 T.isi (pv 1) (pe_ty T.list boot_list') (pe_ty T.tuple boot_tuple')))
          (pss_cons (ps_if (pt_or (pt_cmpR op_ne (pe_isi T.isi (pv 0) (pe_ty T.list boot_list')) (pe_isi T.isi (pv 1) (pe_ty T.list boot_list')) (nomark _)) (pt_cmpR op_ne (pe_isi T.isi (pv 0) (pe_ty T.tuple boot_tuple')) (pe_isi T.isi (pv 1) (pe_ty T.tuple boot_tuple')) (nomark _))) pss_never pss_nil)
          (pss_one (ps_ret (pe_and2 (pe_cmpR op_eq (pe_len T.len (pv 0)) (pe_len T.len (pv 1)) (nomark _))
            (pe_callB (cr_all rfl) (by rfl) T.all boot_all' (pa_cons (pe_lc (own := [("_law_mine_so", 2), ("_law_own", 3)]) (g := gTup K 2 (gCons (gName 2) (gCons (gName 3) gNil))) (tt := tYes) rfl scSame.nd (RZ.pi_zipA (by rfl) T.zip (pa_cons (pv 0) (pa_cons (pv 1) pa_nil)))
              (blkOk_by (N := nSame) (sc := defScope sSame) (by decide +kernel)) (fun _ _ _ _ _ => pg_tup rfl (pgs_cons (pg_name (i := 2) scSame.nd rfl (Or.inl rfl)) (pgs_cons (pg_name (i := 3) scSame.nd rfl (Or.inl rfl)) pgs_nil))) (fun _ _ _ _ _ => pts_nil)
              (fun _ _ _ _ _ => pe_call G hr (by rfl) g F.kp b .nil pass0 (pa_cons (pv 2) (pa_cons (pv 3) pa_nil)))) pa_nil)))))) pss_nil) pss_never, ?_⟩
        have eqb : V.bl (decide (V.int (xs.length : Int) = V.int (ys.length : Int))) = V.bl true := blT (by rw [hl])
        -- the turn of the comprehension
        have step : ∀ (H0 : Hp) (D : Addr) (i : Nat) (H1 H2 : Hp), H0 D = none → Same H0 H1 → H1 D = some (.lst ((List.replicate i true).map V.bl)) → i ≤ 100 → Same H1 H2 →
            ∃ acc, H2 D = some (.lst acc) ∧ acc.length < sizeLine ∧ (Same H0 (upd H2 D (.lst (acc ++ [V.bl true]))) ∧ upd H2 D (.lst (acc ++ [V.bl true])) D = some (.lst ((List.replicate (i + 1) true).map V.bl))) := fun H0 D i H1 H2 nD sm eD hi s12 => by
          refine ⟨_, s12 _ _ eD, few (k := 100) (by rw [List.length_map, List.length_replicate]; exact hi), grow nD (sm.trans s12) rfl _, ?_⟩
          rw [upd_same, List.replicate_succ', List.map_append]
          rfl
        have fin : ∀ {H3 : Hp}, Same H H3 → Q (.bl ((List.replicate xs.length true).all id)) H3 := fun {H3} s3 => by
          rw [show (List.replicate xs.length true).all id = true by simp]
          exact q _ s3
        rcases hk with ⟨e1, e2⟩ | ⟨e1, e2⟩
        · refine ⟨_, rfl, two_line, fun t1 n1 => ?_⟩
          have s1 := same_upd (o := .tup [.ty "list", .ty "tuple"]) n1
          have e1' := s1 _ _ e1
          have e2' := s1 _ _ e2
          refine ⟨.ref a2, t1, [.ty "list", .ty "tuple"], .type "list", _, true, rfl, upd_same, .cons (.ty _) (.cons (.ty _) .nil), .base (.lst e2'), kit2L (by decide +kernel), true, rfl, iteT ?_⟩
          refine ⟨_, rfl, .ref a1, .ty "list", .type "list", .type "list", true, rfl, .ty _, .base (.lst e1'), kit_ty (by decide +kernel), _, rfl, .ref a2, .ty "list", .type "list", .type "list", true, rfl, .ty _, .base (.lst e2'), kit_ty (by decide +kernel), rfl, false, by rfl, iteF ?_⟩
          refine ⟨_, rfl, .ref a1, .ty "tuple", .type "list", .type "tuple", false, rfl, .ty _, .base (.lst e1'), kit_ty (by decide +kernel), _, rfl, .ref a2, .ty "tuple", .type "list", .type "tuple", false, rfl, .ty _, .base (.lst e2'), kit_ty (by decide +kernel), rfl, false, by rfl, iteF ?_⟩
          refine ⟨_, rfl, a1, _, rfl, .inl (SqL.of e1'), _, rfl, a2, _, rfl, .inl (SqL.of e2'), rfl, true, eqb, iteT ?_⟩
          refine ⟨_, rfl, _, rfl, a1, a2, xs, ys, rfl, .inl ⟨SqL.of e1', SqL.of e2', fun D nD => ?_⟩⟩
          refine lc_it (walk_zip (n := xs.length) (by omega)) (fun i H' => Same (upd H t1 (.tup [.ty "list", .ty "tuple"])) H' ∧ H' D = some (.lst ((List.replicate i true).map V.bl))) ⟨same_upd nD, upd_same⟩ (fun i H' _ z => ⟨SqL.of (z.1 _ _ e1'), SqL.of (z.1 _ _ e2')⟩) (fun i x H' H2 hi z y => ?_) (fun H' z => ?_)
          · obtain ⟨sm, eD⟩ := z
            obtain ⟨T0, x1, x2, rfl, nT, rfl, g1, g2⟩ := y
            have sT := same_upd (o := .tup [x1, x2]) nT
            refine ⟨T0, _, rfl, SqT.of upd_same, rfl, _, _, rfl, _, _, rfl, rfl, rfl, _, rfl, _, rfl, x1, x2, rfl, (he i x1 x2 g1 g2).same (s1.trans (sm.trans sT)), fun H3 s3 => step _ D i H' H3 nD sm eD (by omega) (sT.trans s3)⟩
          · obtain ⟨sm, eD⟩ := z
            exact ⟨D, _, rfl, SqL.of eD, fin (s1.trans sm)⟩
        · refine ⟨_, rfl, two_line, fun t1 n1 => ?_⟩
          have s1 := same_upd (o := .tup [.ty "list", .ty "tuple"]) n1
          have e1' := s1 _ _ e1
          have e2' := s1 _ _ e2
          refine ⟨.ref a2, t1, [.ty "list", .ty "tuple"], .type "tuple", _, true, rfl, upd_same, .cons (.ty _) (.cons (.ty _) .nil), .base (.tup e2'), kit2R (by decide +kernel) (by decide +kernel), true, rfl, iteT ?_⟩
          refine ⟨_, rfl, .ref a1, .ty "list", .type "tuple", .type "list", false, rfl, .ty _, .base (.tup e1'), kit_ty (by decide +kernel), _, rfl, .ref a2, .ty "list", .type "tuple", .type "list", false, rfl, .ty _, .base (.tup e2'), kit_ty (by decide +kernel), rfl, false, by rfl, iteF ?_⟩
          refine ⟨_, rfl, .ref a1, .ty "tuple", .type "tuple", .type "tuple", true, rfl, .ty _, .base (.tup e1'), kit_ty (by decide +kernel), _, rfl, .ref a2, .ty "tuple", .type "tuple", .type "tuple", true, rfl, .ty _, .base (.tup e2'), kit_ty (by decide +kernel), rfl, false, by rfl, iteF ?_⟩
          refine ⟨_, rfl, a1, _, rfl, .inr (SqT.of e1'), _, rfl, a2, _, rfl, .inr (SqT.of e2'), rfl, true, eqb, iteT ?_⟩
          refine ⟨_, rfl, _, rfl, a1, a2, xs, ys, rfl, .inr ⟨SqT.of e1', SqT.of e2', fun D nD => ?_⟩⟩
          refine lc_it (walk_zipT (n := xs.length) (by omega)) (fun i H' => Same (upd H t1 (.tup [.ty "list", .ty "tuple"])) H' ∧ H' D = some (.lst ((List.replicate i true).map V.bl))) ⟨same_upd nD, upd_same⟩ (fun i H' _ z => ⟨SqT.of (z.1 _ _ e1'), SqT.of (z.1 _ _ e2')⟩) (fun i x H' H2 hi z y => ?_) (fun H' z => ?_)
          · obtain ⟨sm, eD⟩ := z
            obtain ⟨T0, x1, x2, rfl, nT, rfl, g1, g2⟩ := y
            have sT := same_upd (o := .tup [x1, x2]) nT
            refine ⟨T0, _, rfl, SqT.of upd_same, rfl, _, _, rfl, _, _, rfl, rfl, rfl, _, rfl, _, rfl, x1, x2, rfl, (he i x1 x2 g1 g2).same (s1.trans (sm.trans sT)), fun H3 s3 => step _ D i H' H3 nD sm eD (by omega) (sT.trans s3)⟩
          · obtain ⟨sm, eD⟩ := z
            exact ⟨D, _, rfl, SqL.of eD, fin (s1.trans sm)⟩
end
end NS

namespace NS
open PySem PySem.Spec PyProof.Rows L2
/-- a def that stands under its name -/
structure Has (K : PySem.W.Frag) (mg : Str → Option Value) (x : Str) (st : Stmt) (f : Addr) (fd : FuncData) (ps : List Str) : Prop where
  F : Fun K x x st f fd
  g : mg x = some (.ref f)
  b : Binds K fd ps []
/-! ### alike, item by item -/
def Each (n : Nat) (H : Hp) (xs ys : List V) : Prop := xs.length = ys.length ∧ ∀ (i : Nat) (p q : V), xs[i]? = some p → ys[i]? = some q → Alk n H p q
theorem Each.nil {n : Nat} {H : Hp} : Each n H [] [] := ⟨rfl, fun i p q g => nomatch g⟩
theorem Each.cons {n : Nat} {H : Hp} {x y : V} {xs ys : List V} (h : Alk n H x y) (r : Each n H xs ys) : Each n H (x :: xs) (y :: ys) := by
  refine ⟨by rw [List.length_cons, List.length_cons, r.1], fun i p q g1 g2 => ?_⟩
  cases i with
  | zero => cases g1; cases g2; exact h
  | succ i => exact r.2 i p q g1 g2
theorem Alk.flat {n : Nat} {H : Hp} {x : V} (h : FlatS x) : Alk n H x x := by
  cases n with
  | zero => exact ⟨rfl, h⟩
  | succ n => exact .inl ⟨rfl, h⟩
theorem Alk.int {n : Nat} {H : Hp} (i : Int) : Alk n H (.int i) (.int i) := Alk.flat (.inl ⟨i, rfl⟩)
theorem Alk.bl {n : Nat} {H : Hp} (b : Bool) : Alk n H (.bl b) (.bl b) := Alk.flat (.inr (.inl ⟨b, rfl⟩))
theorem Alk.str {n : Nat} {H : Hp} (x : Str) : Alk n H (.str x) (.str x) := Alk.flat (.inr (.inr ⟨x, rfl⟩))
theorem Alk.ofL {n : Nat} {H : Hp} {a b : Addr} {xs ys : List V} (h1 : H a = some (.lst xs)) (h2 : H b = some (.lst ys)) (e : Each n H xs ys) (hl : xs.length ≤ 100) : Alk (n + 1) H (.ref a) (.ref b) :=
  .inr ⟨a, b, xs, ys, rfl, rfl, .inl ⟨h1, h2⟩, e.1, hl, e.2⟩
theorem Alk.ofT {n : Nat} {H : Hp} {a b : Addr} {xs ys : List V} (h1 : H a = some (.tup xs)) (h2 : H b = some (.tup ys)) (e : Each n H xs ys) (hl : xs.length ≤ 100) : Alk (n + 1) H (.ref a) (.ref b) :=
  .inr ⟨a, b, xs, ys, rfl, rfl, .inr ⟨h1, h2⟩, e.1, hl, e.2⟩
theorem Each.ints {n : Nat} {H : Hp} : ∀ ns : List Int, Each n H (ns.map V.int) (ns.map V.int)
  | [] => .nil
  | i :: r => .cons (.int i) (Each.ints r)
theorem Alk.ints {n : Nat} {H : Hp} {a b : Addr} {ns : List Int} (h1 : H a = some (.tup (ns.map V.int))) (h2 : H b = some (.tup (ns.map V.int))) (hl : ns.length ≤ 100) : Alk (n + 1) H (.ref a) (.ref b) :=
  .ofT h1 h2 (Each.ints ns) (by rw [List.length_map]; exact hl)
theorem Alk.intsL {n : Nat} {H : Hp} {a b : Addr} {ns : List Int} (h1 : H a = some (.lst (ns.map V.int))) (h2 : H b = some (.lst (ns.map V.int))) (hl : ns.length ≤ 100) : Alk (n + 1) H (.ref a) (.ref b) :=
  .ofL h1 h2 (Each.ints ns) (by rw [List.length_map]; exact hl)
/-! ### next and last by looking -/
def nextC (ns ls : List Int) (p v : Int) : Bool :=
  (decide (v = (ns.length : Int) + 1) || (List.range ns.length).any fun k => decide (v = (k : Int) + 1) && decide (p < v) && ls.contains (ns.getD k 0)) &&
    (List.range ns.length).all fun k => !(decide (p < (k : Int) + 1) && decide ((k : Int) + 1 < v) && ls.contains (ns.getD k 0))
def lastC (ns ls : List Int) (p v : Int) : Bool :=
  (decide (v = 0) || (List.range ns.length).any fun k => decide (v = (k : Int) + 1) && decide (v < p) && ls.contains (ns.getD k 0)) &&
    (List.range ns.length).all fun k => !(decide (v < (k : Int) + 1) && decide ((k : Int) + 1 < p) && ls.contains (ns.getD k 0))
theorem getD_of {ns : List Int} {k : Nat} {x : Int} (h : ns[k]? = some x) : ns.getD k 0 = x := by
  rw [List.getD_eq_getElem?_getD, h]
  rfl
theorem of_getD {ns : List Int} {k : Nat} (h : k < ns.length) : ns[k]? = some (ns.getD k 0) := by
  rw [List.getD_eq_getElem?_getD, List.getElem?_eq_getElem h]
  rfl
theorem nextC_is {ns ls : List Int} {p v : Int} (h : nextC ns ls p v = true) : IsNext ns p ls v := by
  unfold nextC at h
  rw [Bool.and_eq_true, Bool.or_eq_true, decide_eq_true_eq, List.any_eq_true, List.all_eq_true] at h
  obtain ⟨h1, h2⟩ := h
  refine ⟨h1.imp_right ?_, fun k x e p1 p2 hx => ?_⟩
  · rintro ⟨k, hk, h⟩
    rw [Bool.and_eq_true, Bool.and_eq_true, decide_eq_true_eq, decide_eq_true_eq, List.contains_iff_mem] at h
    exact ⟨k, _, of_getD (List.mem_range.mp hk), h.1.1, h.1.2, h.2⟩
  · have z := h2 k (List.mem_range.mpr (get_lt e))
    rw [getD_of e, decide_eq_true p1, decide_eq_true p2, List.contains_iff_mem.mpr hx] at z
    cases z
theorem lastC_is {ns ls : List Int} {p v : Int} (h : lastC ns ls p v = true) : IsLast ns p ls v := by
  unfold lastC at h
  rw [Bool.and_eq_true, Bool.or_eq_true, decide_eq_true_eq, List.any_eq_true, List.all_eq_true] at h
  obtain ⟨h1, h2⟩ := h
  refine ⟨h1.imp_right ?_, fun k x e p1 p2 hx => ?_⟩
  · rintro ⟨k, hk, h⟩
    rw [Bool.and_eq_true, Bool.and_eq_true, decide_eq_true_eq, decide_eq_true_eq, List.contains_iff_mem] at h
    exact ⟨k, _, of_getD (List.mem_range.mp hk), h.1.1, h.1.2, h.2⟩
  · have z := h2 k (List.mem_range.mpr (get_lt e))
    rw [getD_of e, decide_eq_true p1, decide_eq_true p2, List.contains_iff_mem.mpr hx] at z
    cases z
abbrev rowH : List Int := [2, 1, 3, 1]
abbrev nextH : List Int := [2, 2, 4, 4, 5, 5]
abbrev lastH : List Int := [0, 0, 1, 1, 3, 3]
theorem next_hand : ∀ i : Nat, i < 6 → nextC rowH [1] (i : Int) (nextH.getD i 0) = true := by decide
theorem last_hand : ∀ i : Nat, i < 6 → lastC rowH [2, 3] (i : Int) (lastH.getD i 0) = true := by decide
theorem setOf_self {l : List Int} (h : l.Pairwise (· < ·)) : SetOf l l := ⟨h, fun _ => Iff.rfl⟩
/-- a turn of a comprehension over known ints -/
theorem kstep {vals : List Int} {H0 : Hp} {D : Addr} {i : Nat} {v : Int} {H1 H2 : Hp} (nD : H0 D = none) (hl : vals.length ≤ 100) (s : Same H0 H1) (eD : H1 D = some (.lst ((vals.take i).map V.int))) (s12 : Same H1 H2) (hv : vals[i]? = some v) :
    ∃ acc, H2 D = some (.lst acc) ∧ acc.length < sizeLine ∧ (Same H0 (upd H2 D (.lst (acc ++ [V.int v]))) ∧ upd H2 D (.lst (acc ++ [V.int v])) D = some (.lst ((vals.take (i + 1)).map V.int))) := by
  refine ⟨_, s12 _ _ eD, few (k := 100) ?_, grow nD (s.trans s12) rfl _, ?_⟩
  · rw [List.length_map, List.length_take]
    exact Nat.le_trans (Nat.min_le_right _ _) hl
  · rw [upd_same, take_more hv, List.map_append]
    rfl
section
variable {P : Program} {w : World} {K : PySem.W.Frag} {mg : Str → Option Value} {base : Heap}
/-! ### _law_by_hand_right -/
def spHand : Sp := fun vs H Q _ => vs = [] ∧ ∀ H', Same H H' → Q (.bl true) H'
theorem ok_hand {f fNx fLa fB fC fSh fLC fSm fS fN fT C fI : Addr} {fd fdNx fdLa fdB fdC fdSh fdLC fdSm fdS fdN fdT : FuncData} (F : Fun K "_law_by_hand_right" "_law_by_hand_right" sHand f fd)
    (Nx : Has K mg "next_place" sNext fNx fdNx ["text", "place", "letters"]) (La : Has K mg "last_place" sLast fLa fdLa ["text", "place", "letters"]) (B : Has K mg "between" sBetw fB fdB ["text", "near", "far"])
    (Ch : Has K mg "changed" sChg fC fdC ["text", "change"]) (Sh : Has K mg "shorter" sShort fSh fdSh ["one", "other"]) (LC : Has K mg "_law_changed" sLChg fLC fdLC ["_law_text_here", "_law_change"]) (Sm : Has K mg "_law_same" sSame fSm fdSm ["_law_got", "_law_goal"])
    (Su : Has K mg "sure_place" sSure fS fdS ["text", "place"]) (Nu : Has K mg "is_number" sNum fN fdN ["thing"]) (To : Has K mg "tuple_of" sTof fT fdT ["thing"]) (N : PySem.NpX.NpTxt K mg C fI) (T : Tx mg) : FnOk P w K mg base CX0 5 f fd [] spHand := by
  have GNx : FnOk P w K mg base CX0 4 fNx fdNx ["text", "place", "letters"] spNext := (ok_next Nx.F Su.F Su.g Su.b Nu.F Nu.g Nu.b T).mono (by decide)
  have GLa : FnOk P w K mg base CX0 4 fLa fdLa ["text", "place", "letters"] spLast := (ok_last La.F Su.F Su.g Su.b Nu.F Nu.g Nu.b T).mono (by decide)
  have GB : FnOk P w K mg base CX0 4 fB fdB ["text", "near", "far"] spBetw := (ok_betw B.F Su.F Su.g Su.b Nu.F Nu.g Nu.b T).mono (by decide)
  have GC : FnOk P w K mg base (L2.CX P w) 4 fC fdC ["text", "change"] (spChg C) := (ok_chg Ch.F To.F To.g To.b N T).mono (by decide)
  have GSh : FnOk P w K mg base CX0 4 fSh fdSh ["one", "other"] spShort := (ok_short Sh.F To.F To.g To.b T).mono (by decide)
  have GLC : FnOk P w K mg base CX0 4 fLC fdLC ["_law_text_here", "_law_change"] spLChg := ok_lchg LC.F Ch.F Ch.g Ch.b To.F To.g To.b N T
  have GSm : FnOk P w K mg base CX0 4 fSm fdSm ["_law_got", "_law_goal"] (spSame 2) := (ok_same Sm.F T Sm.g Sm.b 2).mono (by decide)
  refine F.ok scHand (fun vs H Q E h => ?_) (fun cdv A outer s H vs Q E hr h => ?_)
  · obtain ⟨rfl, _⟩ := h
    rfl
  · obtain ⟨rfl, q⟩ := h
    refine ⟨_, pss_cons (ps_set (i := 0) scHand.nd rfl (Or.inr rfl) (pe_tup (pa_cons pe_int (pa_cons pe_int (pa_cons pe_int (pa_cons pe_int pa_nil))))))
      (pss_cons (ps_set (i := 1) scHand.nd rfl (Or.inl rfl) (pe_lst
        (pa_cons (pe_lc (own := [("_law_own", 2)]) (g := gName 2) (tt := tYes) rfl scHand.nd (pi_range1 (by rfl) T.range (pa_cons pe_int pa_nil)) (blkOk_by (N := ["_law_row", "_law_got", "_law_own"]) (sc := defScope sHand) (by decide +kernel))
            (fun _ _ _ _ _ => pg_name (i := 2) scHand.nd rfl (Or.inl rfl)) (fun _ _ _ _ _ => pts_nil)
            (fun _ _ _ _ _ => pe_call GNx hr (by rfl) Nx.g Nx.F.kp Nx.b .nil pass0 (pa_cons (pv 0) (pa_cons (pv 2) (pa_cons (pe_tup (pa_cons pe_int pa_nil)) pa_nil)))))
        (pa_cons (pe_lc (own := [("_law_own", 2)]) (g := gName 2) (tt := tYes) rfl scHand.nd (pi_range1 (by rfl) T.range (pa_cons pe_int pa_nil)) (blkOk_by (N := ["_law_row", "_law_got", "_law_own"]) (sc := defScope sHand) (by decide +kernel))
            (fun _ _ _ _ _ => pg_name (i := 2) scHand.nd rfl (Or.inl rfl)) (fun _ _ _ _ _ => pts_nil)
            (fun _ _ _ _ _ => pe_call GLa hr (by rfl) La.g La.F.kp La.b .nil pass0 (pa_cons (pv 0) (pa_cons (pv 2) (pa_cons (pe_tup (pa_cons pe_int (pa_cons pe_int pa_nil))) pa_nil)))))
        (pa_cons (pe_call GB hr (by rfl) B.g B.F.kp B.b .nil pass0 (pa_cons (pv 0) (pa_cons pe_int (pa_cons pe_int pa_nil))))
        (pa_cons (pe_call GB hr (by rfl) B.g B.F.kp B.b .nil pass0 (pa_cons (pv 0) (pa_cons pe_int (pa_cons pe_int pa_nil))))
        (pa_cons (pe_call GC hr (by rfl) Ch.g Ch.F.kp Ch.b .nil passL (pa_cons (pv 0) (pa_cons (pe_tup (pa_cons pe_str (pa_cons pe_int (pa_cons pe_int pa_nil)))) pa_nil)))
        (pa_cons (pe_call GC hr (by rfl) Ch.g Ch.F.kp Ch.b .nil passL (pa_cons (pv 0) (pa_cons (pe_tup (pa_cons pe_str (pa_cons pe_int pa_nil))) pa_nil)))
        (pa_cons (pe_call GC hr (by rfl) Ch.g Ch.F.kp Ch.b .nil passL (pa_cons (pv 0) (pa_cons (pe_tup (pa_cons pe_str (pa_cons pe_int (pa_cons pe_int pa_nil)))) pa_nil)))
        (pa_cons (pe_call GSh hr (by rfl) Sh.g Sh.F.kp Sh.b .nil pass0 (pa_cons (pe_tup (pa_cons pe_int pa_nil)) (pa_cons (pe_tup (pa_cons pe_int (pa_cons pe_int pa_nil))) pa_nil)))
        (pa_cons (pe_call GSh hr (by rfl) Sh.g Sh.F.kp Sh.b .nil pass0 (pa_cons (pe_tup (pa_cons pe_int (pa_cons pe_int pa_nil))) (pa_cons (pe_tup (pa_cons pe_int (pa_cons pe_int pa_nil))) pa_nil)))
        (pa_cons (pe_call GLC hr (by rfl) LC.g LC.F.kp LC.b .nil pass0 (pa_cons (pv 0) (pa_cons (pe_tup (pa_cons pe_str (pa_cons pe_int pa_nil))) pa_nil)))
        pa_nil))))))))))))
      (pss_one (ps_ret (pe_call GSm hr (by rfl) Sm.g Sm.F.kp Sm.b .nil pass0 (pa_cons (pv 1) (pa_cons (pe_lst
        (pa_cons (pe_lst (pa_cons pe_int (pa_cons pe_int (pa_cons pe_int (pa_cons pe_int (pa_cons pe_int (pa_cons pe_int pa_nil)))))))
        (pa_cons (pe_lst (pa_cons pe_int (pa_cons pe_int (pa_cons pe_int (pa_cons pe_int (pa_cons pe_int (pa_cons pe_int pa_nil)))))))
        (pa_cons (pe_tup (pa_cons pe_int (pa_cons pe_int pa_nil)))
        (pa_cons (pe_tup pa_nil)
        (pa_cons (pe_tup (pa_cons pe_int (pa_cons pe_int (pa_cons pe_int (pa_cons pe_int (pa_cons pe_int pa_nil))))))
        (pa_cons (pe_tup (pa_cons pe_int (pa_cons pe_int (pa_cons pe_int pa_nil))))
        (pa_cons (pe_tup (pa_cons pe_int (pa_cons pe_int (pa_cons pe_int (pa_cons pe_int pa_nil)))))
        (pa_cons pe_bl (pa_cons pe_bl (pa_cons (pe_lst (pa_cons pe_str (pa_cons pe_int pa_nil))) pa_nil))))))))))) pa_nil)))))), ?_⟩
    have z6 : ∀ {n : Nat}, n ≤ 12 → n ≤ sizeLine := fun h => Nat.le_of_lt (few h)
    refine ⟨z6 (by decide), fun r nr => ?_⟩
    have s1 : Same H (upd H r (.tup (rowH.map V.int))) := same_upd nr
    have er : upd H r (.tup (rowH.map V.int)) r = some (.tup (rowH.map V.int)) := upd_same
    -- the places next
    refine ⟨6, rfl, by decide, by decide, fun D1 n1 => ?_⟩
    refine lc_range (lo := 0) (n := (6 : Int).toNat) (fun i H' => Same (upd H r (.tup (rowH.map V.int))) H' ∧ H' D1 = some (.lst ((nextH.take i).map V.int))) ⟨same_upd n1, upd_same⟩ (fun i H' hi z => ?_) (fun H3 z => ?_)
    · obtain ⟨sm, eD⟩ := z
      refine ⟨rfl, _, rfl, _, rfl, z6 (by decide), fun t nt => ?_⟩
      have st := same_upd (o := .tup [.int 1]) nt
      refine ⟨r, t, rowH, [1], _, rfl, .inr (st _ _ (sm _ _ er)), .inr upd_same, by omega, by show (0 : Int) + (i : Int) ≤ 5; have : i < 6 := hi; omega, by decide, fun v hv => ?_⟩
      have hi6 : i < 6 := hi
      have hv' : IsNext rowH (0 + (i : Int)) [1] v := hv
      rw [Int.zero_add] at hv'
      have ev := hv'.uniq (nextC_is (next_hand i hi6))
      exact kstep n1 (by decide) sm eD st (by rw [ev]; exact of_getD (ns := nextH) hi6)
    obtain ⟨sm3, e1⟩ := z
    have e1' : H3 D1 = some (.lst (nextH.map V.int)) := e1
    -- the places last
    refine ⟨6, rfl, by decide, by decide, fun D2 n2 => ?_⟩
    refine lc_range (lo := 0) (n := (6 : Int).toNat) (fun i H' => Same H3 H' ∧ H' D2 = some (.lst ((lastH.take i).map V.int))) ⟨same_upd n2, upd_same⟩ (fun i H' hi z => ?_) (fun H4 z => ?_)
    · obtain ⟨sm, eD⟩ := z
      refine ⟨rfl, _, rfl, _, rfl, z6 (by decide), fun t nt => ?_⟩
      have st := same_upd (o := .tup [.int 2, .int 3]) nt
      refine ⟨r, t, rowH, [2, 3], _, rfl, .inr (st _ _ (sm _ _ (sm3 _ _ er))), .inr upd_same, by omega, by show (0 : Int) + (i : Int) ≤ 5; have : i < 6 := hi; omega, by decide, fun v hv => ?_⟩
      have hi6 : i < 6 := hi
      have hv' : IsLast rowH (0 + (i : Int)) [2, 3] v := hv
      rw [Int.zero_add] at hv'
      have ev := hv'.uniq (lastC_is (last_hand i hi6))
      exact kstep n2 (by decide) sm eD st (by rw [ev]; exact of_getD (ns := lastH) hi6)
    obtain ⟨sm4, e2⟩ := z
    have e2' : H4 D2 = some (.lst (lastH.map V.int)) := e2
    have er4 := sm4 _ _ (sm3 _ _ er)
    -- between, twice
    refine ⟨_, rfl, r, rowH, 1, 4, rfl, .inr er4, by decide, by decide, by decide, by decide, by decide, fun H5 p5 rs5 s5 ep5 h5 => ?_⟩
    have f5 : rs5 = [1, 3] := h5.uniq (setOf_self (l := [1, 3]) (by decide))
    subst f5
    refine ⟨_, rfl, r, rowH, 4, 1, rfl, .inr (s5 _ _ er4), by decide, by decide, by decide, by decide, by decide, fun H6 p6 rs6 s6 ep6 h6 => ?_⟩
    have f6 : rs6 = [] := h6.uniq (setOf_self (l := []) (by decide))
    subst f6
    have er6 := s6 _ _ (s5 _ _ er4)
    -- changed, thrice
    refine ⟨_, rfl, z6 (by decide), fun t7 n7 => ?_⟩
    have u7 := same_upd (o := .tup (Chg.put 2 3).xs) n7
    refine ⟨r, t7, rowH, .put 2 3, rfl, .inr (u7 _ _ er6), .inr upd_same, by decide, by decide, fun _ H7 p7 s7 ep7 => ?_, fun nf => absurd (by decide : (2 : Int) ≤ 4 + 1) nf⟩
    have er7 := s7 _ _ (u7 _ _ er6)
    refine ⟨_, rfl, z6 (by decide), fun t8 n8 => ?_⟩
    have u8 := same_upd (o := .tup (Chg.drop 1).xs) n8
    refine ⟨r, t8, rowH, .drop 1, rfl, .inr (u8 _ _ er7), .inr upd_same, by decide, by decide, fun _ H8 p8 s8 ep8 => ?_, fun nf => absurd (by decide : (1 : Int) ≤ 4) nf⟩
    have er8 := s8 _ _ (u8 _ _ er7)
    refine ⟨_, rfl, z6 (by decide), fun t9 n9 => ?_⟩
    have u9 := same_upd (o := .tup (Chg.turn 4 2).xs) n9
    refine ⟨r, t9, rowH, .turn 4 2, rfl, .inr (u9 _ _ er8), .inr upd_same, by decide, by decide, fun _ H9 p9 s9 ep9 => ?_, fun nf => absurd (by decide : (4 : Int) ≤ 4) nf⟩
    have er9 := s9 _ _ (u9 _ _ er8)
    -- shorter, twice
    refine ⟨z6 (by decide), fun ta na => ⟨z6 (by decide), fun tb nb => ?_⟩⟩
    have ua := same_upd (o := .tup [.int 3]) na
    have ub := same_upd (o := .tup [.int 1, .int 1]) nb
    refine ⟨ta, tb, [3], [1, 1], rfl, .inr (ub _ _ upd_same), .inr upd_same, by decide, by decide, fun H10 s10 => ?_⟩
    refine ⟨z6 (by decide), fun tc nc => ⟨z6 (by decide), fun td nd => ?_⟩⟩
    have uc := same_upd (o := .tup [.int 1, .int 1]) nc
    have ud := same_upd (o := .tup [.int 1, .int 1]) nd
    refine ⟨tc, td, [1, 1], [1, 1], rfl, .inr (ud _ _ upd_same), .inr upd_same, by decide, by decide, fun H11 s11 => ?_⟩
    have sab : Same H9 H11 := (ua.trans (ub.trans s10)).trans (uc.trans (ud.trans s11))
    -- _law_changed
    refine ⟨_, rfl, z6 (by decide), fun te ne => ?_⟩
    have ue := same_upd (o := .tup (Chg.drop 5).xs) ne
    refine ⟨r, te, rowH, .drop 5, rfl, .inr (ue _ _ (sab _ _ er9)), .inr upd_same, by decide, by decide, fun H12 v12 s12 o12 => ?_⟩
    obtain ⟨p12, rfl, ⟨hf, _⟩ | ⟨_, ep12⟩⟩ := o12
    · exact absurd hf (by decide : ¬ (5 : Int) ≤ 4)
    refine ⟨z6 (show 10 ≤ 12 by decide), fun g ng => ?_⟩
    have ug := same_upd (o := .lst [.ref D1, .ref D2, .ref p5, .ref p6, .ref p7, .ref p8, .ref p9, .bl true, .bl false, .ref p12]) ng
    -- the goal
    refine ⟨_, rfl, z6 (show 6 ≤ 12 by decide), fun k1 m1 => ?_⟩
    have v1 := same_upd (o := .lst (nextH.map V.int)) m1
    refine ⟨z6 (show 6 ≤ 12 by decide), fun k2 m2 => ?_⟩
    have v2 := same_upd (o := .lst (lastH.map V.int)) m2
    refine ⟨z6 (show 2 ≤ 12 by decide), fun k3 m3 => ?_⟩
    have v3 := same_upd (o := .tup (([1, 3] : List Int).map V.int)) m3
    refine ⟨z6 (show 0 ≤ 12 by decide), fun k4 m4 => ?_⟩
    have v4 := same_upd (o := .tup (([] : List Int).map V.int)) m4
    refine ⟨z6 (show 5 ≤ 12 by decide), fun k5 m5 => ?_⟩
    have v5 := same_upd (o := .tup (((Chg.put 2 3).out rowH).map V.int)) m5
    refine ⟨z6 (show 3 ≤ 12 by decide), fun k6 m6 => ?_⟩
    have v6 := same_upd (o := .tup (((Chg.drop 1).out rowH).map V.int)) m6
    refine ⟨z6 (show 4 ≤ 12 by decide), fun k7 m7 => ?_⟩
    have v7 := same_upd (o := .tup (((Chg.turn 4 2).out rowH).map V.int)) m7
    refine ⟨z6 (show 2 ≤ 12 by decide), fun k10 m10 => ?_⟩
    have v10 := same_upd (o := .lst [.str "place", .int 5]) m10
    refine ⟨z6 (show 10 ≤ 12 by decide), fun k mk => ?_⟩
    have vk := same_upd (o := .lst [.ref k1, .ref k2, .ref k3, .ref k4, .ref k5, .ref k6, .ref k7, .bl true, .bl false, .ref k10]) mk
    have c7 := v10.trans vk
    have c6 := v7.trans c7
    have c5 := v6.trans c6
    have c4 := v5.trans c5
    have c3 := v4.trans c4
    have c2 := v3.trans c3
    have c1 := v2.trans c2
    have cg := v1.trans c1
    have d12 := ug.trans cg
    have d11 := ue.trans (s12.trans d12)
    have d9 := sab.trans d11
    have d8 := u9.trans (s9.trans d9)
    have d7 := u8.trans (s8.trans d8)
    have d6 := u7.trans (s7.trans d7)
    have d5 := s6.trans d6
    have d4 := s5.trans d5
    have d3 := sm4.trans d4
    refine ⟨.ref g, .ref k, rfl, Alk.ofL (cg _ _ upd_same) upd_same ?_ (by show 10 ≤ 100; decide), fun H' s => q H' (s1.trans (sm3.trans (d3.trans s)))⟩
    refine .cons (Alk.intsL (d3 _ _ e1') (c1 _ _ upd_same) (by decide)) (.cons (Alk.intsL (d4 _ _ e2') (c2 _ _ upd_same) (by decide)) (.cons (Alk.ints (d5 _ _ ep5) (c3 _ _ upd_same) (by decide)) (.cons (Alk.ints (d6 _ _ ep6) (c4 _ _ upd_same) (by decide))
      (.cons (Alk.ints (d7 _ _ ep7) (c5 _ _ upd_same) (by decide)) (.cons (Alk.ints (d8 _ _ ep8) (c6 _ _ upd_same) (by decide)) (.cons (Alk.ints (d9 _ _ ep9) (c7 _ _ upd_same) (by decide)) (.cons (.bl true) (.cons (.bl false) (.cons ?_ .nil)))))))))
    exact Alk.ofL (d12 _ _ ep12) (vk _ _ upd_same) (.cons (.str _) (.cons (.int 5) .nil)) (by show 2 ≤ 100; decide)
end
end NS

namespace NS
open PySem PySem.Spec PyProof.Rows L2
/-- what stands all the while -/
structure Stand (H : Hp) (u : Addr) (k : Nat) (a o l m b : Addr) (ns os ls ms bs : List Int) : Prop where
  urn : Urn H u k
  tx : H a = some (.tup (ns.map V.int))
  ot : H o = some (.tup (os.map V.int))
  lt : H l = some (.tup (ls.map V.int))
  mo : H m = some (.tup (ms.map V.int))
  bo : H b = some (.tup (bs.map V.int))
theorem Stand.but {H H' : Hp} {u a o l m b : Addr} {j k : Nat} {ns os ls ms bs : List Int} (h : Stand H u j a o l m b ns os ls ms bs) (z : But u H H') (hu : Urn H' u k) : Stand H' u k a o l m b ns os ls ms bs :=
  ⟨hu, h.urn.tup z h.tx, h.urn.tup z h.ot, h.urn.tup z h.lt, h.urn.tup z h.mo, h.urn.tup z h.bo⟩
theorem Stand.same {H H' : Hp} {u a o l m b : Addr} {k : Nat} {ns os ls ms bs : List Int} (h : Stand H u k a o l m b ns os ls ms bs) (s : Same H H') : Stand H' u k a o l m b ns os ls ms bs :=
  ⟨h.urn.same s, s _ _ h.tx, s _ _ h.ot, s _ _ h.lt, s _ _ h.mo, s _ _ h.bo⟩
theorem Stand.mono {H : Hp} {u a o l m b : Addr} {j k : Nat} {ns os ls ms bs : List Int} (h : Stand H u j a o l m b ns os ls ms bs) (z : j ≤ k) : Stand H u k a o l m b ns os ls ms bs := ⟨h.urn.mono z, h.tx, h.ot, h.lt, h.mo, h.bo⟩
/-- the names while the loops run -/
def Shp (u a o l m b : Addr) (wd sz : Int) (σ : L2.St) : Prop := ∃ y8 y9 y10 y11 y12 y13 y14 : Option V,
  σ = [some (.ref u), some (.int wd), some (.ref a), some (.ref o), some (.int sz), some (.ref l), some (.ref m), some (.ref b), y8, y9, y10, y11, y12, y13, y14, none, none, none]
theorem txt_less {wd : Int} {ns : List Int} (h1 : 1 ≤ wd) (hw : wd ≠ 1) (h : isTxt wd ns = true) : isTxt (if wd - 1 > 1 then wd - 1 else 1) ns = !decide (wd ∈ ns) := by
  unfold isTxt at *
  rw [List.all_eq_true] at h
  rw [Bool.eq_iff_iff, List.all_eq_true, Bool.not_eq_true', decide_eq_false_iff_not]
  constructor
  · intro z hm
    have := of_decide_eq_true (z wd hm)
    split at this <;> omega
  · intro hm n hn
    have z := of_decide_eq_true (h n hn)
    have nw : n ≠ wd := fun e => hm (by rw [← e]; exact hn)
    apply decide_eq_true
    split <;> omega
theorem setOf_txt {wd : Int} {bs ls ms : List Int} (h : SetOf bs (ls ++ ms)) (h1 : isTxt wd ls = true) (h2 : isTxt wd ms = true) : isTxt wd bs = true := by
  unfold isTxt at *
  rw [List.all_eq_true] at *
  intro n hn
  rcases List.mem_append.mp ((h.2 n).mp hn) with z | z
  · exact h1 n z
  · exact h2 n z
theorem setOf_some {bs ls ms : List Int} (h : SetOf bs (ls ++ ms)) (h1 : ls ≠ []) : bs ≠ [] := by
  intro e
  cases ls with
  | nil => exact h1 rfl
  | cons x r =>
    have z := (h.2 x).mpr (by simp)
    rw [e] at z
    cases z
theorem out_len (ns : List Int) (c : Chg) : (c.out ns).length ≤ ns.length + 1 := by
  cases c <;> (unfold Chg.out; simp only [List.length_append, List.length_take, List.length_drop, List.length_cons, List.length_nil]; omega)
/-- two outcomes of one change are alike -/
theorem Outc.alk {H : Hp} {v x : V} {ns : List Int} {c : Chg} (h1 : Outc H v ns c) (h2 : Outc H x ns c) (hl : ns.length ≤ 60) : Alk 1 H v x := by
  obtain ⟨p, rfl, h1⟩ := h1
  obtain ⟨q, rfl, h2⟩ := h2
  have z := out_len ns c
  rcases h1 with ⟨f1, e1⟩ | ⟨f1, e1⟩
  · rcases h2 with ⟨f2, e2⟩ | ⟨f2, e2⟩
    · exact Alk.ints e1 e2 (by omega)
    · exact absurd f1 f2
  · rcases h2 with ⟨f2, e2⟩ | ⟨f2, e2⟩
    · exact absurd f2 f1
    · exact Alk.ofL e1 e2 (.cons (.str _) (.cons (.int _) .nil)) (by show 2 ≤ 100; decide)
/-- the defs under their names -/
structure Lib (K : PySem.W.Frag) (mg : Str → Option Value) : Prop where
  nu : ∃ f fd, Has K mg "is_number" sNum f fd ["thing"]
  to : ∃ f fd, Has K mg "tuple_of" sTof f fd ["thing"]
  ito : ∃ f fd, Has K mg "is_tuple_of" sIto f fd ["thing", "many"]
  le : ∃ f fd, Has K mg "is_letter" sLet f fd ["wide", "thing"]
  te : ∃ f fd, Has K mg "is_text" sTxt f fd ["wide", "thing"]
  lts : ∃ f fd, Has K mg "is_letters" sLts f fd ["wide", "thing"]
  ich : ∃ f fd, Has K mg "is_change" sIch f fd ["wide", "thing"]
  su : ∃ f fd, Has K mg "sure_place" sSure f fd ["text", "place"]
  nx : ∃ f fd, Has K mg "next_place" sNext f fd ["text", "place", "letters"]
  la : ∃ f fd, Has K mg "last_place" sLast f fd ["text", "place", "letters"]
  be : ∃ f fd, Has K mg "between" sBetw f fd ["text", "near", "far"]
  ch : ∃ f fd, Has K mg "changed" sChg f fd ["text", "change"]
  sh : ∃ f fd, Has K mg "shorter" sShort f fd ["one", "other"]
  bx : ∃ f fd, Has K mg "_law_box" sBox f fd ["_law_script", "_law_k"]
  ta : ∃ f fd, Has K mg "_law_take" sTake f fd ["_law_urn", "_law_low_so"]
  ce : ∃ f fd, Has K mg "_law_cells" sCells f fd ["_law_script", "_law_top"]
  sm : ∃ f fd, Has K mg "_law_same" sSame f fd ["_law_got", "_law_goal"]
  ow : ∃ f fd, Has K mg "_law_of" sOf f fd ["_law_urn", "_law_goods"]
  tt : ∃ f fd, Has K mg "_law_text" sText f fd ["_law_urn", "_law_wide", "_law_most"]
  ll : ∃ f fd, Has K mg "_law_letters" sLetters f fd ["_law_urn", "_law_wide"]
  ln : ∃ f fd, Has K mg "_law_next" sLNext f fd ["_law_text_here", "_law_place", "_law_letters_here"]
  lz : ∃ f fd, Has K mg "_law_last" sLLast f fd ["_law_text_here", "_law_place", "_law_letters_here"]
  lc : ∃ f fd, Has K mg "_law_changed" sLChg f fd ["_law_text_here", "_law_change"]
  du : ∃ f fd, Has K mg "_law_due" sDue f fd ["_law_text_here", "_law_change"]
  ri : ∃ f fd, Has K mg "_law_right" sRight f fd ["_law_urn"]
  ha : ∃ f fd, Has K mg "_law_by_hand_right" sHand f fd []
def rTupOf (K : PySem.W.Frag) : List V → Hp → VK → Prop := fun xs H Q => ∃ p ys, xs = [V.ref p] ∧ ((SqL K H p ys ∧ ∀ l, H l = none → Q (.ref l) (upd H l (.tup ys))) ∨ (SqT K H p ys ∧ Q (.ref p) H))
/-- tuple(sorted(set(e))) -/
abbrev tSstE (K : PySem.W.Frag) (w : World) (te : TE) : TE := tCB (rTupOf K) (tCons (tCB (rSortedSet w) (tCons (tCB (rSetI K w) (tCons te tNil)) tNil)) tNil)
theorem seqSst {K : PySem.W.Frag} {w : World} {te : TE} {g : TG} {U : TS} {D : Ends} {σ : L2.St} {H : Hp} (h : te σ H fun v H1 => rSetI K w [v] H1 fun y H2 => rSortedSet w [y] H2 fun z H3 => rTupOf K [z] H3 fun x H4 => g x σ H4 (U D)) :
    tSeq (tAsg (tSstE K w te) g) U D σ H := h
theorem lstSst {K : PySem.W.Frag} {w : World} {te : TE} {ts : TA} {σ : L2.St} {H : Hp} {Q : VK} (h : te σ H fun v H1 => rSetI K w [v] H1 fun y H2 => rSortedSet w [y] H2 fun z H3 => rTupOf K [z] H3 fun x H4 => ts σ H4 fun xs H5 => (x :: xs).length ≤ sizeLine ∧ ∀ p, H5 p = none → Q (.ref p) (upd H5 p (.lst (x :: xs)))) :
    tLst (tCons (tSstE K w te) ts) σ H Q := h
theorem conSst {K : PySem.W.Frag} {w : World} {te : TE} {ts : TA} {σ : L2.St} {H : Hp} {Q : List V → Hp → Prop} (h : te σ H fun v H1 => rSetI K w [v] H1 fun y H2 => rSortedSet w [y] H2 fun z H3 => rTupOf K [z] H3 fun x H4 => ts σ H4 fun xs H5 => Q (x :: xs) H5) :
    tCons (tSstE K w te) ts σ H Q := h
theorem sstQ {K : PySem.W.Frag} {w : World} {H : Hp} {a : Addr} {ns : List Int} {Q : VK} (h : Sq H a (ns.map V.int)) (hl : ns.length < 63)
    (q : ∀ (H' : Hp) (p : Addr) (rs : List Int), Same H H' → H' p = some (.tup (rs.map V.int)) → SetOf rs ns → Q (.ref p) H') :
    rSetI K w [.ref a] H fun y H2 => rSortedSet w [y] H2 fun z H3 => rTupOf K [z] H3 Q := sst h hl fun H' p rs s _ e hs => q H' p rs s e hs
section
variable {P : Program} {w : World} {K : PySem.W.Frag} {mg : Str → Option Value} {base : Heap}
/-! ### _law_right -/
def spRight : Sp := fun vs H Q _ => ∃ u : Addr, vs = [.ref u] ∧ Urn H u 0 ∧ ∀ H', Q (.bl true) H'
theorem ok_right {f C fI : Addr} {fd : FuncData} (F : Fun K "_law_right" "_law_right" sRight f fd) (L : Lib K mg) (N : PySem.NpX.NpTxt K mg C fI) (T : Tx mg) : FnOk P w K mg base CX0 5 f fd ["_law_urn"] spRight := by
  obtain ⟨fNu, fdNu, Nu⟩ := L.nu
  obtain ⟨fTo, fdTo, To⟩ := L.to
  obtain ⟨fIt, fdIt, It⟩ := L.ito
  obtain ⟨fLe, fdLe, Le⟩ := L.le
  obtain ⟨fTe, fdTe, Te⟩ := L.te
  obtain ⟨fLs, fdLs, Ls⟩ := L.lts
  obtain ⟨fIc, fdIc, Ic⟩ := L.ich
  obtain ⟨fSu, fdSu, Su⟩ := L.su
  obtain ⟨fNx, fdNx, Nx⟩ := L.nx
  obtain ⟨fLa, fdLa, La⟩ := L.la
  obtain ⟨fB, fdB, B⟩ := L.be
  obtain ⟨fC, fdC, Ch⟩ := L.ch
  obtain ⟨fSh, fdSh, Sh⟩ := L.sh
  obtain ⟨fTa, fdTa, Ta⟩ := L.ta
  obtain ⟨fSm, fdSm, Sm⟩ := L.sm
  obtain ⟨fO, fdO, Ow⟩ := L.ow
  obtain ⟨fTt, fdTt, Tt⟩ := L.tt
  obtain ⟨fLl, fdLl, Ll⟩ := L.ll
  obtain ⟨fLn, fdLn, Ln⟩ := L.ln
  obtain ⟨fLz, fdLz, Lz⟩ := L.lz
  obtain ⟨fLC, fdLC, LC⟩ := L.lc
  obtain ⟨fDu, fdDu, Du⟩ := L.du
  have GNx : FnOk P w K mg base CX0 4 fNx fdNx ["text", "place", "letters"] spNext := (ok_next Nx.F Su.F Su.g Su.b Nu.F Nu.g Nu.b T).mono (by decide)
  have GLa : FnOk P w K mg base CX0 4 fLa fdLa ["text", "place", "letters"] spLast := (ok_last La.F Su.F Su.g Su.b Nu.F Nu.g Nu.b T).mono (by decide)
  have GB : FnOk P w K mg base CX0 4 fB fdB ["text", "near", "far"] spBetw := (ok_betw B.F Su.F Su.g Su.b Nu.F Nu.g Nu.b T).mono (by decide)
  have GSh : FnOk P w K mg base CX0 4 fSh fdSh ["one", "other"] spShort := (ok_short Sh.F To.F To.g To.b T).mono (by decide)
  have GLC : FnOk P w K mg base CX0 4 fLC fdLC ["_law_text_here", "_law_change"] spLChg := ok_lchg LC.F Ch.F Ch.g Ch.b To.F To.g To.b N T
  have GSm : FnOk P w K mg base CX0 4 fSm fdSm ["_law_got", "_law_goal"] (spSame 2) := (ok_same Sm.F T Sm.g Sm.b 2).mono (by decide)
  have GTa : FnOk P w K mg base CX0 4 fTa fdTa ["_law_urn", "_law_low_so"] spTake := (ok_take Ta.F T).mono (by decide)
  have GO : FnOk P w K mg base CX0 4 fO fdO ["_law_urn", "_law_goods"] spOf := (ok_of Ow.F Ta.F Ta.g Ta.b T).mono (by decide)
  have GTt : FnOk P w K mg base CX0 4 fTt fdTt ["_law_urn", "_law_wide", "_law_most"] spText := (ok_text Tt.F Ta.F Ta.g Ta.b T).mono (by decide)
  have GLl : FnOk P w K mg base CX0 4 fLl fdLl ["_law_urn", "_law_wide"] spLetters := (ok_letters Ll.F Ta.F Ta.g Ta.b T).mono (by decide)
  have GLn : FnOk P w K mg base CX0 4 fLn fdLn ["_law_text_here", "_law_place", "_law_letters_here"] spLNext := (ok_lnext Ln.F T).mono (by decide)
  have GLz : FnOk P w K mg base CX0 4 fLz fdLz ["_law_text_here", "_law_place", "_law_letters_here"] spLLast := (ok_llast Lz.F T).mono (by decide)
  have GDu : FnOk P w K mg base CX0 4 fDu fdDu ["_law_text_here", "_law_change"] spDue := (ok_due Du.F T).mono (by decide)
  have GIc : FnOk P w K mg base CX0 4 fIc fdIc ["wide", "thing"] spIch := (ok_ich Ic.F Le.F Le.g Le.b It.F It.g It.b Nu.F Nu.g Nu.b T).mono (by decide)
  have GTe : FnOk P w K mg base CX0 4 fTe fdTe ["wide", "thing"] spTxt := (ok_txt Te.F Le.F Le.g Le.b Nu.F Nu.g Nu.b T).mono (by decide)
  have GLs : FnOk P w K mg base CX0 4 fLs fdLs ["wide", "thing"] spLts := (ok_lts Ls.F Te.F Te.g Te.b Le.F Le.g Le.b Nu.F Nu.g Nu.b T)
  refine F.ok scRight (fun vs H Q E h => ?_) (fun cdv A outer s H vs Q E hr h => ?_)
  · obtain ⟨u, rfl, _⟩ := h
    rfl
  · obtain ⟨u, rfl, hu, q⟩ := h
    refine ⟨_, pss_cons (ps_set (i := 1) scRight.nd rfl (Or.inl rfl) (pe_op op_add pe_int (pe_call GTa hr (by rfl) Ta.g Ta.F.kp Ta.b .nil pass0 (pa_cons (pv 0) (pa_cons pe_int pa_nil)))))
      (pss_cons (ps_par (i := 2) (j := 3) (by rfl) scRight.nd rfl rfl (by decide) rfl rfl (pa_cons (pe_call GTt hr (by rfl) Tt.g Tt.F.kp Tt.b .nil pass0 (pa_cons (pv 0) (pa_cons (pv 1) (pa_cons pe_int pa_nil))))
          (pa_cons (pe_call GTt hr (by rfl) Tt.g Tt.F.kp Tt.b .nil pass0 (pa_cons (pv 0) (pa_cons (pv 1) (pa_cons pe_int pa_nil)))) pa_nil)) (by rfl))
      (pss_cons (ps_par3 (i := 4) (j := 5) (l := 6) (by rfl) scRight.nd rfl rfl rfl (by decide) (by decide) (by decide) rfl rfl rfl (pa_cons (pe_len T.len (pv 2))
          (pa_cons (pe_call GLl hr (by rfl) Ll.g Ll.F.kp Ll.b .nil pass0 (pa_cons (pv 0) (pa_cons (pv 1) pa_nil)))
          (pa_cons (pe_call GLl hr (by rfl) Ll.g Ll.F.kp Ll.b .nil pass0 (pa_cons (pv 0) (pa_cons (pv 1) pa_nil))) pa_nil))) (by rfl))
      (pss_cons (ps_set (i := 7) scRight.nd rfl (Or.inl rfl) (pe_callTy call_tuple_of (by rfl) T.tuple boot_tuple' (pa_cons (pe_callB (cr_sortedSet rfl) (by rfl) T.sorted boot_sorted' (pa_cons (pe_callTy (cr_setI rfl) (by rfl) T.set boot_set' (pa_cons
          (pe_op op_catA (pv 5) (pv 6)) pa_nil)) pa_nil)) pa_nil)))
      (pss_cons (ps_for PassesOwn.never rfl (pi_range1 (by rfl) T.range (pa_cons pe_int pa_nil)) (pg_name (i := 8) scRight.nd rfl (Or.inl rfl))
        (pss_cons (ps_par (i := 9) (j := 10) (by rfl) scRight.nd rfl rfl (by decide) rfl rfl (pa_cons (pe_call GTa hr (by rfl) Ta.g Ta.F.kp Ta.b .nil pass0 (pa_cons (pv 0) (pa_cons (pe_op op_add (pv 4) pe_int) pa_nil)))
            (pa_cons (pe_call GTa hr (by rfl) Ta.g Ta.F.kp Ta.b .nil pass0 (pa_cons (pv 0) (pa_cons (pe_op op_add (pv 4) pe_int) pa_nil))) pa_nil)) (by rfl))
        (pss_cons (ps_set (i := 11) scRight.nd rfl (Or.inl rfl) (pe_lst
          (pa_cons (pe_call GNx hr (by rfl) Nx.g Nx.F.kp Nx.b .nil pass0 (pa_cons (pv 2) (pa_cons (pv 9) (pa_cons (pv 5) pa_nil))))
          (pa_cons (pe_call GLa hr (by rfl) La.g La.F.kp La.b .nil pass0 (pa_cons (pe_callTy call_list_of (by rfl) T.list boot_list' (pa_cons (pv 2) pa_nil)) (pa_cons (pv 9) (pa_cons (pe_callTy call_list_of (by rfl) T.list boot_list' (pa_cons (pv 5) pa_nil)) pa_nil))))
          (pa_cons (pe_call GNx hr (by rfl) Nx.g Nx.F.kp Nx.b .nil pass0 (pa_cons (pv 2) (pa_cons (pv 9) (pa_cons (pv 7) pa_nil))))
          (pa_cons (pe_call GB hr (by rfl) B.g B.F.kp B.b .nil pass0 (pa_cons (pv 2) (pa_cons (pv 9) (pa_cons (pv 10) pa_nil))))
          (pa_cons (pe_call GB hr (by rfl) B.g B.F.kp B.b .nil pass0 (pa_cons (pe_callTy call_list_of (by rfl) T.list boot_list' (pa_cons (pv 2) pa_nil)) (pa_cons (pv 10) (pa_cons (pv 9) pa_nil)))) pa_nil)))))))
        (pss_cons (ps_set (i := 12) scRight.nd rfl (Or.inl rfl) (pe_lst
          (pa_cons (pe_call GLn hr (by rfl) Ln.g Ln.F.kp Ln.b .nil pass0 (pa_cons (pv 2) (pa_cons (pv 9) (pa_cons (pv 5) pa_nil))))
          (pa_cons (pe_call GLz hr (by rfl) Lz.g Lz.F.kp Lz.b .nil pass0 (pa_cons (pv 2) (pa_cons (pv 9) (pa_cons (pv 5) pa_nil))))
          (pa_cons (pe_callB (call_min2 rfl) (by rfl) T.min boot_min' (pa_cons (pe_call GLn hr (by rfl) Ln.g Ln.F.kp Ln.b .nil pass0 (pa_cons (pv 2) (pa_cons (pv 9) (pa_cons (pv 5) pa_nil))))
            (pa_cons (pe_call GLn hr (by rfl) Ln.g Ln.F.kp Ln.b .nil pass0 (pa_cons (pv 2) (pa_cons (pv 9) (pa_cons (pv 6) pa_nil)))) pa_nil))) pa_nil)))))
        (pss_cons (ps_set (i := 12) scRight.nd rfl (Or.inl rfl) (pe_op op_cat (pv 12) (pe_lst
          (pa_cons (pe_callTy call_tuple_of (by rfl) T.tuple boot_tuple' (pa_cons (pe_callB (cr_sortedSet rfl) (by rfl) T.sorted boot_sorted' (pa_cons (pe_callTy (cr_setI rfl) (by rfl) T.set boot_set' (pa_cons
            (pe_slice sl_tupA (pv 2) (po_some (pv 9)) (po_some (pe_callB (call_max2 rfl) (by rfl) T.max boot_max' (pa_cons (pv 9) (pa_cons (pe_op op_sub (pv 10) pe_int) pa_nil))))) pa_nil)) pa_nil)) pa_nil))
          (pa_cons (pe_callTy call_tuple_of (by rfl) T.tuple boot_tuple' (pa_cons (pe_callB (cr_sortedSet rfl) (by rfl) T.sorted boot_sorted' (pa_cons (pe_callTy (cr_setI rfl) (by rfl) T.set boot_set' (pa_cons
            (pe_slice sl_tupA (pv 2) (po_some (pv 10)) (po_some (pe_callB (call_max2 rfl) (by rfl) T.max boot_max' (pa_cons (pv 10) (pa_cons (pe_op op_sub (pv 9) pe_int) pa_nil))))) pa_nil)) pa_nil)) pa_nil)) pa_nil)))))
        (pss_cons (ps_expr (pe_bm PySem.F.plainAttrs_list PySem.F.slot_list_append PySem.F.type_list_append mt_append (pv 11) (pa_cons (pe_op op_sub (pe_op op_add (pv 4) pe_int)
          (pe_call GNx hr (by rfl) Nx.g Nx.F.kp Nx.b .nil pass0 (pa_cons (pe_revT (pv 2)) (pa_cons (pe_op op_sub (pe_op op_add (pv 4) pe_int) (pv 9)) (pa_cons (pv 5) pa_nil))))) pa_nil)))
        (pss_one (ps_if (pt_not (pt_val (pe_call GSm hr (by rfl) Sm.g Sm.F.kp Sm.b .nil pass0 (pa_cons (pv 11) (pa_cons (pe_op op_cat (pv 12) (pe_lst (pa_cons
          (pe_call GLz hr (by rfl) Lz.g Lz.F.kp Lz.b .nil pass0 (pa_cons (pv 2) (pa_cons (pv 9) (pa_cons (pv 5) pa_nil)))) pa_nil))) pa_nil))))) pss_never pss_nil)))))))
      )
      (pss_cons (ps_for PassesOwn.never rfl (pi_range1 (by rfl) T.range (pa_cons pe_int pa_nil)) (pg_name (i := 8) scRight.nd rfl (Or.inl rfl))
        (pss_cons (ps_par (i := 13) (j := 9) (by rfl) scRight.nd rfl rfl (by decide) rfl rfl (pa_cons (pe_call GO hr (by rfl) Ow.g Ow.F.kp Ow.b .nil pass0 (pa_cons (pv 0) (pa_cons (pe_lst (pa_cons pe_str (pa_cons pe_str (pa_cons pe_str pa_nil)))) pa_nil)))
            (pa_cons (pe_op op_add pe_int (pe_call GTa hr (by rfl) Ta.g Ta.F.kp Ta.b .nil pass0 (pa_cons (pv 0) (pa_cons (pe_op op_add (pv 4) pe_int) pa_nil)))) pa_nil)) (by rfl))
        (pss_cons (ps_set (i := 14) scRight.nd rfl (Or.inl rfl) (pe_ifExp (pt_cmpR op_eq (pv 13) pe_str (nomark _)) (pe_tup (pa_cons (pv 13) (pa_cons (pv 9) pa_nil)))
          (pe_tup (pa_cons (pv 13) (pa_cons (pv 9) (pa_cons (pe_op op_add pe_int (pe_call GTa hr (by rfl) Ta.g Ta.F.kp Ta.b .nil pass0 (pa_cons (pv 0) (pa_cons (pv 1) pa_nil)))) pa_nil))))))
        (pss_cons (ps_set (i := 12) scRight.nd rfl (Or.inl rfl) (pe_call GDu hr (by rfl) Du.g Du.F.kp Du.b .nil pass0 (pa_cons (pv 2) (pa_cons (pv 14) pa_nil))))
        (pss_one (ps_if (pt_not (pt_val (pe_call GSm hr (by rfl) Sm.g Sm.F.kp Sm.b .nil pass0 (pa_cons (pe_lst
            (pa_cons (pe_call GIc hr (by rfl) Ic.g Ic.F.kp Ic.b .nil pass0 (pa_cons (pv 1) (pa_cons (pv 14) pa_nil)))
            (pa_cons (pe_call GLC hr (by rfl) LC.g LC.F.kp LC.b .nil pass0 (pa_cons (pv 2) (pa_cons (pv 14) pa_nil)))
            (pa_cons (pe_call GLC hr (by rfl) LC.g LC.F.kp LC.b .nil pass0 (pa_cons (pe_callTy call_list_of (by rfl) T.list boot_list' (pa_cons (pv 2) pa_nil)) (pa_cons (pe_callTy call_list_of (by rfl) T.list boot_list' (pa_cons (pv 14) pa_nil)) pa_nil))) pa_nil))))
          (pa_cons (pe_lst (pa_cons pe_bl (pa_cons (pv 12) (pa_cons (pv 12) pa_nil)))) pa_nil))))) pss_never pss_nil)))))
      )
      (pss_cons (ps_set (i := 15) scRight.nd rfl (Or.inl rfl) (pe_call GO hr (by rfl) Ow.g Ow.F.kp Ow.b .nil pass0 (pa_cons (pv 0) (pa_cons (pe_lst (pa_cons (pv 3) (pa_cons (pe_slice sl_tupA (pv 3) po_none (po_some (pv 4)))
          (pa_cons (pe_op op_catA (pe_slice sl_tupA (pv 2) po_none (po_some (pe_un un_neg pe_int))) (pe_slice sl_tupA (pv 3) po_none (po_some pe_int))) (pa_cons (pv 2) pa_nil))))) pa_nil))))
      (pss_cons (ps_set (i := 11) scRight.nd rfl (Or.inl rfl) (pe_lst
          (pa_cons (pe_call GSh hr (by rfl) Sh.g Sh.F.kp Sh.b .nil pass0 (pa_cons (pv 2) (pa_cons (pv 15) pa_nil)))
          (pa_cons (pe_call GSh hr (by rfl) Sh.g Sh.F.kp Sh.b .nil pass0 (pa_cons (pe_callTy call_list_of (by rfl) T.list boot_list' (pa_cons (pv 15) pa_nil)) (pa_cons (pe_callTy call_list_of (by rfl) T.list boot_list' (pa_cons (pv 2) pa_nil)) pa_nil)))
          (pa_cons (pe_call GTe hr (by rfl) Te.g Te.F.kp Te.b .nil pass0 (pa_cons (pv 1) (pa_cons (pv 2) pa_nil)))
          (pa_cons (pe_call GLs hr (by rfl) Ls.g Ls.F.kp Ls.b .nil pass0 (pa_cons (pv 1) (pa_cons (pv 7) pa_nil)))
          (pa_cons (pe_call GTe hr (by rfl) Te.g Te.F.kp Te.b .nil pass0 (pa_cons (pe_callB (call_max2 rfl) (by rfl) T.max boot_max' (pa_cons pe_int (pa_cons (pe_op op_sub (pv 1) pe_int) pa_nil))) (pa_cons (pv 2) pa_nil))) pa_nil)))))))
      (pss_cons (ps_par (i := 16) (j := 17) (by rfl) scRight.nd rfl rfl (by decide) rfl rfl (pa_cons (pe_op op_catA (pe_tup (pa_cons (pv 4) pa_nil)) (pv 2)) (pa_cons (pe_op op_catA (pe_tup (pa_cons (pe_len T.len (pv 15)) pa_nil)) (pv 15)) pa_nil)) (by rfl))
      (pss_one (ps_ret (pe_call GSm hr (by rfl) Sm.g Sm.F.kp Sm.b .nil pass0 (pa_cons (pv 11) (pa_cons (pe_lst
        (pa_cons (pe_cmpR (op_ltT (Nat.lt_of_le_of_lt (Nat.le_add_right _ 64) hr.units)) (pv 16) (pv 17) (nomark _))
        (pa_cons (pe_cmpR (op_ltT (Nat.lt_of_le_of_lt (Nat.le_add_right _ 64) hr.units)) (pv 17) (pv 16) (nomark _))
        (pa_cons pe_bl (pa_cons pe_bl
        (pa_cons (pe_or2 (pe_cmpR op_eq (pv 1) pe_int (nomark _)) (pe_cmpR op_notIn_seq (pv 1) (pv 2) (by rfl))) pa_nil)))))) pa_nil))))))))))))), ?_⟩
    have z6 : ∀ {n : Nat}, n ≤ 12 → n ≤ sizeLine := fun h => Nat.le_of_lt (few h)
    -- the width
    refine ⟨_, rfl, u, 0, 3, rfl, hu, by decide, by decide, by decide, fun H1 v b1 u1 v0 v1 => ⟨1, v, rfl, rfl, ?_⟩⟩
    obtain ⟨wd, ew⟩ : ∃ wd : Int, wd = 1 + v := ⟨_, rfl⟩
    show tSeq _ _ _ [some (.ref u), some (.int (1 + v)), none, none, none, none, none, none, none, none, none, none, none, none, none, none, none, none] H1
    rw [← ew]
    have w1 : 1 ≤ wd := by omega
    have w3 : wd ≤ 3 := by omega
    clear ew
    -- the texts
    refine ⟨_, rfl, _, rfl, u, 1, wd, 14, rfl, u1, by decide, w1, by omega, by decide, by decide, fun H2 a ns b2 u2 ea la ta => ?_⟩
    refine ⟨_, rfl, _, rfl, u, _, wd, 14, rfl, u2, by decide, w1, by omega, by decide, by decide, fun H3 o os b3 u3 eo lo to => ⟨_, _, rfl, ?_⟩⟩
    have ea3 := u2.tup b3 ea
    -- size and letters
    refine ⟨_, rfl, a, _, rfl, .inr (SqT.of ea3), ?_⟩
    refine ⟨_, rfl, _, rfl, u, _, wd, rfl, u3, by decide, w1, w3, fun H4 l ls b4 u4 el ll1 ll2 tl => ?_⟩
    refine ⟨_, rfl, _, rfl, u, _, wd, rfl, u4, by decide, w1, w3, fun H5 m ms b5 u5 em lm1 lm2 tm => ⟨_, _, _, rfl, ?_⟩⟩
    have el5 := u4.tup b5 el
    have ea5 := u4.tup b5 (u3.tup b4 ea3)
    have eo5 := u4.tup b5 (u3.tup b4 eo)
    -- both
    dsimp only
    refine seqSst ?_
    refine ⟨_, rfl, _, rfl, catA el5 em (by omega) fun H6 c s6 ec => ?_⟩
    refine sstQ (.inr ec) (by rw [List.length_append]; omega) fun H7 b bs s7 eb hs => ?_
    have s57 := s6.trans s7
    have st7 : Stand H7 u 100 a o l m b ns os ls ms bs := ⟨(u5.same s57).mono (by decide), s57 _ _ ea5, s57 _ _ eo5, s57 _ _ el5, s57 _ _ em, eb⟩
    have esz : ((ns.map V.int).length : Int) = ns.length := by rw [List.length_map]
    obtain ⟨sz, hz⟩ : ∃ sz : Int, sz = ((ns.map V.int).length : Int) := ⟨_, rfl⟩
    show tSeq _ _ _ [some (.ref u), some (.int wd), some (.ref a), some (.ref o), some (.int ((ns.map V.int).length : Int)), some (.ref l), some (.ref m), some (.ref b), none, none, none, none, none, none, none, none, none, none] H7
    rw [← hz]
    rw [esz] at hz
    clear esz
    have hn : ns.length ≤ 14 := by omega
    have ho : os.length ≤ 14 := by omega
    have tb : isTxt wd bs = true := setOf_txt hs tl tm
    have nb : bs ≠ [] := setOf_some hs ll1
    have lb : bs.length ≤ 6 := by
      have z := hs.len
      rw [List.length_append] at z
      omega
    have hin : ∀ x, x ∈ bs ↔ x ∈ ls ∨ x ∈ ms := fun x => by rw [hs.2 x, List.mem_append]
    -- places: four laps
    refine ⟨4, rfl, by decide, by decide, for_range (lo := 0) (n := (4 : Int).toNat) (fun i σ H' => Shp u a o l m b wd sz σ ∧ Stand H' u (100 + 2 * i) a o l m b ns os ls ms bs) ⟨⟨_, _, _, _, _, _, _, rfl⟩, st7⟩ (fun i σ H0 hi g => ?_) (fun σ H8 g => ?_)⟩
    · obtain ⟨⟨y8, y9, y10, y11, y12, y13, y14, rfl⟩, st⟩ := g
      have hi4 : i < 4 := hi
      have sz0 : 0 ≤ sz := by omega
      have hbt : ∀ x y : Int, (betw ns x y).length < 63 := fun x y => Nat.lt_of_le_of_lt (cutG_len _ _ _) (by omega)
      -- place and far
      refine ⟨_, rfl, _, rfl, sz, 2, rfl, rfl, u, _, sz + 2, rfl, st.urn, by omega, by omega, by omega, fun G1 pl c1 v1 p0 p1 => ?_⟩
      refine ⟨_, rfl, _, rfl, sz, 2, rfl, rfl, u, _, sz + 2, rfl, v1, by omega, by omega, by omega, fun G2 fa c2 v2 f0 f1 => ⟨_, _, rfl, ?_⟩⟩
      have st2 := (st.but (c1.trans c2) v2).mono (k := 100 + 2 * (i + 1)) (by omega)
      -- what the program gives
      refine ⟨_, rfl, _, rfl, _, rfl, a, l, ns, ls, pl, rfl, .inr st2.tx, .inr st2.lt, p0, by omega, by omega, fun n1 hn1 => ?_⟩
      refine ⟨_, rfl, a, _, rfl, .inr (SqT.of st2.tx), fun x1 nx1 => ?_⟩
      have w1 := same_upd (o := .lst (ns.map V.int)) nx1
      refine ⟨_, rfl, _, rfl, l, _, rfl, .inr (SqT.of (w1 _ _ st2.lt)), fun x2 nx2 => ?_⟩
      have w2 := same_upd (o := .lst (ls.map V.int)) nx2
      refine ⟨x1, x2, ns, ls, pl, rfl, .inl (w2 _ _ upd_same), .inl upd_same, p0, by omega, by omega, fun l1 hl1 => ?_⟩
      have st4 := st2.same (w1.trans w2)
      refine ⟨_, rfl, _, rfl, _, rfl, a, b, ns, bs, pl, rfl, .inr st4.tx, .inr st4.bo, p0, by omega, by omega, fun n2 hn2 => ?_⟩
      refine ⟨_, rfl, _, rfl, _, rfl, a, ns, pl, fa, rfl, .inr st4.tx, p0, by omega, f0, by omega, by omega, fun G5 p4 r4 w5 ep4 h4 => ?_⟩
      have st5 := st4.same w5
      refine ⟨_, rfl, a, _, rfl, .inr (SqT.of st5.tx), fun x3 nx3 => ?_⟩
      have w6 := same_upd (o := .lst (ns.map V.int)) nx3
      refine ⟨_, rfl, _, rfl, x3, ns, fa, pl, rfl, .inl upd_same, f0, by omega, p0, by omega, by omega, fun G7 p5 r5 w7 ep5 h5 => ?_⟩
      refine ⟨z6 (show 5 ≤ 12 by decide), fun g ng => ?_⟩
      have w27 := w1.trans (w2.trans (w5.trans (w6.trans w7)))
      have ng2 := w27.free ng
      have w8 := same_upd (o := .lst [.int n1, .int l1, .int n2, .ref p4, .ref p5]) ng
      have st8 := st2.same (w27.trans w8)
      -- what the law looks up
      refine ⟨_, rfl, _, rfl, _, rfl, a, l, ns, ls, pl, rfl, st8.tx, .inr st8.lt, by omega, fun G9 m1 w9 hm1 => ?_⟩
      have st9 := st8.same w9
      refine ⟨_, rfl, _, rfl, _, rfl, a, l, ns, ls, pl, rfl, st9.tx, .inr st9.lt, by omega, fun G10 m2 w10 hm2 => ?_⟩
      have st10 := st9.same w10
      refine ⟨_, rfl, _, rfl, _, rfl, a, l, ns, ls, pl, rfl, st10.tx, .inr st10.lt, by omega, fun G11 j1 w11 hj1 => ?_⟩
      have st11 := st10.same w11
      refine ⟨_, rfl, _, rfl, _, rfl, a, m, ns, ms, pl, rfl, st11.tx, .inr st11.mo, by omega, fun G12 j2 w12 hj2 => ?_⟩
      have st12 := st11.same w12
      refine ⟨j1, j2, rfl, z6 (show 3 ≤ 12 by decide), fun d1 nd1 => ?_⟩
      have w13 := same_upd (o := .lst [.int m1, .int m2, .int (if j2 < j1 then j2 else j1)]) nd1
      have st13 := st12.same w13
      -- .. and between
      refine ⟨_, rfl, ?_⟩
      refine lstSst ?_
      refine ⟨_, rfl, _, rfl, pl, rfl, _, rfl, _, rfl, fa, 1, rfl, rfl, pl, fa - 1, rfl, _, rfl, slA st13.tx fun G14 c4 w14 ec4 => ?_⟩
      refine sstQ (ns := betw ns pl fa) (.inr ec4) (hbt _ _) fun G15 q4 t4 w15 eq4 k4 => ?_
      have st15 := st13.same (w14.trans w15)
      refine conSst ?_
      refine ⟨_, rfl, _, rfl, fa, rfl, _, rfl, _, rfl, pl, 1, rfl, rfl, fa, pl - 1, rfl, _, rfl, slA st15.tx fun G16 c5 w16 ec5 => ?_⟩
      refine sstQ (ns := betw ns fa pl) (.inr ec5) (hbt _ _) fun G17 q5 t5 w17 eq5 k5 => ?_
      refine ⟨z6 (show 2 ≤ 12 by decide), fun d2 nd2 => ?_⟩
      have w18 := same_upd (o := .lst [.ref q4, .ref q5]) nd2
      have w13_18 := w14.trans (w15.trans (w16.trans (w17.trans w18)))
      refine ⟨d1, d2, _, _, rfl, rfl, w13_18 _ _ upd_same, upd_same, z6 (show 5 ≤ 12 by decide), fun d3 nd3 => ?_⟩
      have w19 := same_upd (o := .lst ([.int m1, .int m2, .int (if j2 < j1 then j2 else j1)] ++ [.ref q4, .ref q5])) nd3
      have w8_19 := w9.trans (w10.trans (w11.trans (w12.trans (w13.trans (w13_18.trans w19)))))
      have st19 := st8.same w8_19
      have eg19 := w8_19 _ _ upd_same
      -- the text turned round
      refine ⟨_, rfl, .inl ⟨rfl, _, SqL.of eg19⟩, _, rfl, sz, 1, rfl, rfl, _, rfl, a, _, rfl, SqT.of st19.tx, fun t nt => ?_⟩
      have w20 := same_upd (o := .tup (ns.map V.int).reverse) nt
      have et : ∀ G : Hp, upd G t (.tup (ns.map V.int).reverse) t = some (.tup (ns.reverse.map V.int)) := fun G => by rw [upd_same, List.map_reverse]
      refine ⟨_, rfl, sz, 1, rfl, rfl, _, rfl, sz + 1, pl, rfl, rfl, _, rfl, t, l, ns.reverse, ls, sz + 1 - pl, rfl, .inr (et _), .inr (w20 _ _ st19.lt), by omega, by rw [List.length_reverse]; omega, by rw [List.length_reverse]; omega, fun n3 hn3 => ?_⟩
      refine ⟨sz + 1, n3, rfl, rfl, g, _, _, rfl, rfl, w20 _ _ eg19, few (show 5 ≤ 12 by decide), ?_⟩
      have ng20 := w20 _ _ eg19
      have w2_20 := w27.trans (w8.trans (w8_19.trans w20))
      have w2_21 : Same G2 (upd (upd _ t (.tup (ns.map V.int).reverse)) g (.lst ([.int n1, .int l1, .int n2, .ref p4, .ref p5] ++ [.int (sz + 1 - n3)]))) := fun c o e => by
        rw [upd_ne (ne_of_none e ng2)]
        exact w2_20 _ _ e
      have st21 := st2.same w2_21
      have keep : ∀ {c : Addr} {xs : List V}, upd _ t (.tup (ns.map V.int).reverse) c = some (.tup xs) → upd (upd _ t (.tup (ns.map V.int).reverse)) g (.lst ([.int n1, .int l1, .int n2, .ref p4, .ref p5] ++ [.int (sz + 1 - n3)])) c = some (.tup xs) := fun {c xs} e => by
        rw [upd_ne (ne_of e ng20 (fun z => by cases z))]
        exact e
      have ep4' := keep (w20 _ _ (w8_19 _ _ (w8 _ _ (w7 _ _ (w6 _ _ ep4)))))
      have ep5' := keep (w20 _ _ (w8_19 _ _ (w8 _ _ ep5)))
      have eq5' := keep (w20 _ _ (w19 _ _ (w18 _ _ eq5)))
      have eq4' := keep (w20 _ _ (w19 _ _ (w18 _ _ (w17 _ _ (w16 _ _ eq4)))))
      have ed3 := w20 _ _ (upd_same (H := _) (a := d3) (o := .lst ([.int m1, .int m2, .int (if j2 < j1 then j2 else j1)] ++ [.ref q4, .ref q5])))
      have eg18 := (w9.trans (w10.trans (w11.trans (w12.trans (w13.trans w13_18))))) _ _ (upd_same (H := G7) (a := g) (o := .lst [.int n1, .int l1, .int n2, .ref p4, .ref p5]))
      have ed3' := (upd_ne (H := upd _ t (.tup (ns.map V.int).reverse)) (a := g) (b := d3) (o := .lst ([.int n1, .int l1, .int n2, .ref p4, .ref p5] ++ [.int (sz + 1 - n3)])) (Ne.symm (ne_of_none eg18 nd3))).trans ed3
      -- alike
      refine ⟨_, rfl, _, rfl, _, rfl, _, rfl, _, rfl, a, l, ns, ls, pl, rfl, st21.tx, .inr st21.lt, by omega, fun G22 m3 w22 hm3 => ?_⟩
      refine ⟨z6 (show 1 ≤ 12 by decide), fun d4 nd4 => ?_⟩
      have w23 := same_upd (o := .lst [.int m3]) nd4
      refine ⟨d3, d4, _, _, rfl, rfl, w23 _ _ (w22 _ _ ed3'), upd_same, z6 (show 6 ≤ 12 by decide), fun d5 nd5 => ?_⟩
      have w24 := same_upd (o := .lst (([.int m1, .int m2, .int (if j2 < j1 then j2 else j1)] ++ [.ref q4, .ref q5]) ++ [.int m3])) nd5
      have w21_24 := w22.trans (w23.trans w24)
      have z1 : n1 = m1 := hn1.uniq hm1
      have z2 : l1 = m2 := hl1.uniq hm2
      have z3 : n2 = (if j2 < j1 then j2 else j1) := hn2.uniq (IsNext.both hin hj1 hj2)
      have z4 : r4 = t4 := h4.uniq k4
      have z5 : r5 = t5 := h5.uniq k5
      have z7 : sz + 1 - n3 = m3 := by
        rw [hz] at hn3 ⊢
        exact hn3.turned.uniq hm3
      rw [← z4] at eq4'
      rw [← z5] at eq5'
      refine ⟨.ref g, .ref d5, rfl, Alk.ofL (w21_24 _ _ upd_same) upd_same ?_ (by show 6 ≤ 100; decide), fun G25 w25 => ⟨true, rfl, iteF ⟨⟨_, _, _, _, _, _, _, rfl⟩, (st21.same w21_24).same w25⟩⟩⟩
      have i1 : ∀ G : Hp, Alk 1 G (.int n1) (.int m1) := fun G => by rw [z1]; exact .int _
      have i2 : ∀ G : Hp, Alk 1 G (.int l1) (.int m2) := fun G => by rw [z2]; exact .int _
      have i3 : ∀ G : Hp, Alk 1 G (.int n2) (.int (if j2 < j1 then j2 else j1)) := fun G => by rw [z3]; exact .int _
      have i7 : ∀ G : Hp, Alk 1 G (.int (sz + 1 - n3)) (.int m3) := fun G => by rw [z7]; exact .int _
      have l4 := h4.len
      have l5 := h5.len
      have b4 := hbt pl fa
      have b5 := hbt fa pl
      exact .cons (i1 _) (.cons (i2 _) (.cons (i3 _) (.cons (Alk.ints (w21_24 _ _ ep4') (w21_24 _ _ eq4') (by omega)) (.cons (Alk.ints (w21_24 _ _ ep5') (w21_24 _ _ eq5') (by omega)) (.cons (i7 _) .nil)))))
    obtain ⟨⟨y8, y9, y10, y11, y12, y13, y14, rfl⟩, st8⟩ := g
    -- changes: three laps
    refine ⟨3, rfl, by decide, by decide, for_range (lo := 0) (n := (3 : Int).toNat) (fun i σ H' => Shp u a o l m b wd sz σ ∧ Stand H' u (200 + 3 * i) a o l m b ns os ls ms bs) ⟨⟨_, _, _, _, _, _, _, rfl⟩, st8.mono (by decide)⟩ (fun i σ H0 hi g => ?_) (fun σ H9 g => ?_)⟩
    · obtain ⟨⟨y8, y9, y10, y11, y12, y13, y14, rfl⟩, st⟩ := g
      have hi3 : i < 3 := hi
      have sz0 : 0 ≤ sz := by omega
      -- word and place
      refine ⟨_, rfl, z6 (show 3 ≤ 12 by decide), fun k0 nk => ?_⟩
      have x0 := same_upd (o := .lst [.str "put", .str "drop", .str "turn"]) nk
      have st0 := st.same x0
      refine ⟨u, k0, _, [.str "put", .str "drop", .str "turn"], rfl, st0.urn, by omega, upd_same, st.urn.ne nk, by decide, by decide, fun G1 j wv c1 v1 hj => ?_⟩
      have st1 := st0.but c1 v1
      refine ⟨_, rfl, _, rfl, sz, 3, rfl, rfl, u, _, sz + 3, rfl, v1, by omega, by omega, by omega, fun G2 pv c2 v2 p0 p1 => ⟨1, pv, rfl, rfl, _, _, rfl, ?_⟩⟩
      have st2 := st1.but c2 v2
      have hw := List.mem_of_getElem? hj
      simp only [List.mem_cons, List.not_mem_nil, or_false] at hw
      rcases hw with rfl | rfl | rfl
      · refine ⟨_, rfl, rfl, false, by rfl, iteF ?_⟩
        refine ⟨_, rfl, _, rfl, _, rfl, _, rfl, u, _, wd, rfl, v2, by omega, by omega, by omega, fun G3 lv c3 v3 l0 l1 => ⟨1, lv, rfl, rfl, z6 (show 3 ≤ 12 by decide), fun ch nch => ?_⟩⟩
        have st4 : Stand _ u (200 + 3 * (i + 1)) a o l m b ns os ls ms bs := ((st2.but c3 v3).mono (by omega)).same (same_upd (o := .tup (Chg.put (1 + pv) (1 + lv)).xs) nch)
        have ech := upd_same (H := G3) (a := ch) (o := .tup (Chg.put (1 + pv) (1 + lv)).xs)
        have cok : (Chg.put (1 + pv) (1 + lv)).ok wd := ⟨by omega, by omega, by omega⟩
        have c1ok : 1 ≤ (Chg.put (1 + pv) (1 + lv)).place := (by omega : 1 ≤ 1 + pv)
        refine ⟨_, rfl, _, rfl, a, ch, ns, Chg.put (1 + pv) (1 + lv), rfl, st4.tx, ech, by omega, c1ok, fun G4 dv w4 o4 => ?_⟩
        have st5 := st4.same w4
        refine ⟨_, rfl, _, rfl, wd, ch, Chg.put (1 + pv) (1 + lv), rfl, w4 _ _ ech, cok, fun G5 w5 => ?_⟩
        have st6 := st5.same w5
        have ech6 := w5 _ _ (w4 _ _ ech)
        refine ⟨_, rfl, _, rfl, a, ch, ns, Chg.put (1 + pv) (1 + lv), rfl, .inr st6.tx, .inr ech6, by omega, c1ok, fun G6 v6 w6 o6 => ?_⟩
        have st7 := st6.same w6
        refine ⟨_, rfl, a, _, rfl, .inr (SqT.of st7.tx), fun y1 ny1 => ?_⟩
        have x1 := same_upd (o := .lst (ns.map V.int)) ny1
        refine ⟨_, rfl, ch, _, rfl, .inr (SqT.of (x1 _ _ (w6 _ _ ech6))), fun y2 ny2 => ?_⟩
        have x2 := same_upd (o := .lst (Chg.put (1 + pv) (1 + lv)).xs) ny2
        refine ⟨y1, y2, ns, Chg.put (1 + pv) (1 + lv), rfl, .inl (x2 _ _ upd_same), .inl upd_same, by omega, c1ok, fun G7 v7 w7 o7 => ?_⟩
        refine ⟨z6 (show 3 ≤ 12 by decide), fun g ng => ?_⟩
        have x3 := same_upd (o := .lst [.bl true, v6, v7]) ng
        refine ⟨_, rfl, _, rfl, z6 (show 3 ≤ 12 by decide), fun d nd => ?_⟩
        have x4 := same_upd (o := .lst [.bl true, dv, dv]) nd
        have x34 := x3.trans x4
        have x64 := x1.trans (x2.trans (w7.trans x34))
        have x44 := w5.trans (w6.trans x64)
        refine ⟨.ref g, .ref d, rfl, Alk.ofL (x4 _ _ upd_same) upd_same (.cons (.bl true) (.cons ((o6.same x64).alk (o4.same x44) (by omega)) (.cons ((o7.same x34).alk (o4.same x44) (by omega)) .nil))) (by show 3 ≤ 100; decide), fun G8 w8 => ⟨true, rfl, iteF ⟨⟨_, _, _, _, _, _, _, rfl⟩, ((st7.same x64).same w8)⟩⟩⟩
      · refine ⟨_, rfl, rfl, true, by rfl, iteT ?_⟩
        refine ⟨_, rfl, _, rfl, z6 (show 2 ≤ 12 by decide), fun ch nch => ?_⟩
        have st4 : Stand _ u (200 + 3 * (i + 1)) a o l m b ns os ls ms bs := (st2.mono (by omega)).same (same_upd (o := .tup (Chg.drop (1 + pv)).xs) nch)
        have ech := upd_same (H := G2) (a := ch) (o := .tup (Chg.drop (1 + pv)).xs)
        have cok : (Chg.drop (1 + pv)).ok wd := (by omega : 1 ≤ 1 + pv)
        have c1ok : 1 ≤ (Chg.drop (1 + pv)).place := (by omega : 1 ≤ 1 + pv)
        refine ⟨_, rfl, _, rfl, a, ch, ns, Chg.drop (1 + pv), rfl, st4.tx, ech, by omega, c1ok, fun G4 dv w4 o4 => ?_⟩
        have st5 := st4.same w4
        refine ⟨_, rfl, _, rfl, wd, ch, Chg.drop (1 + pv), rfl, w4 _ _ ech, cok, fun G5 w5 => ?_⟩
        have st6 := st5.same w5
        have ech6 := w5 _ _ (w4 _ _ ech)
        refine ⟨_, rfl, _, rfl, a, ch, ns, Chg.drop (1 + pv), rfl, .inr st6.tx, .inr ech6, by omega, c1ok, fun G6 v6 w6 o6 => ?_⟩
        have st7 := st6.same w6
        refine ⟨_, rfl, a, _, rfl, .inr (SqT.of st7.tx), fun y1 ny1 => ?_⟩
        have x1 := same_upd (o := .lst (ns.map V.int)) ny1
        refine ⟨_, rfl, ch, _, rfl, .inr (SqT.of (x1 _ _ (w6 _ _ ech6))), fun y2 ny2 => ?_⟩
        have x2 := same_upd (o := .lst (Chg.drop (1 + pv)).xs) ny2
        refine ⟨y1, y2, ns, Chg.drop (1 + pv), rfl, .inl (x2 _ _ upd_same), .inl upd_same, by omega, c1ok, fun G7 v7 w7 o7 => ?_⟩
        refine ⟨z6 (show 3 ≤ 12 by decide), fun g ng => ?_⟩
        have x3 := same_upd (o := .lst [.bl true, v6, v7]) ng
        refine ⟨_, rfl, _, rfl, z6 (show 3 ≤ 12 by decide), fun d nd => ?_⟩
        have x4 := same_upd (o := .lst [.bl true, dv, dv]) nd
        have x34 := x3.trans x4
        have x64 := x1.trans (x2.trans (w7.trans x34))
        have x44 := w5.trans (w6.trans x64)
        refine ⟨.ref g, .ref d, rfl, Alk.ofL (x4 _ _ upd_same) upd_same (.cons (.bl true) (.cons ((o6.same x64).alk (o4.same x44) (by omega)) (.cons ((o7.same x34).alk (o4.same x44) (by omega)) .nil))) (by show 3 ≤ 100; decide), fun G8 w8 => ⟨true, rfl, iteF ⟨⟨_, _, _, _, _, _, _, rfl⟩, ((st7.same x64).same w8)⟩⟩⟩
      · refine ⟨_, rfl, rfl, false, by rfl, iteF ?_⟩
        refine ⟨_, rfl, _, rfl, _, rfl, _, rfl, u, _, wd, rfl, v2, by omega, by omega, by omega, fun G3 lv c3 v3 l0 l1 => ⟨1, lv, rfl, rfl, z6 (show 3 ≤ 12 by decide), fun ch nch => ?_⟩⟩
        have st4 : Stand _ u (200 + 3 * (i + 1)) a o l m b ns os ls ms bs := ((st2.but c3 v3).mono (by omega)).same (same_upd (o := .tup (Chg.turn (1 + pv) (1 + lv)).xs) nch)
        have ech := upd_same (H := G3) (a := ch) (o := .tup (Chg.turn (1 + pv) (1 + lv)).xs)
        have cok : (Chg.turn (1 + pv) (1 + lv)).ok wd := ⟨by omega, by omega, by omega⟩
        have c1ok : 1 ≤ (Chg.turn (1 + pv) (1 + lv)).place := (by omega : 1 ≤ 1 + pv)
        refine ⟨_, rfl, _, rfl, a, ch, ns, Chg.turn (1 + pv) (1 + lv), rfl, st4.tx, ech, by omega, c1ok, fun G4 dv w4 o4 => ?_⟩
        have st5 := st4.same w4
        refine ⟨_, rfl, _, rfl, wd, ch, Chg.turn (1 + pv) (1 + lv), rfl, w4 _ _ ech, cok, fun G5 w5 => ?_⟩
        have st6 := st5.same w5
        have ech6 := w5 _ _ (w4 _ _ ech)
        refine ⟨_, rfl, _, rfl, a, ch, ns, Chg.turn (1 + pv) (1 + lv), rfl, .inr st6.tx, .inr ech6, by omega, c1ok, fun G6 v6 w6 o6 => ?_⟩
        have st7 := st6.same w6
        refine ⟨_, rfl, a, _, rfl, .inr (SqT.of st7.tx), fun y1 ny1 => ?_⟩
        have x1 := same_upd (o := .lst (ns.map V.int)) ny1
        refine ⟨_, rfl, ch, _, rfl, .inr (SqT.of (x1 _ _ (w6 _ _ ech6))), fun y2 ny2 => ?_⟩
        have x2 := same_upd (o := .lst (Chg.turn (1 + pv) (1 + lv)).xs) ny2
        refine ⟨y1, y2, ns, Chg.turn (1 + pv) (1 + lv), rfl, .inl (x2 _ _ upd_same), .inl upd_same, by omega, c1ok, fun G7 v7 w7 o7 => ?_⟩
        refine ⟨z6 (show 3 ≤ 12 by decide), fun g ng => ?_⟩
        have x3 := same_upd (o := .lst [.bl true, v6, v7]) ng
        refine ⟨_, rfl, _, rfl, z6 (show 3 ≤ 12 by decide), fun d nd => ?_⟩
        have x4 := same_upd (o := .lst [.bl true, dv, dv]) nd
        have x34 := x3.trans x4
        have x64 := x1.trans (x2.trans (w7.trans x34))
        have x44 := w5.trans (w6.trans x64)
        refine ⟨.ref g, .ref d, rfl, Alk.ofL (x4 _ _ upd_same) upd_same (.cons (.bl true) (.cons ((o6.same x64).alk (o4.same x44) (by omega)) (.cons ((o7.same x34).alk (o4.same x44) (by omega)) .nil))) (by show 3 ≤ 100; decide), fun G8 w8 => ⟨true, rfl, iteF ⟨⟨_, _, _, _, _, _, _, rfl⟩, ((st7.same x64).same w8)⟩⟩⟩
    obtain ⟨⟨y8, y9, y10, y11, y12, y13, y14, rfl⟩, st9⟩ := g
    have sz0 : 0 ≤ sz := by omega
    -- near
    refine ⟨_, rfl, _, rfl, _, rfl, _, rfl, sz, rfl, slA st9.ot fun G1 p1 s1 e1 => ?_⟩
    have st10 := st9.same s1
    refine ⟨_, rfl, 1, rfl, -1, rfl, slA st10.tx fun G2 p2 s2 e2 => ?_⟩
    have st11 := st10.same s2
    refine ⟨_, rfl, 1, rfl, slA st11.ot fun G3 p3 s3 e3 => ?_⟩
    have st12 := st11.same s3
    have len1 : (cutG os none (some sz)).length ≤ 14 := Nat.le_trans (cutG_len _ _ _) ho
    have len2 : (cutG ns none (some (-1))).length ≤ 14 := Nat.le_trans (cutG_len _ _ _) hn
    have len3 : (cutG os none (some 1)).length ≤ 14 := Nat.le_trans (cutG_len _ _ _) ho
    refine catA (s3 _ _ e2) e3 (by omega) fun G4 p4 s4 e4 => ?_
    have st13 := st12.same s4
    refine ⟨_, rfl, z6 (show 4 ≤ 12 by decide), fun k0 nk => ?_⟩
    have x0 := same_upd (o := .lst [.ref o, .ref p1, .ref p4, .ref a]) nk
    have st14 := st13.same x0
    refine ⟨u, k0, _, [.ref o, .ref p1, .ref p4, .ref a], rfl, st14.urn, by decide, upd_same, st13.urn.ne nk, by show 0 < 4; decide, by show 4 ≤ 100; decide, fun G6 j wv c6 v6 hj => ?_⟩
    have st15 := st14.but c6 v6
    have hnear : ∃ (ne : Addr) (zs : List Int), wv = .ref ne ∧ G6 ne = some (.tup (zs.map V.int)) ∧ zs.length ≤ 28 := by
      have hw := List.mem_of_getElem? hj
      simp only [List.mem_cons, List.not_mem_nil, or_false] at hw
      rcases hw with rfl | rfl | rfl | rfl
      · exact ⟨o, os, rfl, st15.ot, by omega⟩
      · exact ⟨p1, _, rfl, st14.urn.tup c6 (x0 _ _ (s4 _ _ (s3 _ _ (s2 _ _ e1)))), by omega⟩
      · exact ⟨p4, _, rfl, st14.urn.tup c6 (x0 _ _ e4), by rw [List.length_append]; omega⟩
      · exact ⟨a, ns, rfl, st15.tx, by omega⟩
    obtain ⟨ne, zs, rfl, ene, lz⟩ := hnear
    -- what the program says
    refine ⟨_, rfl, _, rfl, a, ne, ns, zs, rfl, .inr st15.tx, .inr ene, by omega, by omega, fun G7 s7 => ?_⟩
    have st16 := st15.same s7
    have ene7 := s7 _ _ ene
    refine ⟨_, rfl, ne, _, rfl, .inr (SqT.of ene7), fun x1 nx1 => ?_⟩
    have w1' := same_upd (o := .lst (zs.map V.int)) nx1
    refine ⟨_, rfl, a, _, rfl, .inr (SqT.of (w1' _ _ st16.tx)), fun x2 nx2 => ?_⟩
    have w2' := same_upd (o := .lst (ns.map V.int)) nx2
    refine ⟨x1, x2, zs, ns, rfl, .inl (w2' _ _ upd_same), .inl upd_same, by omega, by omega, fun G8 s8 => ?_⟩
    have s78 := w1'.trans (w2'.trans s8)
    have st17 := st16.same s78
    refine ⟨_, rfl, _, rfl, wd, a, ns, rfl, st17.tx, by omega, fun G9 s9 => ?_⟩
    have st18 := st17.same s9
    refine ⟨_, rfl, _, rfl, wd, b, bs, rfl, st18.bo, nb, tb, hs.1, by omega, fun G10 s10 => ?_⟩
    have st19 := st18.same s10
    refine ⟨_, rfl, wd, 1, rfl, rfl, 1, wd - 1, rfl, _, rfl, _, a, ns, rfl, st19.tx, by omega, fun G11 s11 => ?_⟩
    have st20 := st19.same s11
    refine ⟨z6 (show 5 ≤ 12 by decide), fun g ng => ?_⟩
    have xg := same_upd (o := .lst [.bl (HT.lexLt ((ns.length : Int) :: ns) ((zs.length : Int) :: zs)), .bl (HT.lexLt ((zs.length : Int) :: zs) ((ns.length : Int) :: ns)), .bl (isTxt wd ns), .bl true, .bl (isTxt (if wd - 1 > 1 then wd - 1 else 1) ns)]) ng
    have eneg := xg _ _ (s11 _ _ (s10 _ _ (s9 _ _ (s78 _ _ ene7))))
    have st21 := st20.same xg
    -- one and two
    refine ⟨_, rfl, z6 (show 1 ≤ 12 by decide), fun t1 n1 => ?_⟩
    have y1 := same_upd (o := .tup [.int sz]) n1
    refine ⟨_, rfl, catA (ns := [sz]) (ms := ns) upd_same (y1 _ _ st21.tx) (by show 1 + _ ≤ 1000; omega) fun G13 q1 s13 eq1 => ?_⟩
    have ene13 := s13 _ _ (y1 _ _ eneg)
    refine ⟨_, rfl, ne, _, rfl, .inr (SqT.of ene13), z6 (show 1 ≤ 12 by decide), fun t2 n2 => ?_⟩
    have y2 := same_upd (o := .tup [.int ((zs.map V.int).length : Int)]) n2
    refine ⟨_, rfl, catA (ns := [((zs.map V.int).length : Int)]) (ms := zs) upd_same (y2 _ _ ene13) (by show 1 + _ ≤ 1000; omega) fun G15 q2 s15 eq2 => ⟨_, _, rfl, ?_⟩⟩
    have eq1' := s15 _ _ (y2 _ _ eq1)
    have sg := y1.trans (s13.trans (y2.trans s15))
    have st22 := st21.same sg
    have hlz : ((zs.map V.int).length : Int) = zs.length := by rw [List.length_map]
    refine ⟨_, rfl, _, rfl, _, rfl, q1, q2, [sz] ++ ns, [((zs.map V.int).length : Int)] ++ zs, rfl, rfl, SqT.of eq1', SqT.of eq2, ?_⟩
    refine ⟨_, rfl, _, rfl, q2, q1, [((zs.map V.int).length : Int)] ++ zs, [sz] ++ ns, rfl, rfl, SqT.of eq2, SqT.of eq1', ?_⟩
    have i1 : ∀ G : Hp, Alk 1 G (.bl (HT.lexLt ((ns.length : Int) :: ns) ((zs.length : Int) :: zs))) (.bl (HT.lexLt ([sz] ++ ns) ([((zs.map V.int).length : Int)] ++ zs))) := fun G => by rw [hlz, hz]; exact .bl _
    have i2 : ∀ G : Hp, Alk 1 G (.bl (HT.lexLt ((zs.length : Int) :: zs) ((ns.length : Int) :: ns))) (.bl (HT.lexLt ([((zs.map V.int).length : Int)] ++ zs) ([sz] ++ ns))) := fun G => by rw [hlz, hz]; exact .bl _
    have i3 : ∀ G : Hp, Alk 1 G (.bl (isTxt wd ns)) (.bl true) := fun G => by rw [ta]; exact .bl _
    by_cases hw1 : wd = 1
    · refine ⟨_, rfl, rfl, true, blT (by rw [hw1]), iteT ?_⟩
      refine ⟨z6 (show 5 ≤ 12 by decide), fun d nd => ?_⟩
      have i5 : ∀ G : Hp, Alk 1 G (.bl (isTxt (if wd - 1 > 1 then wd - 1 else 1) ns)) (.bl true) := fun G => by
        rw [hw1] at ta ⊢
        rw [if_neg (by decide), ta]
        exact .bl _
      have xd := same_upd (o := .lst [.bl (HT.lexLt ([sz] ++ ns) ([((zs.map V.int).length : Int)] ++ zs)), .bl (HT.lexLt ([((zs.map V.int).length : Int)] ++ zs) ([sz] ++ ns)), .bl true, .bl true, .bl true]) nd
      exact ⟨.ref g, .ref d, rfl, Alk.ofL (xd _ _ (sg _ _ upd_same)) upd_same (.cons (i1 _) (.cons (i2 _) (.cons (i3 _) (.cons (.bl true) (.cons (i5 _) .nil))))) (by show 5 ≤ 100; decide), fun H' _ => q H'⟩
    · refine ⟨_, rfl, rfl, false, blF (fun z => hw1 (by injection z)), iteF ?_⟩
      refine ⟨_, rfl, _, rfl, a, _, rfl, .inr (SqT.of st22.tx), rfl, flat_all ns, ?_⟩
      refine ⟨z6 (show 5 ≤ 12 by decide), fun d nd => ?_⟩
      have i5 : ∀ G : Hp, Alk 1 G (.bl (isTxt (if wd - 1 > 1 then wd - 1 else 1) ns)) (.bl (!inV (.int wd) (ns.map V.int))) := fun G => by
        rw [in_ints, txt_less w1 hw1 ta]
        exact .bl _
      have xd := same_upd (o := .lst [.bl (HT.lexLt ([sz] ++ ns) ([((zs.map V.int).length : Int)] ++ zs)), .bl (HT.lexLt ([((zs.map V.int).length : Int)] ++ zs) ([sz] ++ ns)), .bl true, .bl true, .bl (!inV (.int wd) (ns.map V.int))]) nd
      exact ⟨.ref g, .ref d, rfl, Alk.ofL (xd _ _ (sg _ _ upd_same)) upd_same (.cons (i1 _) (.cons (i2 _) (.cons (i3 _) (.cons (.bl true) (.cons (i5 _) .nil))))) (by show 5 ≤ 100; decide), fun H' _ => q H'⟩
end
end NS

namespace NS
open PySem PySem.Spec PyProof.Rows L2
section
variable {P : Program} {w : World} {K : PySem.W.Frag} {mg : Str → Option Value} {base : Heap}
/-! ### law -/
def spLaw (K : PySem.W.Frag) : Sp := fun vs H Q _ => ∃ (a : Addr) (ns : List Int), vs = [.ref a] ∧ SqL K H a (ns.map V.int) ∧ ns.length ≤ 63 ∧ ∀ H', Q (.bl true) H'
theorem ok_law {f C fI : Addr} {fd : FuncData} (F : Fun K "law" "law" sLaw f fd) (L : Lib K mg) (N : PySem.NpX.NpTxt K mg C fI) (T : Tx mg) : FnOk P w K mg base CX0 6 f fd ["_law_script"] (spLaw K) := by
  obtain ⟨fNu, fdNu, Nu⟩ := L.nu
  obtain ⟨fTo, fdTo, To⟩ := L.to
  obtain ⟨fSu, fdSu, Su⟩ := L.su
  obtain ⟨fNx, fdNx, Nx⟩ := L.nx
  obtain ⟨fLa, fdLa, La⟩ := L.la
  obtain ⟨fB, fdB, B⟩ := L.be
  obtain ⟨fC, fdC, Ch⟩ := L.ch
  obtain ⟨fSh, fdSh, Sh⟩ := L.sh
  obtain ⟨fSm, fdSm, Sm⟩ := L.sm
  obtain ⟨fLC, fdLC, LC⟩ := L.lc
  obtain ⟨fHa, fdHa, Ha⟩ := L.ha
  obtain ⟨fRi, fdRi, Ri⟩ := L.ri
  obtain ⟨fBx, fdBx, Bx⟩ := L.bx
  obtain ⟨fCe, fdCe, Ce⟩ := L.ce
  have GHa : FnOk P w K mg base CX0 5 fHa fdHa [] spHand := ok_hand Ha.F Nx La B Ch Sh LC Sm Su Nu To N T
  have GRi : FnOk P w K mg base CX0 5 fRi fdRi ["_law_urn"] spRight := ok_right Ri.F L N T
  have GBx : FnOk P w K mg base CX0 5 fBx fdBx ["_law_script", "_law_k"] spBox := (ok_box Bx.F T).mono (by decide)
  have GCe : FnOk P w K mg base CX0 5 fCe fdCe ["_law_script", "_law_top"] (spCells K) := (ok_cells Ce.F T).mono (by decide)
  refine F.ok scLaw (fun vs H Q E h => ?_) (fun cdv A outer s H vs Q E hr h => ?_)
  · obtain ⟨a, ns, rfl, _⟩ := h
    rfl
  · obtain ⟨a, ns, rfl, ha, hl, q⟩ := h
    refine ⟨_, pss_one (ps_ret (pe_and2 (pe_call0 GHa hr (by rfl) Ha.g Ha.F.kp Ha.b .nil pass0)
      (pe_call GRi hr (by rfl) Ri.g Ri.F.kp Ri.b .nil pass0 (pa_cons (pe_call GBx hr (by rfl) Bx.g Bx.F.kp Bx.b .nil pass0 (pa_cons (pe_call GCe hr (by rfl) Ce.g Ce.F.kp Ce.b .nil pass0 (pa_cons (pv 0) (pa_cons pe_int pa_nil))) (pa_cons pe_int pa_nil))) pa_nil)))), ?_⟩
    refine ⟨rfl, fun H1 s1 => ⟨true, rfl, iteT ?_⟩⟩
    refine ⟨_, rfl, a, ns, rfl, s1.seq ha, hl, fun H2 p c s2 ep => ?_⟩
    refine ⟨p, c, rfl, ep, fun H3 u s3 _ hu => ?_⟩
    exact ⟨u, rfl, hu, q⟩
end
end NS

namespace NS
open PySem PySem.Spec PyProof.Rows L2
/-! ### the end -/
theorem exm_self {K : PySem.W.Frag} {S : Addr} (h1 : PySem.W.subIn K (.ref S) (.type "BaseException") = some true) (h2 : PySem.W.isClsIn K S = true) (h3 : PySem.W.typeIn K (.ref S) = some (.type "type")) (h4 : PySem.W.subIn K (.ref S) (.ref S) = some true) :
    PySem.W.exmOne K (.ref S) (.ref S) = some true := by
  have e1 : (PySem.W.subIn K (.ref S) (.type "BaseException") == some true) = true := by rw [h1] <;> rfl
  have e2 : ((PySem.W.clsIn K S).isSome && PySem.W.typeIn K (.ref S) == some (.type "type")) = true := by
    have h2' : (PySem.W.clsIn K S).isSome = true := h2
    rw [h2', h3] <;> rfl
  show (if (PySem.W.subIn K (.ref S) (.type "BaseException") == some true) = true then (if ((PySem.W.clsIn K S).isSome && PySem.W.typeIn K (.ref S) == some (.type "type")) = true then PySem.W.subIn K (.ref S) (.ref S) else none) else none) = some true
  rw [if_pos e1, if_pos e2]
  exact h4
/-- a def as the head has it -/
theorem has_mk {K : PySem.W.Frag} {h : Heap} {mg : Str → Option Value} (X : K.In h) (G : h.Ns mainGlobals mg) {x : Str} {st : Stmt} {f : Addr} {ps : List Str} {oc : Value} {od an : Option Addr} {sl : Array (Option Value)} {kV dc pm cd ct : Value}
    (a : PySem.W.nsIn K mainGlobals x = some (some (.ref f))) (l : K.lookup f = some ⟨oc, od, .func (PySem.W.fnOf x x (defArgs st) (defBody st) (defScope st) .none kV dc pm an cd ct), sl⟩) (c : PySem.W.codeIn K cd x = true) (k : PySem.W.keepIn K (.ref f) = true)
    (b : ∀ (kV doc pm : Value) (an : Option Addr) (cdv ct : Value) (us : List Value), us.length = ps.length → bindArgs (PySem.W.fnOf x x (defArgs st) (defBody st) (defScope st) .none kV doc pm an cdv ct) ⟨us, []⟩ = pure (ps.zip us)) :
    ∃ f fd, Has K mg x st f fd ps := ⟨f, _, fun_mk (st := st) l c k, PySem.W.mg_of X G a, (fun_mk (st := st) l c k).binds b⟩
/-- what the head has written, of each def, of the class and of the built-ins -/
theorem all_mk {P : Program} {w : World} {K : PySem.W.Frag} {h : Heap} {mg : Str → Option Value} {fa C fI : Addr} (X : K.In h) (G : h.Ns mainGlobals mg) (hfa : mg "law" = some (.ref fa))
    {nm q : Str} {N : Addr} {bs : List Value} {sn : List Str} {sub : List Value} {ab : Bool} {col : Option Bool} {dd : Option Addr} {m0 m1 m2 m3 m5 : Option Value} {odI anI : Option Addr} {slI : Array (Option Value)} {ocI dcI pmI cdI ctI : Value}
    (aC : PySem.W.nsIn K mainGlobals "NoPlace" = some (some (.ref C)))
    (xL : K.lookup C = some (excClassObj nm q C N bs [.type "LookupError", .type "Exception", .type "BaseException", .type "object"] true sn sub ab col dd m0 m1 m2 m3 m5 "LookupError.__new__"))
    (sa : PySem.W.findIn K (.ref C) "__setattr__" = some (some (.builtin "object.__setattr__"))) (ga : PySem.W.findIn K (.ref C) "__getattribute__" = some (some (.builtin "BaseException.__getattribute__"))) (gg : PySem.W.findIn K (.ref C) "__getattr__" = some none) (nb : PySem.W.findIn K (.ref C) "place" = some none)
    (a0 : PySem.W.findIn K (.ref C) "__init__" = some (some (.ref fI))) (t0 : PySem.W.typeIn K (.ref fI) = some (.type "function"))
    (l0 : K.lookup fI = some ⟨ocI, odI, .func (PySem.W.fnOf "__init__" "NoPlace.__init__" (PySem.NpX.iA ⟨4, 17, 4, 21⟩ ⟨4, 23, 4, 28⟩) (PySem.NpX.iB ⟨5, 8, 5, 12⟩ ⟨5, 8, 5, 18⟩ ⟨5, 21, 5, 26⟩ ⟨5, 8, 5, 26⟩) PySem.NpX.iS .none .none dcI pmI anI cdI ctI), slI⟩) (c0 : PySem.W.codeIn K cdI "NoPlace.__init__" = true)
    (kC : PySem.W.keepIn K (.ref C) = true) (eC : PySem.W.subIn K (.ref C) (.type "BaseException") = some true) (tC : PySem.W.typeIn K (.ref C) = some (.type "type")) (hC : PySem.W.hasDictIn K C = true) (iC : PySem.W.isClsIn K C = true) (sC : PySem.W.subIn K (.ref C) (.ref C) = some true)
    {f_nu : Addr} {od_nu an_nu : Option Addr} {sl_nu : Array (Option Value)} {oc_nu kV_nu dc_nu pm_nu cd_nu ct_nu : Value} (a_nu : PySem.W.nsIn K mainGlobals "is_number" = some (some (.ref f_nu)))
    (l_nu : K.lookup f_nu = some ⟨oc_nu, od_nu, .func (PySem.W.fnOf "is_number" "is_number" (defArgs sNum) (defBody sNum) (defScope sNum) .none kV_nu dc_nu pm_nu an_nu cd_nu ct_nu), sl_nu⟩) (c_nu : PySem.W.codeIn K cd_nu "is_number" = true) (k_nu : PySem.W.keepIn K (.ref f_nu) = true)
    {f_to : Addr} {od_to an_to : Option Addr} {sl_to : Array (Option Value)} {oc_to kV_to dc_to pm_to cd_to ct_to : Value} (a_to : PySem.W.nsIn K mainGlobals "tuple_of" = some (some (.ref f_to)))
    (l_to : K.lookup f_to = some ⟨oc_to, od_to, .func (PySem.W.fnOf "tuple_of" "tuple_of" (defArgs sTof) (defBody sTof) (defScope sTof) .none kV_to dc_to pm_to an_to cd_to ct_to), sl_to⟩) (c_to : PySem.W.codeIn K cd_to "tuple_of" = true) (k_to : PySem.W.keepIn K (.ref f_to) = true)
    {f_ito : Addr} {od_ito an_ito : Option Addr} {sl_ito : Array (Option Value)} {oc_ito kV_ito dc_ito pm_ito cd_ito ct_ito : Value} (a_ito : PySem.W.nsIn K mainGlobals "is_tuple_of" = some (some (.ref f_ito)))
    (l_ito : K.lookup f_ito = some ⟨oc_ito, od_ito, .func (PySem.W.fnOf "is_tuple_of" "is_tuple_of" (defArgs sIto) (defBody sIto) (defScope sIto) .none kV_ito dc_ito pm_ito an_ito cd_ito ct_ito), sl_ito⟩) (c_ito : PySem.W.codeIn K cd_ito "is_tuple_of" = true) (k_ito : PySem.W.keepIn K (.ref f_ito) = true)
    {f_le : Addr} {od_le an_le : Option Addr} {sl_le : Array (Option Value)} {oc_le kV_le dc_le pm_le cd_le ct_le : Value} (a_le : PySem.W.nsIn K mainGlobals "is_letter" = some (some (.ref f_le)))
    (l_le : K.lookup f_le = some ⟨oc_le, od_le, .func (PySem.W.fnOf "is_letter" "is_letter" (defArgs sLet) (defBody sLet) (defScope sLet) .none kV_le dc_le pm_le an_le cd_le ct_le), sl_le⟩) (c_le : PySem.W.codeIn K cd_le "is_letter" = true) (k_le : PySem.W.keepIn K (.ref f_le) = true)
    {f_te : Addr} {od_te an_te : Option Addr} {sl_te : Array (Option Value)} {oc_te kV_te dc_te pm_te cd_te ct_te : Value} (a_te : PySem.W.nsIn K mainGlobals "is_text" = some (some (.ref f_te)))
    (l_te : K.lookup f_te = some ⟨oc_te, od_te, .func (PySem.W.fnOf "is_text" "is_text" (defArgs sTxt) (defBody sTxt) (defScope sTxt) .none kV_te dc_te pm_te an_te cd_te ct_te), sl_te⟩) (c_te : PySem.W.codeIn K cd_te "is_text" = true) (k_te : PySem.W.keepIn K (.ref f_te) = true)
    {f_lts : Addr} {od_lts an_lts : Option Addr} {sl_lts : Array (Option Value)} {oc_lts kV_lts dc_lts pm_lts cd_lts ct_lts : Value} (a_lts : PySem.W.nsIn K mainGlobals "is_letters" = some (some (.ref f_lts)))
    (l_lts : K.lookup f_lts = some ⟨oc_lts, od_lts, .func (PySem.W.fnOf "is_letters" "is_letters" (defArgs sLts) (defBody sLts) (defScope sLts) .none kV_lts dc_lts pm_lts an_lts cd_lts ct_lts), sl_lts⟩) (c_lts : PySem.W.codeIn K cd_lts "is_letters" = true) (k_lts : PySem.W.keepIn K (.ref f_lts) = true)
    {f_ich : Addr} {od_ich an_ich : Option Addr} {sl_ich : Array (Option Value)} {oc_ich kV_ich dc_ich pm_ich cd_ich ct_ich : Value} (a_ich : PySem.W.nsIn K mainGlobals "is_change" = some (some (.ref f_ich)))
    (l_ich : K.lookup f_ich = some ⟨oc_ich, od_ich, .func (PySem.W.fnOf "is_change" "is_change" (defArgs sIch) (defBody sIch) (defScope sIch) .none kV_ich dc_ich pm_ich an_ich cd_ich ct_ich), sl_ich⟩) (c_ich : PySem.W.codeIn K cd_ich "is_change" = true) (k_ich : PySem.W.keepIn K (.ref f_ich) = true)
    {f_su : Addr} {od_su an_su : Option Addr} {sl_su : Array (Option Value)} {oc_su kV_su dc_su pm_su cd_su ct_su : Value} (a_su : PySem.W.nsIn K mainGlobals "sure_place" = some (some (.ref f_su)))
    (l_su : K.lookup f_su = some ⟨oc_su, od_su, .func (PySem.W.fnOf "sure_place" "sure_place" (defArgs sSure) (defBody sSure) (defScope sSure) .none kV_su dc_su pm_su an_su cd_su ct_su), sl_su⟩) (c_su : PySem.W.codeIn K cd_su "sure_place" = true) (k_su : PySem.W.keepIn K (.ref f_su) = true)
    {f_nx : Addr} {od_nx an_nx : Option Addr} {sl_nx : Array (Option Value)} {oc_nx kV_nx dc_nx pm_nx cd_nx ct_nx : Value} (a_nx : PySem.W.nsIn K mainGlobals "next_place" = some (some (.ref f_nx)))
    (l_nx : K.lookup f_nx = some ⟨oc_nx, od_nx, .func (PySem.W.fnOf "next_place" "next_place" (defArgs sNext) (defBody sNext) (defScope sNext) .none kV_nx dc_nx pm_nx an_nx cd_nx ct_nx), sl_nx⟩) (c_nx : PySem.W.codeIn K cd_nx "next_place" = true) (k_nx : PySem.W.keepIn K (.ref f_nx) = true)
    {f_la : Addr} {od_la an_la : Option Addr} {sl_la : Array (Option Value)} {oc_la kV_la dc_la pm_la cd_la ct_la : Value} (a_la : PySem.W.nsIn K mainGlobals "last_place" = some (some (.ref f_la)))
    (l_la : K.lookup f_la = some ⟨oc_la, od_la, .func (PySem.W.fnOf "last_place" "last_place" (defArgs sLast) (defBody sLast) (defScope sLast) .none kV_la dc_la pm_la an_la cd_la ct_la), sl_la⟩) (c_la : PySem.W.codeIn K cd_la "last_place" = true) (k_la : PySem.W.keepIn K (.ref f_la) = true)
    {f_be : Addr} {od_be an_be : Option Addr} {sl_be : Array (Option Value)} {oc_be kV_be dc_be pm_be cd_be ct_be : Value} (a_be : PySem.W.nsIn K mainGlobals "between" = some (some (.ref f_be)))
    (l_be : K.lookup f_be = some ⟨oc_be, od_be, .func (PySem.W.fnOf "between" "between" (defArgs sBetw) (defBody sBetw) (defScope sBetw) .none kV_be dc_be pm_be an_be cd_be ct_be), sl_be⟩) (c_be : PySem.W.codeIn K cd_be "between" = true) (k_be : PySem.W.keepIn K (.ref f_be) = true)
    {f_ch : Addr} {od_ch an_ch : Option Addr} {sl_ch : Array (Option Value)} {oc_ch kV_ch dc_ch pm_ch cd_ch ct_ch : Value} (a_ch : PySem.W.nsIn K mainGlobals "changed" = some (some (.ref f_ch)))
    (l_ch : K.lookup f_ch = some ⟨oc_ch, od_ch, .func (PySem.W.fnOf "changed" "changed" (defArgs sChg) (defBody sChg) (defScope sChg) .none kV_ch dc_ch pm_ch an_ch cd_ch ct_ch), sl_ch⟩) (c_ch : PySem.W.codeIn K cd_ch "changed" = true) (k_ch : PySem.W.keepIn K (.ref f_ch) = true)
    {f_sh : Addr} {od_sh an_sh : Option Addr} {sl_sh : Array (Option Value)} {oc_sh kV_sh dc_sh pm_sh cd_sh ct_sh : Value} (a_sh : PySem.W.nsIn K mainGlobals "shorter" = some (some (.ref f_sh)))
    (l_sh : K.lookup f_sh = some ⟨oc_sh, od_sh, .func (PySem.W.fnOf "shorter" "shorter" (defArgs sShort) (defBody sShort) (defScope sShort) .none kV_sh dc_sh pm_sh an_sh cd_sh ct_sh), sl_sh⟩) (c_sh : PySem.W.codeIn K cd_sh "shorter" = true) (k_sh : PySem.W.keepIn K (.ref f_sh) = true)
    {f_bx : Addr} {od_bx an_bx : Option Addr} {sl_bx : Array (Option Value)} {oc_bx kV_bx dc_bx pm_bx cd_bx ct_bx : Value} (a_bx : PySem.W.nsIn K mainGlobals "_law_box" = some (some (.ref f_bx)))
    (l_bx : K.lookup f_bx = some ⟨oc_bx, od_bx, .func (PySem.W.fnOf "_law_box" "_law_box" (defArgs sBox) (defBody sBox) (defScope sBox) .none kV_bx dc_bx pm_bx an_bx cd_bx ct_bx), sl_bx⟩) (c_bx : PySem.W.codeIn K cd_bx "_law_box" = true) (k_bx : PySem.W.keepIn K (.ref f_bx) = true)
    {f_ta : Addr} {od_ta an_ta : Option Addr} {sl_ta : Array (Option Value)} {oc_ta kV_ta dc_ta pm_ta cd_ta ct_ta : Value} (a_ta : PySem.W.nsIn K mainGlobals "_law_take" = some (some (.ref f_ta)))
    (l_ta : K.lookup f_ta = some ⟨oc_ta, od_ta, .func (PySem.W.fnOf "_law_take" "_law_take" (defArgs sTake) (defBody sTake) (defScope sTake) .none kV_ta dc_ta pm_ta an_ta cd_ta ct_ta), sl_ta⟩) (c_ta : PySem.W.codeIn K cd_ta "_law_take" = true) (k_ta : PySem.W.keepIn K (.ref f_ta) = true)
    {f_ce : Addr} {od_ce an_ce : Option Addr} {sl_ce : Array (Option Value)} {oc_ce kV_ce dc_ce pm_ce cd_ce ct_ce : Value} (a_ce : PySem.W.nsIn K mainGlobals "_law_cells" = some (some (.ref f_ce)))
    (l_ce : K.lookup f_ce = some ⟨oc_ce, od_ce, .func (PySem.W.fnOf "_law_cells" "_law_cells" (defArgs sCells) (defBody sCells) (defScope sCells) .none kV_ce dc_ce pm_ce an_ce cd_ce ct_ce), sl_ce⟩) (c_ce : PySem.W.codeIn K cd_ce "_law_cells" = true) (k_ce : PySem.W.keepIn K (.ref f_ce) = true)
    {f_sm : Addr} {od_sm an_sm : Option Addr} {sl_sm : Array (Option Value)} {oc_sm kV_sm dc_sm pm_sm cd_sm ct_sm : Value} (a_sm : PySem.W.nsIn K mainGlobals "_law_same" = some (some (.ref f_sm)))
    (l_sm : K.lookup f_sm = some ⟨oc_sm, od_sm, .func (PySem.W.fnOf "_law_same" "_law_same" (defArgs sSame) (defBody sSame) (defScope sSame) .none kV_sm dc_sm pm_sm an_sm cd_sm ct_sm), sl_sm⟩) (c_sm : PySem.W.codeIn K cd_sm "_law_same" = true) (k_sm : PySem.W.keepIn K (.ref f_sm) = true)
    {f_ow : Addr} {od_ow an_ow : Option Addr} {sl_ow : Array (Option Value)} {oc_ow kV_ow dc_ow pm_ow cd_ow ct_ow : Value} (a_ow : PySem.W.nsIn K mainGlobals "_law_of" = some (some (.ref f_ow)))
    (l_ow : K.lookup f_ow = some ⟨oc_ow, od_ow, .func (PySem.W.fnOf "_law_of" "_law_of" (defArgs sOf) (defBody sOf) (defScope sOf) .none kV_ow dc_ow pm_ow an_ow cd_ow ct_ow), sl_ow⟩) (c_ow : PySem.W.codeIn K cd_ow "_law_of" = true) (k_ow : PySem.W.keepIn K (.ref f_ow) = true)
    {f_tt : Addr} {od_tt an_tt : Option Addr} {sl_tt : Array (Option Value)} {oc_tt kV_tt dc_tt pm_tt cd_tt ct_tt : Value} (a_tt : PySem.W.nsIn K mainGlobals "_law_text" = some (some (.ref f_tt)))
    (l_tt : K.lookup f_tt = some ⟨oc_tt, od_tt, .func (PySem.W.fnOf "_law_text" "_law_text" (defArgs sText) (defBody sText) (defScope sText) .none kV_tt dc_tt pm_tt an_tt cd_tt ct_tt), sl_tt⟩) (c_tt : PySem.W.codeIn K cd_tt "_law_text" = true) (k_tt : PySem.W.keepIn K (.ref f_tt) = true)
    {f_ll : Addr} {od_ll an_ll : Option Addr} {sl_ll : Array (Option Value)} {oc_ll kV_ll dc_ll pm_ll cd_ll ct_ll : Value} (a_ll : PySem.W.nsIn K mainGlobals "_law_letters" = some (some (.ref f_ll)))
    (l_ll : K.lookup f_ll = some ⟨oc_ll, od_ll, .func (PySem.W.fnOf "_law_letters" "_law_letters" (defArgs sLetters) (defBody sLetters) (defScope sLetters) .none kV_ll dc_ll pm_ll an_ll cd_ll ct_ll), sl_ll⟩) (c_ll : PySem.W.codeIn K cd_ll "_law_letters" = true) (k_ll : PySem.W.keepIn K (.ref f_ll) = true)
    {f_ln : Addr} {od_ln an_ln : Option Addr} {sl_ln : Array (Option Value)} {oc_ln kV_ln dc_ln pm_ln cd_ln ct_ln : Value} (a_ln : PySem.W.nsIn K mainGlobals "_law_next" = some (some (.ref f_ln)))
    (l_ln : K.lookup f_ln = some ⟨oc_ln, od_ln, .func (PySem.W.fnOf "_law_next" "_law_next" (defArgs sLNext) (defBody sLNext) (defScope sLNext) .none kV_ln dc_ln pm_ln an_ln cd_ln ct_ln), sl_ln⟩) (c_ln : PySem.W.codeIn K cd_ln "_law_next" = true) (k_ln : PySem.W.keepIn K (.ref f_ln) = true)
    {f_lz : Addr} {od_lz an_lz : Option Addr} {sl_lz : Array (Option Value)} {oc_lz kV_lz dc_lz pm_lz cd_lz ct_lz : Value} (a_lz : PySem.W.nsIn K mainGlobals "_law_last" = some (some (.ref f_lz)))
    (l_lz : K.lookup f_lz = some ⟨oc_lz, od_lz, .func (PySem.W.fnOf "_law_last" "_law_last" (defArgs sLLast) (defBody sLLast) (defScope sLLast) .none kV_lz dc_lz pm_lz an_lz cd_lz ct_lz), sl_lz⟩) (c_lz : PySem.W.codeIn K cd_lz "_law_last" = true) (k_lz : PySem.W.keepIn K (.ref f_lz) = true)
    {f_lc : Addr} {od_lc an_lc : Option Addr} {sl_lc : Array (Option Value)} {oc_lc kV_lc dc_lc pm_lc cd_lc ct_lc : Value} (a_lc : PySem.W.nsIn K mainGlobals "_law_changed" = some (some (.ref f_lc)))
    (l_lc : K.lookup f_lc = some ⟨oc_lc, od_lc, .func (PySem.W.fnOf "_law_changed" "_law_changed" (defArgs sLChg) (defBody sLChg) (defScope sLChg) .none kV_lc dc_lc pm_lc an_lc cd_lc ct_lc), sl_lc⟩) (c_lc : PySem.W.codeIn K cd_lc "_law_changed" = true) (k_lc : PySem.W.keepIn K (.ref f_lc) = true)
    {f_du : Addr} {od_du an_du : Option Addr} {sl_du : Array (Option Value)} {oc_du kV_du dc_du pm_du cd_du ct_du : Value} (a_du : PySem.W.nsIn K mainGlobals "_law_due" = some (some (.ref f_du)))
    (l_du : K.lookup f_du = some ⟨oc_du, od_du, .func (PySem.W.fnOf "_law_due" "_law_due" (defArgs sDue) (defBody sDue) (defScope sDue) .none kV_du dc_du pm_du an_du cd_du ct_du), sl_du⟩) (c_du : PySem.W.codeIn K cd_du "_law_due" = true) (k_du : PySem.W.keepIn K (.ref f_du) = true)
    {f_ri : Addr} {od_ri an_ri : Option Addr} {sl_ri : Array (Option Value)} {oc_ri kV_ri dc_ri pm_ri cd_ri ct_ri : Value} (a_ri : PySem.W.nsIn K mainGlobals "_law_right" = some (some (.ref f_ri)))
    (l_ri : K.lookup f_ri = some ⟨oc_ri, od_ri, .func (PySem.W.fnOf "_law_right" "_law_right" (defArgs sRight) (defBody sRight) (defScope sRight) .none kV_ri dc_ri pm_ri an_ri cd_ri ct_ri), sl_ri⟩) (c_ri : PySem.W.codeIn K cd_ri "_law_right" = true) (k_ri : PySem.W.keepIn K (.ref f_ri) = true)
    {f_ha : Addr} {od_ha an_ha : Option Addr} {sl_ha : Array (Option Value)} {oc_ha kV_ha dc_ha pm_ha cd_ha ct_ha : Value} (a_ha : PySem.W.nsIn K mainGlobals "_law_by_hand_right" = some (some (.ref f_ha)))
    (l_ha : K.lookup f_ha = some ⟨oc_ha, od_ha, .func (PySem.W.fnOf "_law_by_hand_right" "_law_by_hand_right" (defArgs sHand) (defBody sHand) (defScope sHand) .none kV_ha dc_ha pm_ha an_ha cd_ha ct_ha), sl_ha⟩) (c_ha : PySem.W.codeIn K cd_ha "_law_by_hand_right" = true) (k_ha : PySem.W.keepIn K (.ref f_ha) = true)
    {f_lw : Addr} {od_lw an_lw : Option Addr} {sl_lw : Array (Option Value)} {oc_lw kV_lw dc_lw pm_lw cd_lw ct_lw : Value} (a_lw : PySem.W.nsIn K mainGlobals "law" = some (some (.ref f_lw)))
    (l_lw : K.lookup f_lw = some ⟨oc_lw, od_lw, .func (PySem.W.fnOf "law" "law" (defArgs sLaw) (defBody sLaw) (defScope sLaw) .none kV_lw dc_lw pm_lw an_lw cd_lw ct_lw), sl_lw⟩) (c_lw : PySem.W.codeIn K cd_lw "law" = true) (k_lw : PySem.W.keepIn K (.ref f_lw) = true)
    (z_isi : PySem.W.nsIn K mainGlobals "isinstance" = some none)
    (z_int : PySem.W.nsIn K mainGlobals "int" = some none)
    (z_bool : PySem.W.nsIn K mainGlobals "bool" = some none)
    (z_list : PySem.W.nsIn K mainGlobals "list" = some none)
    (z_tuple : PySem.W.nsIn K mainGlobals "tuple" = some none)
    (z_len : PySem.W.nsIn K mainGlobals "len" = some none)
    (z_all : PySem.W.nsIn K mainGlobals "all" = some none)
    (z_zip : PySem.W.nsIn K mainGlobals "zip" = some none)
    (z_str : PySem.W.nsIn K mainGlobals "str" = some none)
    (z_range : PySem.W.nsIn K mainGlobals "range" = some none)
    (z_sorted : PySem.W.nsIn K mainGlobals "sorted" = some none)
    (z_set : PySem.W.nsIn K mainGlobals "set" = some none)
    (z_max : PySem.W.nsIn K mainGlobals "max" = some none)
    (z_min : PySem.W.nsIn K mainGlobals "min" = some none)
    (z_abs : PySem.W.nsIn K mainGlobals "abs" = some none)
    (z_enum : PySem.W.nsIn K mainGlobals "enumerate" = some none) :
    ∃ fd : FuncData, (∀ (s : Shared) (v : Value), BindsTo s fd ⟨[v], []⟩ [("_law_script", v)]) ∧ ∀ base : Heap, K.In base → base.Ns mainGlobals mg → FnOk P w K mg base CX0 6 fa fd ["_law_script"] (spLaw K) := by
  have e := hfa.symm.trans (PySem.W.mg_of X G a_lw)
  cases e
  have NP : PySem.NpX.NpTxt K mg C fI :=
    { gC := PySem.W.mg_of X G aC, cls := ⟨nm, q, N, bs, _, sn, sub, ab, col, dd, m0, m1, m2, m3, m5, xL, rfl⟩, sa := sa, ga := ga, gg := gg, noN := nb, iC := a0, tC := t0, kC := kC, exC := eC, tyC := tC, hdC := hC, te := exm_self eC iC tC sC,
      fn := ⟨_, _, _, _, _, _, _, _, _, _, _, _, _, _, l0, c0⟩ }
  have T : Tx mg := ⟨PySem.W.mg_none_of X G z_isi, PySem.W.mg_none_of X G z_int, PySem.W.mg_none_of X G z_bool, PySem.W.mg_none_of X G z_list, PySem.W.mg_none_of X G z_tuple, PySem.W.mg_none_of X G z_len, PySem.W.mg_none_of X G z_all, PySem.W.mg_none_of X G z_zip, PySem.W.mg_none_of X G z_str, PySem.W.mg_none_of X G z_range, PySem.W.mg_none_of X G z_sorted, PySem.W.mg_none_of X G z_set, PySem.W.mg_none_of X G z_max, PySem.W.mg_none_of X G z_min, PySem.W.mg_none_of X G z_abs, PySem.W.mg_none_of X G z_enum⟩
  have L : Lib K mg :=
    { nu := has_mk X G (ps := ["thing"]) a_nu l_nu c_nu k_nu fun _ _ _ _ _ _ us hl => match us, hl with | [_], _ => rfl,
      to := has_mk X G (ps := ["thing"]) a_to l_to c_to k_to fun _ _ _ _ _ _ us hl => match us, hl with | [_], _ => rfl,
      ito := has_mk X G (ps := ["thing", "many"]) a_ito l_ito c_ito k_ito fun _ _ _ _ _ _ us hl => match us, hl with | [_, _], _ => rfl,
      le := has_mk X G (ps := ["wide", "thing"]) a_le l_le c_le k_le fun _ _ _ _ _ _ us hl => match us, hl with | [_, _], _ => rfl,
      te := has_mk X G (ps := ["wide", "thing"]) a_te l_te c_te k_te fun _ _ _ _ _ _ us hl => match us, hl with | [_, _], _ => rfl,
      lts := has_mk X G (ps := ["wide", "thing"]) a_lts l_lts c_lts k_lts fun _ _ _ _ _ _ us hl => match us, hl with | [_, _], _ => rfl,
      ich := has_mk X G (ps := ["wide", "thing"]) a_ich l_ich c_ich k_ich fun _ _ _ _ _ _ us hl => match us, hl with | [_, _], _ => rfl,
      su := has_mk X G (ps := ["text", "place"]) a_su l_su c_su k_su fun _ _ _ _ _ _ us hl => match us, hl with | [_, _], _ => rfl,
      nx := has_mk X G (ps := ["text", "place", "letters"]) a_nx l_nx c_nx k_nx fun _ _ _ _ _ _ us hl => match us, hl with | [_, _, _], _ => rfl,
      la := has_mk X G (ps := ["text", "place", "letters"]) a_la l_la c_la k_la fun _ _ _ _ _ _ us hl => match us, hl with | [_, _, _], _ => rfl,
      be := has_mk X G (ps := ["text", "near", "far"]) a_be l_be c_be k_be fun _ _ _ _ _ _ us hl => match us, hl with | [_, _, _], _ => rfl,
      ch := has_mk X G (ps := ["text", "change"]) a_ch l_ch c_ch k_ch fun _ _ _ _ _ _ us hl => match us, hl with | [_, _], _ => rfl,
      sh := has_mk X G (ps := ["one", "other"]) a_sh l_sh c_sh k_sh fun _ _ _ _ _ _ us hl => match us, hl with | [_, _], _ => rfl,
      bx := has_mk X G (ps := ["_law_script", "_law_k"]) a_bx l_bx c_bx k_bx fun _ _ _ _ _ _ us hl => match us, hl with | [_, _], _ => rfl,
      ta := has_mk X G (ps := ["_law_urn", "_law_low_so"]) a_ta l_ta c_ta k_ta fun _ _ _ _ _ _ us hl => match us, hl with | [_, _], _ => rfl,
      ce := has_mk X G (ps := ["_law_script", "_law_top"]) a_ce l_ce c_ce k_ce fun _ _ _ _ _ _ us hl => match us, hl with | [_, _], _ => rfl,
      sm := has_mk X G (ps := ["_law_got", "_law_goal"]) a_sm l_sm c_sm k_sm fun _ _ _ _ _ _ us hl => match us, hl with | [_, _], _ => rfl,
      ow := has_mk X G (ps := ["_law_urn", "_law_goods"]) a_ow l_ow c_ow k_ow fun _ _ _ _ _ _ us hl => match us, hl with | [_, _], _ => rfl,
      tt := has_mk X G (ps := ["_law_urn", "_law_wide", "_law_most"]) a_tt l_tt c_tt k_tt fun _ _ _ _ _ _ us hl => match us, hl with | [_, _, _], _ => rfl,
      ll := has_mk X G (ps := ["_law_urn", "_law_wide"]) a_ll l_ll c_ll k_ll fun _ _ _ _ _ _ us hl => match us, hl with | [_, _], _ => rfl,
      ln := has_mk X G (ps := ["_law_text_here", "_law_place", "_law_letters_here"]) a_ln l_ln c_ln k_ln fun _ _ _ _ _ _ us hl => match us, hl with | [_, _, _], _ => rfl,
      lz := has_mk X G (ps := ["_law_text_here", "_law_place", "_law_letters_here"]) a_lz l_lz c_lz k_lz fun _ _ _ _ _ _ us hl => match us, hl with | [_, _, _], _ => rfl,
      lc := has_mk X G (ps := ["_law_text_here", "_law_change"]) a_lc l_lc c_lc k_lc fun _ _ _ _ _ _ us hl => match us, hl with | [_, _], _ => rfl,
      du := has_mk X G (ps := ["_law_text_here", "_law_change"]) a_du l_du c_du k_du fun _ _ _ _ _ _ us hl => match us, hl with | [_, _], _ => rfl,
      ri := has_mk X G (ps := ["_law_urn"]) a_ri l_ri c_ri k_ri fun _ _ _ _ _ _ us hl => match us, hl with | [_], _ => rfl,
      ha := has_mk X G (ps := []) a_ha l_ha c_ha k_ha fun _ _ _ _ _ _ us hl => match us, hl with | [], _ => rfl }
  have FL := fun_mk (st := sLaw) l_lw c_lw k_lw
  exact ⟨_, fun s v => .of_eq rfl, fun base _ _ => ok_law FL L NP T⟩
end NS
open PySem PySem.W PyProof.Rows
set_option maxHeartbeats 0 in
theorem PySem.Challenge.cw_nextsuch_k02_whole_words_and_changes_holds : PySem.Challenge.rw_nextsuch_k02_whole_words_and_changes.Holds := by
  w_on; o_law; k_head; (case hw => w_witness2)
  k_fill
  refine L2.walk_of (l := PySem.Challenge.rw_nextsuch_k02_whole_words_and_changes) (n := 63) (k := 6) (x := "_law_script") (CX := fun _ => L2.CX0) (sp := fun w => NS.spLaw _) rfl (by decide) rfl ⟨rfl, by decide, by decide⟩ (fun w h Y => PySem.W.kIn_of Y) ?F (fun _ _ a ns hl _ hS => ⟨a, ns, rfl, hS, hl, fun _ => rfl⟩) (fun _ _ _ _ _ h => h)
  case F =>
    intro w mg fa h KX G hmg
    refine' NS.all_mk KX G hmg ?aC ?xL ?sa ?ga ?gg ?nb ?a0 ?t0 ?l0 ?c0 ?kC ?eC ?tC ?hC ?iC ?sC ?a_nu ?l_nu ?c_nu ?k_nu ?a_to ?l_to ?c_to ?k_to ?a_ito ?l_ito ?c_ito ?k_ito ?a_le ?l_le ?c_le ?k_le ?a_te ?l_te ?c_te ?k_te ?a_lts ?l_lts ?c_lts ?k_lts ?a_ich ?l_ich ?c_ich ?k_ich ?a_su ?l_su ?c_su ?k_su ?a_nx ?l_nx ?c_nx ?k_nx ?a_la ?l_la ?c_la ?k_la ?a_be ?l_be ?c_be ?k_be ?a_ch ?l_ch ?c_ch ?k_ch ?a_sh ?l_sh ?c_sh ?k_sh ?a_bx ?l_bx ?c_bx ?k_bx ?a_ta ?l_ta ?c_ta ?k_ta ?a_ce ?l_ce ?c_ce ?k_ce ?a_sm ?l_sm ?c_sm ?k_sm ?a_ow ?l_ow ?c_ow ?k_ow ?a_tt ?l_tt ?c_tt ?k_tt ?a_ll ?l_ll ?c_ll ?k_ll ?a_ln ?l_ln ?c_ln ?k_ln ?a_lz ?l_lz ?c_lz ?k_lz ?a_lc ?l_lc ?c_lc ?k_lc ?a_du ?l_du ?c_du ?k_du ?a_ri ?l_ri ?c_ri ?k_ri ?a_ha ?l_ha ?c_ha ?k_ha ?a_lw ?l_lw ?c_lw ?k_lw ?z_isi ?z_int ?z_bool ?z_list ?z_tuple ?z_len ?z_all ?z_zip ?z_str ?z_range ?z_sorted ?z_set ?z_max ?z_min ?z_abs ?z_enum
    (case aC => k_is); (case xL => k_is); (case sa => k_is); (case ga => k_is); (case gg => k_is); (case nb => k_is); (case a0 => k_is); (case t0 => k_is)
    (case l0 => k_is); (case c0 => k_is); (case kC => k_is); (case eC => k_is); (case tC => k_is); (case hC => k_is); (case iC => k_is); (case sC => first | rfl | k_is)
    (case a_nu => k_is); (case l_nu => k_is); (case c_nu => k_is); (case k_nu => k_is); (case a_to => k_is); (case l_to => k_is); (case c_to => k_is); (case k_to => k_is)
    (case a_ito => k_is); (case l_ito => k_is); (case c_ito => k_is); (case k_ito => k_is); (case a_le => k_is); (case l_le => k_is); (case c_le => k_is); (case k_le => k_is)
    (case a_te => k_is); (case l_te => k_is); (case c_te => k_is); (case k_te => k_is); (case a_lts => k_is); (case l_lts => k_is); (case c_lts => k_is); (case k_lts => k_is)
    (case a_ich => k_is); (case l_ich => k_is); (case c_ich => k_is); (case k_ich => k_is); (case a_su => k_is); (case l_su => k_is); (case c_su => k_is); (case k_su => k_is)
    (case a_nx => k_is); (case l_nx => k_is); (case c_nx => k_is); (case k_nx => k_is); (case a_la => k_is); (case l_la => k_is); (case c_la => k_is); (case k_la => k_is)
    (case a_be => k_is); (case l_be => k_is); (case c_be => k_is); (case k_be => k_is); (case a_ch => k_is); (case l_ch => k_is); (case c_ch => k_is); (case k_ch => k_is)
    (case a_sh => k_is); (case l_sh => k_is); (case c_sh => k_is); (case k_sh => k_is); (case a_bx => k_is); (case l_bx => k_is); (case c_bx => k_is); (case k_bx => k_is)
    (case a_ta => k_is); (case l_ta => k_is); (case c_ta => k_is); (case k_ta => k_is); (case a_ce => k_is); (case l_ce => k_is); (case c_ce => k_is); (case k_ce => k_is)
    (case a_sm => k_is); (case l_sm => k_is); (case c_sm => k_is); (case k_sm => k_is); (case a_ow => k_is); (case l_ow => k_is); (case c_ow => k_is); (case k_ow => k_is)
    (case a_tt => k_is); (case l_tt => k_is); (case c_tt => k_is); (case k_tt => k_is); (case a_ll => k_is); (case l_ll => k_is); (case c_ll => k_is); (case k_ll => k_is)
    (case a_ln => k_is); (case l_ln => k_is); (case c_ln => k_is); (case k_ln => k_is); (case a_lz => k_is); (case l_lz => k_is); (case c_lz => k_is); (case k_lz => k_is)
    (case a_lc => k_is); (case l_lc => k_is); (case c_lc => k_is); (case k_lc => k_is); (case a_du => k_is); (case l_du => k_is); (case c_du => k_is); (case k_du => k_is)
    (case a_ri => k_is); (case l_ri => k_is); (case c_ri => k_is); (case k_ri => k_is); (case a_ha => k_is); (case l_ha => k_is); (case c_ha => k_is); (case k_ha => k_is)
    (case a_lw => k_is); (case l_lw => k_is); (case c_lw => k_is); (case k_lw => k_is); (case z_isi => k_is); (case z_int => k_is); (case z_bool => k_is); (case z_list => k_is)
    (case z_tuple => k_is); (case z_len => k_is); (case z_all => k_is); (case z_zip => k_is); (case z_str => k_is); (case z_range => k_is); (case z_sorted => k_is); (case z_set => k_is)
    (case z_max => k_is); (case z_min => k_is); (case z_abs => k_is); (case z_enum => k_is)
