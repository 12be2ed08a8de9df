import PyProof.Rows.All
import HandS.ForMost
import HandS.IsInst
import HandS.Style
import HandS.Flow
import HandS.TupAny
import HandS.TupLe
import KE.DataMinMax
import HandS.Strs
import HandS.Evl
import KE.KStrOpen
import HandS.Text
import HandS.Replace
import HandS.Deep
import HandS.Conv
import PySem.Challenge.RW_tworeadings_k57_whole_packings_and_miles
set_option Elab.async false
set_option linter.all false
set_option autoImplicit false
set_option maxRecDepth 100000
namespace WL
open PySem PySem.Spec L2

/-! ### tuples made here: known to bear no dict -/
def tupO (its : List Value) : Obj := { cls := .type "tuple", data := .seq its.toArray }
def SqD (F : Hp) (a : Addr) (vs : List V) : Prop := ∃ its, F a = some (.frz (tupO its) (.tup vs))
theorem SqD.sq {K : PySem.W.Frag} {F : Hp} {a : Addr} {vs : List V} (h : SqD F a vs) : SqT K F a vs := let ⟨_, h⟩ := h; .inl (.inr ⟨_, h⟩)
theorem SqD.mono {F F' : Hp} {a : Addr} {vs : List V} (e : ∀ a o, F a = some o → F' a = some o) (h : SqD F a vs) : SqD F' a vs := let ⟨i, h⟩ := h; ⟨i, e _ _ h⟩
abbrev newTup (H : Hp) (p : Addr) (its : List Value) (vs : List V) : Hp := upd H p (.frz (tupO its) (.tup vs))
section
variable {X : Cx}
theorem lay_tup {pins : List (Addr × Obj)} {σ : L2.St} {H : Hp} {s : Shared} {xs : List V} {us : List Value} (I : Inv X pins σ H s) (r : Vals xs us) (z : xs.length ≤ sizeLine) :
    Inv X pins σ (newTup H s.heap.objs.size us xs) { s with heap := s.heap.push (tupO us) } ∧ H s.heap.objs.size = none := by
  have hf := I.hok.fresh (Nat.le_refl s.heap.objs.size)
  have hg : (s.heap.push (tupO us)).get? s.heap.objs.size = some (tupO us) := Heap.get?_push_size _ rfl
  refine ⟨?_, hf⟩
  have := I.laid (a := s.heap.objs.size) (o := .frz (tupO us) (.tup xs)) (h' := s.heap.push (tupO us)) (t' := s.toks) (fun b u e => Heap.get?_push_of_some _ e) (Nat.le_refl _) ⟨hg, z, us, r, ⟨_, hg, rfl, _, rfl⟩⟩
  exact this
def tTupD (t : TA) : TE := fun σ H Q => t σ H fun xs H1 => xs.length ≤ sizeLine ∧ ∀ p its, H1 p = none → Q (.ref p) (newTup H1 p its xs)
theorem pe_tupD {es : List Expr} {t : TA} {pos : Pos} {x1} (h : PA X es t) : PE X (.Tuple es x1 pos) (tTupD t) := by
  refine ⟨fun pins s σ H Q I hq => wpAny_Tuple_spliced (thn (h.run pos pins s σ H _ I hq) ?_)⟩
  rintro us s1 ⟨xs, H1, I1, r, z, q⟩
  obtain ⟨J, hf⟩ := lay_tup I1 r z
  exact ⟨r.length ▸ z, .ref _, _, J, rfl, q _ us hf⟩
theorem call_tupleD : CallR X (.type "tuple") (fun xs H Q => ∃ p ys, xs = [.ref p] ∧ ((SqL X.K H p ys ∧ ∀ l its, H l = none → Q (.ref l) (newTup H l its ys)) ∨ (SqT X.K H p ys ∧ Q (.ref p) H))) := by
  rintro pins s σ H xs us Q I r ⟨p, ys, rfl, h⟩
  rw [Vals.ref1 r]
  rcases h with ⟨hq, q⟩ | ⟨hq, q⟩
  · obtain ⟨its, rv, pl, hz⟩ := I.list hq
    refine call_tuple_list pl.isList (fun h' kp => ?_) (by rw [List.size_toArray, ← rv.length]; exact hz)
    obtain ⟨J, hf⟩ := lay_tup (I.kept (t' := s.toks) kp : Inv X pins σ H { s with heap := h' }) rv hz
    exact ⟨.ref _, _, J, rfl, q _ its hf⟩
  · obtain ⟨its, _, pl, _⟩ := I.tuple hq
    exact call_tuple_same pl ⟨.ref _, H, I, rfl, q⟩
def rCatD (K : PySem.W.Frag) : R2 := fun x y H Q => ∃ a b xs ys, x = .ref a ∧ y = .ref b ∧ SqT K H a xs ∧ SqT K H b ys ∧ xs.length + ys.length ≤ sizeLine ∧
  (xs = [] → Q (.ref b) H) ∧ (xs ≠ [] → ys = [] → Q (.ref a) H) ∧ (xs ≠ [] → ys ≠ [] → ∀ p its, H p = none → Q (.ref p) (newTup H p its (xs ++ ys)))
theorem op_catD : OpR X (binaryOp .Add) (rCatD X.K) := by
  rintro pins s σ H x y v u Q I rx ry ⟨a, b, xs, ys, rfl, rfl, ha, hb, hz, q0, q1, q2⟩
  cases rx; cases ry
  obtain ⟨i1, r1, p1, _⟩ := I.tuple ha
  obtain ⟨i2, r2, p2, _⟩ := I.tuple hb
  by_cases hx : xs = []
  · rw [r1.nil_iff.mpr hx] at p1
    exact cat_tup0 p1 p2 ⟨.ref _, H, I, rfl, q0 hx⟩
  · refine HT.cat_tup p1 p2 (fun z => hx (r1.nil_iff.mp z)) (fun z => ⟨.ref _, H, I, rfl, q1 hx (r2.nil_iff.mp z)⟩) (fun z => ?_) (by rw [← r1.length, ← r2.length]; exact hz)
    obtain ⟨J, hf⟩ := lay_tup I (r1.append r2) (by rw [List.length_append]; exact hz)
    exact ⟨.ref _, _, J, rfl, q2 hx (fun w => z (r2.nil_iff.mpr w)) _ _ hf⟩
def rSlD (K : PySem.W.Frag) : V → Option Int → Option Int → Hp → VK → Prop := fun x lo hi H Q => ∃ a xs, x = .ref a ∧ SqT K H a xs ∧
  (HT.sIx xs.length 0 lo = 0 ∧ HT.sIx xs.length xs.length hi = xs.length → Q (.ref a) H) ∧ (¬ (HT.sIx xs.length 0 lo = 0 ∧ HT.sIx xs.length xs.length hi = xs.length) → ∀ p its, H p = none → Q (.ref p) (newTup H p its (cutV xs lo hi)))
theorem sl_tupD : SlR X (rSlD X.K) := by
  rintro pins s σ H x v vl vu lo hi sl Q I rx hs pl pu ⟨a, xs, rfl, hx, q1, q2⟩
  cases rx
  obtain ⟨its, r, ht, hz⟩ := I.tuple hx
  have hlen : its.toArray.size = xs.length := (List.size_toArray (as := its)).trans r.length.symm
  refine ⟨"tuple", _, PyProof.Rows.slot_tuple_getitem.lookup, ht.typeIs, ?_⟩
  by_cases hw : HT.sIx xs.length 0 lo = 0 ∧ HT.sIx xs.length xs.length hi = xs.length
  · exact getItem_tuple_whole ht hs pl pu (hlen ▸ hw) ⟨.ref _, H, I, rfl, q1 hw⟩
  · refine HT.getItem_tuple_cut ht hs pl pu (hlen ▸ hw) ?_ (hlen ▸ hz)
    rw [hlen]
    obtain ⟨J, hf⟩ := lay_tup (xs := cutV xs lo hi) I ((r.drop (HT.sIx xs.length 0 lo)).take (HT.sIx xs.length xs.length hi - HT.sIx xs.length 0 lo)) (Nat.le_trans (cutV_length xs lo hi) hz)
    exact ⟨.ref _, _, J, rfl, q2 hw _ _ hf⟩

/-! ### t[::-1] -/
theorem places_rev (n : Nat) : Builtin.Slice.sliceAdjust none none (-1) (n : Int) = ((n : Int) - 1, -1) ∧ Builtin.Slice.slicePlaces ((n : Int) - 1) (-1) (-1) = n := by
  constructor
  · unfold Builtin.Slice.sliceAdjust
    simp
  · unfold Builtin.Slice.slicePlaces
    simp
    omega
theorem pick_rev (vs : List Value) : ((List.range vs.toArray.size).filterMap fun (k : Nat) => vs.toArray[(((vs.toArray.size : Int) - 1) + (k : Int) * (-1)).toNat]?).toArray = vs.reverse.toArray := by
  congr 1
  have e : (fun (k : Nat) => vs.toArray[(((vs.toArray.size : Int) - 1) + (k : Int) * (-1)).toNat]?) = fun (k : Nat) => vs[(((vs.length : Int) - 1) + (k : Int) * (-1)).toNat]? := by
    funext k; rw [List.getElem?_toArray, List.size_toArray]
  rw [e, List.size_toArray]
  have h : ∀ m, m ≤ vs.length → (List.range m).filterMap (fun (k : Nat) => vs[(((vs.length : Int) - 1) + (k : Int) * (-1)).toNat]?) = vs.reverse.take m := by
    intro m
    induction m with
    | zero => intro _; rfl
    | succ m ih =>
      intro hm
      rw [List.range_succ, List.filterMap_append, ih (by omega), List.take_add_one]
      congr 1
      have e2 : (((vs.length : Int) - 1) + (m : Int) * (-1)).toNat = vs.length - 1 - m := by omega
      rw [List.filterMap_cons, e2, List.getElem?_reverse (by omega)]
      cases hq : vs[vs.length - 1 - m]? with
      | none => rfl
      | some v => rfl
  rw [h _ (Nat.le_refl _), List.take_of_length_le (by rw [List.length_reverse]; exact Nat.le_refl _)]
theorem slApplied_rev {prog : Program} {w : World} {A : Around} {E : Value → Shared → Prop} {s : Shared} {sl : Addr} {n : Nat} {tk : Tok} {Q1 : Int × Int × Nat → Shared → Prop} (hS : s.heap.IsSliceOf sl .none .none (.int (-1) tk)) (q : Q1 ((n : Int) - 1, -1, n) s) :
    wpAny (model prog w) A (Builtin.Slice.sliceApplied (.ref sl) (pure (n : Int))) Q1 E s := by
  obtain ⟨ob, h1, h2, h3⟩ := id hS
  unfold Builtin.Slice.sliceApplied Builtin.Slice.sliceFields
  refine wpAny_bind (wpAny_bind (wpAny_field h1 h3 (x := .none) rfl (wpAny_bind (wpAny_field h1 h3 (x := .none) rfl (wpAny_bind (wpAny_field h1 h3 (x := .int (-1) tk) rfl (wpAny_pure ?_)))))))
  refine wpAny_bind (PyProof.Rows.slicePart_int ?_)
  show wpAny _ _ (if ((-1 : Int) == 0) = true then _ else _) _ _ s
  rw [if_neg (by decide)]
  refine wpAny_bind (PyProof.Rows.slicePart_none (wpAny_bind (PyProof.Rows.slicePart_none (wpAny_bind (wpAny_pure ?_)))))
  show wpAny _ _ (match Builtin.Slice.sliceAdjust none none (-1) (n : Int) with | (lo, hi) => pure (lo, (-1 : Int), Builtin.Slice.slicePlaces lo hi (-1))) _ _ s
  rw [(places_rev _).1]
  show wpAny _ _ (pure ((n : Int) - 1, (-1 : Int), Builtin.Slice.slicePlaces ((n : Int) - 1) (-1) (-1))) _ _ s
  rw [(places_rev _).2]
  exact wpAny_pure q
theorem getItem_tupRev {prog : Program} {w : World} {A : Around} {E : Value → Shared → Prop} {s : Shared} {p sl : Addr} {vs : List Value} {tk : Tok} {Q : Value → Shared → Prop} (hT : PyProof.Rows.IsTup s.heap p vs.toArray) (hS : s.heap.IsSliceOf sl .none .none (.int (-1) tk))
    (h : Q (.ref s.heap.objs.size) { s with heap := s.heap.push (tupO vs.reverse) }) (hz : vs.length ≤ sizeLine) : wpAny (model prog w) A (getItem (.ref p) (.ref sl)) Q E s := by
  obtain ⟨ob, h1, h2, h3⟩ := id hS
  have hTs : s.TypeIs (.ref sl) "slice" := ⟨ob, h1, h2⟩
  unfold getItem
  try with_reducible refine wpAny_holding ?_
  first | refine wpAny_bind (wpAny_pure ?_) | skip
  refine wpAny_bind (wpAny_sequenceKey hT.typeIs (by decide) ?_)
  refine wpAny_bind (wpAny_callSpecial?_slot (name := Str.ofString "__getitem__") hT.typeIs PyProof.Rows.slot_tuple_getitem
    (wpAny_call_entry PyProof.Rows.slot_tuple_getitem hT.typeIs PyProof.Rows.entry_tuple_getitem ?_ (PyProof.Rows.args_tuple_getitem _ _)))
  show wpAny _ _ (Builtin.Tuple.tupleItemsOf (.ref p) >>= _) _ _ s
  refine wpAny_bind (PyProof.Rows.tupleItemsOf_ hT ?_)
  refine wpAny_bind (wpAny_typeOf hTs ?_)
  rw [if_pos (by decide)]
  refine wpAny_bind (slApplied_rev hS ?_)
  have hno : ¬ (((vs.toArray.size : Int) - 1 == 0 && (-1 : Int) == 1 && vs.toArray.size == vs.toArray.size) = true) := by simp
  show wpAny _ _ (if ((vs.toArray.size : Int) - 1 == 0 && (-1 : Int) == 1 && vs.toArray.size == vs.toArray.size) = true then _ else _) _ _ s
  rw [if_neg hno, pick_rev]
  have hsz : sizeOk (.seq vs.reverse.toArray) := by
    show vs.reverse.toArray.size ≤ sizeLine
    rw [List.size_toArray, List.length_reverse]; exact hz
  first
    | exact wpAny_bind (m := Builtin.Tuple.tupleExact _) (wpAny_newObj_type (wpAny_pure ⟨_, rfl, wpAny_pure h⟩) hsz)
    | exact wpAny_bind (m := Builtin.Tuple.tupleExact _) (wpAny_newObj_type (wpAny_bind (wpAny_pure (wpAny_pure ⟨_, rfl, wpAny_pure h⟩))) hsz)
    | exact wpAny_bind (wpAny_bind (m := Builtin.Tuple.tupleExact _) (wpAny_newObj_type (wpAny_pure (wpAny_pure ⟨_, rfl, wpAny_pure h⟩)) hsz))
    | exact wpAny_bind (wpAny_bind (m := Builtin.Tuple.tupleExact _) (wpAny_newObj_type (wpAny_pure ⟨_, rfl, wpAny_pure h⟩) hsz))
end
end WL
set_option Elab.async false
set_option linter.all false
set_option autoImplicit false
set_option maxRecDepth 100000
namespace WL
open PySem PySem.Spec L2

/-! ### values by what they hold -/
inductive D where
  | non | bl (b : Bool) | int (i : Int) | str (x : List Nat) | tup (xs : List D) | lst (xs : List D) | dct (ks vs : List D) | box

abbrev mkS (x : List Nat) : Str := ⟨x.toArray⟩
theorem mkS_len (x : List Nat) : (mkS x).length = x.length := by simp [mkS, Str.length]
theorem mkS_inj {x y : List Nat} : mkS x = mkS y ↔ x = y := by
  constructor
  · intro h
    have := congrArg (fun s : Str => s.cps.toList) h
    simpa [mkS] using this
  · intro h; rw [h]

/-- the one thing that calls may change in place -/
structure Bx where
  at_ : Addr
  foot : Addr → Prop
  inv : Hp → Prop
  loc : ∀ H H' : Hp, (∀ a, foot a → H' a = H a) → inv H → inv H'
  there : ∀ H : Hp, inv H → ∀ a, foot a → H a ≠ none

def Ex (H H' : Hp) : Prop := ∀ a o, H a = some o → H' a = some o
theorem Ex.refl (H : Hp) : Ex H H := fun _ _ h => h
theorem Ex.trans {H H1 H2 : Hp} (a : Ex H H1) (b : Ex H1 H2) : Ex H H2 := fun x o h => b x o (a x o h)
theorem Ex.new {H : Hp} {p : Addr} {o : HO} (h : H p = none) : Ex H (upd H p o) := fun a u e => by
  rw [upd_ne (ne_of_none e h)]
  exact e
theorem ex_rd {H H' : Hp} {a : Addr} {u : HO} (e : Ex H H') (h : Rd H a u) : Rd H' a u := by
  rcases h with h | ⟨o, h⟩
  · exact Or.inl (e a _ h)
  · exact Or.inr ⟨o, e a _ h⟩
theorem ex_l {K : PySem.W.Frag} {H H' : Hp} {a : Addr} {xs : List V} (e : Ex H H') (h : SqL K H a xs) : SqL K H' a xs := h.imp (ex_rd e) id
theorem ex_t {K : PySem.W.Frag} {H H' : Hp} {a : Addr} {xs : List V} (e : Ex H H') (h : SqT K H a xs) : SqT K H' a xs := h.imp (ex_rd e) id

/-- a text of ASCII signs within the line -/
def okS (x : List Nat) : Prop := x.length ≤ sizeLine ∧ ∀ c ∈ x, c < 128
/-- a key of a dict with whole numbers and texts as keys -/
def keyD : D → Option Key
  | .int i => some (.inl i)
  | .str x => some (.inr (mkS x))
  | _ => none

mutual
def Rep (K : PySem.W.Frag) (β : Bx) (F : Hp) : D → V → Prop
  | .non, v => v = .non
  | .bl b, v => v = .bl b
  | .int i, v => v = .int i
  | .str x, v => v = .str (mkS x) ∧ okS x
  | .tup ds, v => ∃ a vs, v = .ref a ∧ SqD F a vs ∧ ds.length ≤ sizeLine ∧ RepL K β F ds vs
  | .lst ds, v => ∃ a vs, v = .ref a ∧ F a = some (.lst vs) ∧ ds.length ≤ sizeLine ∧ RepL K β F ds vs
  | .dct ks ds, v => ∃ a kvs, v = .ref a ∧ F a = some (.dK kvs) ∧ ks.map keyD = kvs.map (fun p => some p.1) ∧ RepL K β F ds (kvs.map (·.2))
  | .box, v => v = .ref β.at_
def RepL (K : PySem.W.Frag) (β : Bx) (F : Hp) : List D → List V → Prop
  | [], vs => vs = []
  | d :: ds, vs => ∃ v ws, vs = v :: ws ∧ Rep K β F d v ∧ RepL K β F ds ws
end

section
variable {K : PySem.W.Frag} {β : Bx} {F F' H H' : Hp}
mutual
theorem Rep.mono (e : Ex F F') : ∀ {d : D} {v : V}, Rep K β F d v → Rep K β F' d v
  | .non, _, h => by rw [Rep] at h ⊢; exact h
  | .bl _, _, h => by rw [Rep] at h ⊢; exact h
  | .int _, _, h => by rw [Rep] at h ⊢; exact h
  | .str _, _, h => by rw [Rep] at h ⊢; exact h
  | .tup ds, _, h => by
    rw [Rep] at h ⊢
    obtain ⟨a, vs, h1, h2, h3, h4⟩ := h
    exact ⟨a, vs, h1, h2.mono e, h3, RepL.mono e h4⟩
  | .lst ds, _, h => by
    rw [Rep] at h ⊢
    obtain ⟨a, vs, h1, h2, h3, h4⟩ := h
    exact ⟨a, vs, h1, e _ _ h2, h3, RepL.mono e h4⟩
  | .dct ks ds, _, h => by
    rw [Rep] at h ⊢
    obtain ⟨a, kvs, h1, h2, h3, h4⟩ := h
    exact ⟨a, kvs, h1, e _ _ h2, h3, RepL.mono e h4⟩
  | .box, _, h => by rw [Rep] at h ⊢; exact h
theorem RepL.mono (e : Ex F F') : ∀ {ds : List D} {vs : List V}, RepL K β F ds vs → RepL K β F' ds vs
  | [], _, h => by rw [RepL] at h ⊢; exact h
  | d :: ds, _, h => by
    rw [RepL] at h ⊢
    obtain ⟨v, ws, h1, h2, h3⟩ := h
    exact ⟨v, ws, h1, Rep.mono e h2, RepL.mono e h3⟩
end
theorem RepL.length : ∀ {ds : List D} {vs : List V}, RepL K β F ds vs → vs.length = ds.length
  | [], _, h => by rw [RepL] at h; rw [h]; rfl
  | d :: ds, _, h => by
    rw [RepL] at h
    obtain ⟨v, ws, h1, h2, h3⟩ := h
    rw [h1, List.length_cons, List.length_cons, RepL.length h3]
theorem RepL.nil : RepL K β F [] [] := by rw [RepL]
theorem RepL.cons {d : D} {ds : List D} {v : V} {vs : List V} (h : Rep K β F d v) (t : RepL K β F ds vs) : RepL K β F (d :: ds) (v :: vs) := by
  rw [RepL]; exact ⟨v, vs, rfl, h, t⟩
theorem RepL.append : ∀ {ds es : List D} {vs ws : List V}, RepL K β F ds vs → RepL K β F es ws → RepL K β F (ds ++ es) (vs ++ ws)
  | [], _, _, _, h, t => by rw [RepL] at h; rw [h]; exact t
  | d :: ds, es, _, ws, h, t => by
    rw [RepL] at h
    obtain ⟨v, us, rfl, h2, h3⟩ := h
    exact RepL.cons h2 (RepL.append h3 t)
theorem RepL.get : ∀ {ds : List D} {vs : List V} {i : Nat} {d : D}, RepL K β F ds vs → ds[i]? = some d → ∃ v, vs[i]? = some v ∧ Rep K β F d v
  | [], _, _, _, _, e => by simp at e
  | d :: ds, _, 0, _, h, e => by
    rw [RepL] at h
    obtain ⟨v, us, rfl, h2, h3⟩ := h
    simp at e; subst e
    exact ⟨v, by simp, h2⟩
  | d :: ds, _, i + 1, _, h, e => by
    rw [RepL] at h
    obtain ⟨v, us, rfl, h2, h3⟩ := h
    obtain ⟨w, e1, e2⟩ := RepL.get (i := i) h3 (by simpa using e)
    exact ⟨w, by simpa using e1, e2⟩
theorem RepL.getV {ds : List D} {vs : List V} {i : Nat} {v : V} (h : RepL K β F ds vs) (e : vs[i]? = some v) : ∃ d, ds[i]? = some d ∧ Rep K β F d v := by
  have hl := h.length
  have hi : i < ds.length := by rw [← hl]; exact (List.getElem?_eq_some_iff.mp e).1
  obtain ⟨w, e1, e2⟩ := h.get (i := i) (d := ds[i]) (by simp [hi])
  rw [e] at e1; cases e1
  exact ⟨ds[i], by simp [hi], e2⟩
theorem RepL.set : ∀ {ds : List D} {vs : List V} (i : Nat) {d : D} {v : V}, RepL K β F ds vs → Rep K β F d v → RepL K β F (ds.set i d) (vs.set i v)
  | [], _, _, _, _, h, _ => by rw [RepL] at h; rw [h]; exact RepL.nil
  | _ :: _, _, 0, _, _, h, t => by
    rw [RepL] at h
    obtain ⟨v, us, rfl, h2, h3⟩ := h
    exact RepL.cons t h3
  | _ :: _, _, i + 1, _, _, h, t => by
    rw [RepL] at h
    obtain ⟨v, us, rfl, h2, h3⟩ := h
    exact RepL.cons h2 (RepL.set i h3 t)
theorem RepL.take : ∀ {ds : List D} {vs : List V} (i : Nat), RepL K β F ds vs → RepL K β F (ds.take i) (vs.take i)
  | [], _, _, h => by rw [RepL] at h; rw [h]; simpa using RepL.nil
  | _ :: _, _, 0, _ => by simpa using RepL.nil
  | _ :: _, _, i + 1, h => by
    rw [RepL] at h
    obtain ⟨v, us, rfl, h2, h3⟩ := h
    exact RepL.cons h2 (RepL.take i h3)
theorem RepL.drop : ∀ {ds : List D} {vs : List V} (i : Nat), RepL K β F ds vs → RepL K β F (ds.drop i) (vs.drop i)
  | [], _, _, h => by rw [RepL] at h; rw [h]; simpa using RepL.nil
  | _ :: _, _, 0, h => h
  | _ :: _, _, i + 1, h => by
    rw [RepL] at h
    obtain ⟨v, us, rfl, h2, h3⟩ := h
    exact RepL.drop i h3
theorem RepL.rep : ∀ {ds : List D} {vs : List V} (k : Nat), RepL K β F ds vs → RepL K β F (List.replicate k ds).flatten (List.replicate k vs).flatten
  | _, _, 0, _ => RepL.nil
  | _, _, k + 1, h => by
    rw [List.replicate_succ, List.replicate_succ, List.flatten_cons, List.flatten_cons]
    exact h.append (RepL.rep k h)
theorem RepL.erase : ∀ {ds : List D} {vs : List V} (i : Nat), RepL K β F ds vs → RepL K β F (ds.eraseIdx i) (vs.eraseIdx i)
  | [], _, _, h => by rw [RepL] at h; rw [h]; exact RepL.nil
  | _ :: _, _, 0, h => by
    rw [RepL] at h
    obtain ⟨v, us, rfl, h2, h3⟩ := h
    exact h3
  | _ :: _, _, i + 1, h => by
    rw [RepL] at h
    obtain ⟨v, us, rfl, h2, h3⟩ := h
    exact RepL.cons h2 (RepL.erase i h3)
end

/-! ### what stands in a slot -/
inductive Slot where
  | un | val (d : D) | own (d : D)
/-- what an expression gives: a value; a new object that nobody else holds; the object of a slot -/
inductive R where
  | val (d : D) | own (d : D) | bor (i : Nat) (d : D)
@[reducible] def R.d : R → D
  | .val d => d
  | .own d => d
  | .bor _ d => d
@[reducible] def R.fz : R → R
  | .own d => .val d
  | r => r
abbrev WEnv := List Slot
def ObjAt (K : PySem.W.Frag) (β : Bx) (F H : Hp) (a : Addr) : D → Prop
  | .lst ds => ∃ vs, H a = some (.lst vs) ∧ ds.length ≤ sizeLine ∧ RepL K β F ds vs
  | .dct ks ds => ∃ kvs, H a = some (.dK kvs) ∧ ks.map keyD = kvs.map (fun p => some p.1) ∧ RepL K β F ds (kvs.map (·.2))
  | _ => False
structure Rel (K : PySem.W.Frag) (β : Bx) (F Hf : Hp) (ρ : WEnv) (σ : L2.St) (H : Hp) : Prop where
  fex : ∀ a o, F a = some o → H a = some o
  hex : ∀ a o, Hf a = some o → H a = some o ∧ F a = none
  bx : β.inv H
  bxF : ∀ a, β.foot a → F a = none ∧ Hf a = none
  len : ρ.length = σ.length
  val : ∀ (i : Nat) d, ρ[i]? = some (Slot.val d) → ∃ v, σ[i]? = some (some v) ∧ Rep K β F d v
  own : ∀ (i : Nat) d, ρ[i]? = some (Slot.own d) → ∃ a, σ[i]? = some (some (V.ref a)) ∧ F a = none ∧ Hf a = none ∧ ¬ β.foot a ∧ ObjAt K β F H a d
  sep : ∀ (i j : Nat) di dj a, ρ[i]? = some (Slot.own di) → ρ[j]? = some (Slot.own dj) → σ[i]? = some (some (V.ref a)) → σ[j]? = some (some (V.ref a)) → i = j
/-- nobody's own: a is not the object of a slot -/
def NoOwn (ρ : WEnv) (σ : L2.St) (a : Addr) : Prop := ∀ (i : Nat) d, ρ[i]? = some (Slot.own d) → σ[i]? ≠ some (some (V.ref a))
def RepR (K : PySem.W.Frag) (β : Bx) (F Hf : Hp) (ρ : WEnv) (σ : L2.St) (H : Hp) : R → V → Prop
  | .val d, v => Rep K β F d v
  | .own d, v => ∃ a, v = .ref a ∧ F a = none ∧ Hf a = none ∧ ¬ β.foot a ∧ NoOwn ρ σ a ∧ ObjAt K β F H a d
  | .bor i d, v => ρ[i]? = some (Slot.own d) ∧ σ[i]? = some (some v)
/-- what stays while other things are asked -/
def RepA (K : PySem.W.Frag) (β : Bx) (F : Hp) (ρ : WEnv) (σ : L2.St) : R → V → Prop
  | .val d, v => Rep K β F d v
  | .own _, _ => False
  | .bor i d, v => ρ[i]? = some (Slot.own d) ∧ σ[i]? = some (some v)
/-- what can be read -/
def RepO (K : PySem.W.Frag) (β : Bx) (F H : Hp) (d : D) (v : V) : Prop := Rep K β F d v ∨ ∃ a, v = .ref a ∧ ObjAt K β F H a d

section
variable {K : PySem.W.Frag} {β : Bx} {F F' Hf H H' : Hp} {ρ : WEnv} {σ : L2.St}
theorem ObjAt.mono {a : Addr} {d : D} (e : Ex F F') (h : ObjAt K β F H a d) : ObjAt K β F' H a d := by
  cases d <;> first
    | exact h
    | (obtain ⟨vs, h1, h2, h3⟩ := h; exact ⟨vs, h1, h2, h3.mono e⟩)
theorem ObjAt.at {a : Addr} {d : D} (e : H' a = H a) (h : ObjAt K β F H a d) : ObjAt K β F H' a d := by
  cases d <;> first
    | exact h
    | (obtain ⟨vs, h1, h2, h3⟩ := h; exact ⟨vs, e.trans h1, h2, h3⟩)
theorem ObjAt.some {a : Addr} {d : D} (h : ObjAt K β F H a d) : ∃ o, H a = some o := by
  cases d <;> first
    | exact h.elim
    | (obtain ⟨vs, h1, _⟩ := h; exact ⟨_, h1⟩)
theorem RepA.mono {r : R} {v : V} (e : Ex F F') (h : RepA K β F ρ σ r v) : RepA K β F' ρ σ r v := by
  cases r with
  | val d => exact Rep.mono e h
  | own d => exact h
  | bor i d => exact h
theorem RepA.rd (I : Rel K β F Hf ρ σ H) {r : R} {v : V} (h : RepA K β F ρ σ r v) : RepO K β F H r.d v := by
  cases r with
  | val d => exact .inl h
  | own d => exact h.elim
  | bor i d =>
    obtain ⟨h1, h2⟩ := h
    obtain ⟨a, e, _, _, _, ob⟩ := I.own i d h1
    rw [e] at h2
    cases h2
    exact .inr ⟨a, rfl, ob⟩
theorem RepO.lst (I : Rel K β F Hf ρ σ H) {ds : List D} {v : V} (h : RepO K β F H (.lst ds) v) : ∃ a vs, v = .ref a ∧ H a = some (.lst vs) ∧ ds.length ≤ sizeLine ∧ RepL K β F ds vs := by
  rcases h with h | ⟨a, e, h⟩
  · rw [Rep] at h
    obtain ⟨a, vs, h1, h2, h3, h4⟩ := h
    exact ⟨a, vs, h1, I.fex _ _ h2, h3, h4⟩
  · obtain ⟨vs, h1, h2, h3⟩ := h
    exact ⟨a, vs, e, h1, h2, h3⟩
theorem RepO.tupD (I : Rel K β F Hf ρ σ H) {ds : List D} {v : V} (h : RepO K β F H (.tup ds) v) : ∃ a vs, v = .ref a ∧ SqD H a vs ∧ ds.length ≤ sizeLine ∧ RepL K β F ds vs := by
  rcases h with h | ⟨a, e, h⟩
  · rw [Rep] at h
    obtain ⟨a, vs, h1, h2, h3, h4⟩ := h
    exact ⟨a, vs, h1, h2.mono I.fex, h3, h4⟩
  · exact h.elim
theorem RepO.tup (I : Rel K β F Hf ρ σ H) {ds : List D} {v : V} (h : RepO K β F H (.tup ds) v) : ∃ a vs, v = .ref a ∧ SqT K H a vs ∧ ds.length ≤ sizeLine ∧ RepL K β F ds vs :=
  let ⟨a, vs, h1, h2, h3⟩ := h.tupD I; ⟨a, vs, h1, h2.sq, h3⟩
theorem RepO.int {i : Int} {v : V} (h : RepO K β F H (.int i) v) : v = .int i := by
  rcases h with h | ⟨a, e, h⟩
  · rwa [Rep] at h
  · exact h.elim
theorem RepO.bl {i : Bool} {v : V} (h : RepO K β F H (.bl i) v) : v = .bl i := by
  rcases h with h | ⟨a, e, h⟩
  · rwa [Rep] at h
  · exact h.elim
theorem RepO.non {v : V} (h : RepO K β F H .non v) : v = .non := by
  rcases h with h | ⟨a, e, h⟩
  · rwa [Rep] at h
  · exact h.elim
theorem RepO.str {x : List Nat} {v : V} (h : RepO K β F H (.str x) v) : v = .str (mkS x) ∧ okS x := by
  rcases h with h | ⟨a, e, h⟩
  · rwa [Rep] at h
  · exact h.elim
/-- a new object, given away -/
theorem Rel.freeze (I : Rel K β F Hf ρ σ H) {a : Addr} {d : D} (h1 : F a = none) (h2 : Hf a = none) (h3 : ¬ β.foot a) (h4 : NoOwn ρ σ a) (h5 : ObjAt K β F H a d) :
    ∃ F', Ex F F' ∧ Rel K β F' Hf ρ σ H ∧ Rep K β F' d (.ref a) := by
  obtain ⟨o, ho⟩ := h5.some
  have e : Ex F (upd F a o) := Ex.new h1
  refine ⟨upd F a o, e, ⟨fun b u hb => ?_, fun b u hb => ?_, I.bx, fun b hb => ?_, I.len, fun i d' h => ?_, fun i d' h => ?_, I.sep⟩, ?_⟩
  · by_cases hba : b = a
    · subst hba
      rw [upd_same] at hb
      rw [ho]; exact hb
    · rw [upd_ne hba] at hb
      exact I.fex b u hb
  · obtain ⟨q1, q2⟩ := I.hex b u hb
    have hba : b ≠ a := fun z => by subst z; rw [h2] at hb; cases hb
    exact ⟨q1, by rw [upd_ne hba]; exact q2⟩
  · obtain ⟨q1, q2⟩ := I.bxF b hb
    have hba : b ≠ a := fun z => h3 (z ▸ hb)
    exact ⟨by rw [upd_ne hba]; exact q1, q2⟩
  · obtain ⟨v, q1, q2⟩ := I.val i d' h
    exact ⟨v, q1, q2.mono e⟩
  · obtain ⟨b, q1, q2, q3, q4, q5⟩ := I.own i d' h
    have hba : b ≠ a := fun z => h4 i d' h (z ▸ q1)
    exact ⟨b, q1, by rw [upd_ne hba]; exact q2, q3, q4, q5.mono e⟩
  · cases d <;> first
      | exact h5.elim
      | (obtain ⟨vs, g1, g2, g3⟩ := h5
         rw [ho] at g1; cases g1
         rw [Rep]
         exact ⟨a, vs, rfl, upd_same, g2, g3.mono e⟩)
      | (obtain ⟨kvs, g1, g2, g3⟩ := h5
         rw [ho] at g1; cases g1
         rw [Rep]
         exact ⟨a, kvs, rfl, upd_same, g2, g3.mono e⟩)
/-- what an expression gave, kept -/
theorem RepR.keep (I : Rel K β F Hf ρ σ H) {r : R} {v : V} (h : RepR K β F Hf ρ σ H r v) : ∃ F', Ex F F' ∧ Rel K β F' Hf ρ σ H ∧ RepA K β F' ρ σ r.fz v := by
  cases r with
  | val d => exact ⟨F, Ex.refl F, I, h⟩
  | own d =>
    obtain ⟨a, rfl, h1, h2, h3, h4, h5⟩ := h
    obtain ⟨F', e, I', q⟩ := I.freeze h1 h2 h3 h4 h5
    exact ⟨F', e, I', q⟩
  | bor i d => exact ⟨F, Ex.refl F, I, h⟩
/-- the heap grows by an object that is nobody's -/
theorem Rel.grow (I : Rel K β F Hf ρ σ H) {p : Addr} {o : HO} (hp : H p = none) : Rel K β F Hf ρ σ (upd H p o) := by
  have e : Ex H (upd H p o) := Ex.new hp
  have ne : ∀ b u, H b = some u → b ≠ p := fun b u h z => by rw [z, hp] at h; cases h
  refine ⟨fun b u hb => e _ _ (I.fex b u hb), fun b u hb => ⟨e _ _ (I.hex b u hb).1, (I.hex b u hb).2⟩, ?_, I.bxF, I.len, I.val, fun i d h => ?_, I.sep⟩
  · refine β.loc H _ (fun a ha => ?_) I.bx
    have : a ≠ p := fun z => β.there H I.bx a ha (z ▸ hp)
    rw [upd_ne this]
  · obtain ⟨b, q1, q2, q3, q4, q5⟩ := I.own i d h
    obtain ⟨o', ho⟩ := q5.some
    exact ⟨b, q1, q2, q3, q4, q5.at (by rw [upd_ne (ne b o' ho)])⟩
theorem Rel.none_of (I : Rel K β F Hf ρ σ H) {p : Addr} (hp : H p = none) : F p = none ∧ Hf p = none ∧ ¬ β.foot p ∧ NoOwn ρ σ p := by
  refine ⟨?_, ?_, fun z => β.there H I.bx p z hp, fun i d h z => ?_⟩
  · cases h : F p with
    | none => rfl
    | some o => rw [I.fex p o h] at hp; cases hp
  · cases h : Hf p with
    | none => rfl
    | some o => rw [(I.hex p o h).1] at hp; cases hp
  · obtain ⟨b, q1, _, _, _, q5⟩ := I.own i d h
    rw [q1] at z; cases z
    obtain ⟨o, ho⟩ := q5.some
    rw [hp] at ho; cases ho
/-- .. a new list, tuple: nobody's yet -/
theorem Rel.newL (I : Rel K β F Hf ρ σ H) {p : Addr} {vs : List V} {ds : List D} (hp : H p = none) (hz : ds.length ≤ sizeLine) (h : RepL K β F ds vs) :
    Rel K β F Hf ρ σ (upd H p (.lst vs)) ∧ RepR K β F Hf ρ σ (upd H p (.lst vs)) (.own (.lst ds)) (.ref p) := by
  obtain ⟨q1, q2, q3, q4⟩ := I.none_of hp
  exact ⟨I.grow hp, p, rfl, q1, q2, q3, q4, vs, upd_same, hz, h⟩
theorem Rel.newT (I : Rel K β F Hf ρ σ H) {p : Addr} {its : List Value} {vs : List V} {ds : List D} (hp : H p = none) (hz : ds.length ≤ sizeLine) (h : RepL K β F ds vs) :
    ∃ F', Ex F F' ∧ Rel K β F' Hf ρ σ (upd H p (.frz (tupO its) (.tup vs))) ∧ Rep K β F' (.tup ds) (.ref p) := by
  obtain ⟨h1, h2, h3, h4⟩ := I.none_of hp
  have e : Ex F (upd F p (.frz (tupO its) (.tup vs))) := Ex.new h1
  have I1 := I.grow (o := .frz (tupO its) (.tup vs)) hp
  refine ⟨upd F p (.frz (tupO its) (.tup vs)), e, ⟨fun b u hb => ?_, fun b u hb => ?_, I1.bx, fun b hb => ?_, I.len, fun i d' h => ?_, fun i d' h => ?_, I.sep⟩, ?_⟩
  · by_cases hba : b = p
    · subst hba
      rw [upd_same] at hb ⊢
      exact hb
    · rw [upd_ne hba] at hb
      exact I1.fex b u hb
  · obtain ⟨q1, q2⟩ := I1.hex b u hb
    have hba : b ≠ p := fun z => by subst z; rw [h2] at hb; cases hb
    exact ⟨q1, by rw [upd_ne hba]; exact q2⟩
  · obtain ⟨q1, q2⟩ := I.bxF b hb
    have hba : b ≠ p := fun z => h3 (z ▸ hb)
    exact ⟨by rw [upd_ne hba]; exact q1, q2⟩
  · obtain ⟨v, q1, q2⟩ := I.val i d' h
    exact ⟨v, q1, q2.mono e⟩
  · obtain ⟨b, q1, q2, q3, q4, q5⟩ := I1.own i d' h
    have hba : b ≠ p := fun z => h4 i d' h (z ▸ q1)
    exact ⟨b, q1, by rw [upd_ne hba]; exact q2, q3, q4, q5.mono e⟩
  · rw [Rep]
    exact ⟨p, vs, rfl, ⟨its, upd_same⟩, hz, h.mono e⟩
end

/-! ### expressions -/
abbrev WE := WEnv → (R → Prop) → Prop
abbrev WT := WEnv → (Bool → Prop) → Prop
abbrev WAs := WEnv → (List R → Prop) → Prop
def tW (K : PySem.W.Frag) (β : Bx) (w : WE) : TE := fun σ H Q => ∃ F Hf ρ, Rel K β F Hf ρ σ H ∧ w ρ fun r => ∀ F' H' v, Ex F F' → Rel K β F' Hf ρ σ H' → RepR K β F' Hf ρ σ H' r v → Q v H'
/-- .. as an operand -/
def tO (K : PySem.W.Frag) (β : Bx) (w : WE) : TE := fun σ H Q => ∃ F Hf ρ, Rel K β F Hf ρ σ H ∧ w ρ fun r => ∀ F' H' v, Ex F F' → Rel K β F' Hf ρ σ H' → RepA K β F' ρ σ r.fz v → Q v H'
def tWT (K : PySem.W.Frag) (β : Bx) (w : WT) : TT := fun σ H Q => ∃ F Hf ρ, Rel K β F Hf ρ σ H ∧ w ρ fun b => ∀ F' H', Ex F F' → Rel K β F' Hf ρ σ H' → Q b H'
inductive RepAs (K : PySem.W.Frag) (β : Bx) (F : Hp) (ρ : WEnv) (σ : L2.St) : List R → List V → Prop
  | nil : RepAs K β F ρ σ [] []
  | cons {r : R} {v : V} {rs : List R} {vs : List V} : RepA K β F ρ σ r v → RepAs K β F ρ σ rs vs → RepAs K β F ρ σ (r :: rs) (v :: vs)
def tWA (K : PySem.W.Frag) (β : Bx) (w : WAs) : TA := fun σ H Q => ∃ F Hf ρ, Rel K β F Hf ρ σ H ∧ w ρ fun rs => ∀ F' H' vs, Ex F F' → Rel K β F' Hf ρ σ H' → RepAs K β F' ρ σ rs vs → Q vs H'
structure PW (X : Cx) (β : Bx) (e : Expr) (w : WE) : Prop where
  mono : ∀ ρ P P', (∀ r, P r → P' r) → w ρ P → w ρ P'
  run : PE X e (tW X.K β w)
structure PWT (X : Cx) (β : Bx) (e : Expr) (w : WT) : Prop where
  mono : ∀ ρ P P', (∀ r, P r → P' r) → w ρ P → w ρ P'
  run : PT X e (tWT X.K β w)
structure PWA (X : Cx) (β : Bx) (es : List Expr) (w : WAs) : Prop where
  mono : ∀ ρ P P', (∀ r, P r → P' r) → w ρ P → w ρ P'
  run : PA X es (tWA X.K β w)
theorem imp_E {X : Cx} {e : Expr} {t t' : TE} (h : PE X e t) (i : ∀ σ H Q, t' σ H Q → t σ H Q) : PE X e t' := ⟨fun pins s σ H Q I q => h.run pins s σ H Q I (i σ H Q q)⟩
theorem imp_T {X : Cx} {e : Expr} {t t' : TT} (h : PT X e t) (i : ∀ σ H Q, t' σ H Q → t σ H Q) : PT X e t' := ⟨fun pins s σ H Q I q => h.run pins s σ H Q I (i σ H Q q)⟩
theorem imp_A {X : Cx} {es : List Expr} {t t' : TA} (h : PA X es t) (i : ∀ σ H Q, t' σ H Q → t σ H Q) : PA X es t' := ⟨fun pos pins s σ H Q I q => h.run pos pins s σ H Q I (i σ H Q q)⟩
section
variable {X : Cx} {β : Bx} {a b c e : Expr} {w wa wb wc : WE} {pos : Pos}
theorem PW.opnd (h : PW X β e w) : PE X e (tO X.K β w) := imp_E h.run fun σ H Q q => by
  obtain ⟨F, Hf, ρ, I, q⟩ := q
  refine ⟨F, Hf, ρ, I, h.mono ρ _ _ (fun r k F' H' v e I' rr => ?_) q⟩
  obtain ⟨F2, e2, I2, r2⟩ := rr.keep I'
  exact k F2 H' v (e.trans e2) I2 r2

/-! names, constants -/
def wName (i : Nat) : WE := fun ρ P => match ρ[i]? with
  | some (.val d) => P (.val d)
  | some (.own d) => P (.bor i d)
  | _ => False
theorem pw_name (i : Nat) {x : Str} (h : PE X (.Name x pos) (tVar i)) : PW X β (.Name x pos) (wName i) := by
  refine ⟨fun ρ P P' k q => ?_, imp_E h fun σ H Q q => ?_⟩
  · unfold wName at q ⊢
    split at q
    · exact k _ q
    · exact k _ q
    · exact q.elim
  · obtain ⟨F, Hf, ρ, I, q⟩ := q
    unfold wName at q
    split at q
    · rename_i d hd
      obtain ⟨v, e, r⟩ := I.val i d hd
      exact ⟨v, e, q F H v (Ex.refl F) I r⟩
    · rename_i d hd
      obtain ⟨a, e, _⟩ := I.own i d hd
      exact ⟨.ref a, e, q F H _ (Ex.refl F) I ⟨hd, e⟩⟩
    · exact q.elim
def wC (d : D) : WE := fun _ P => P (.val d)
theorem pw_c {d : D} {v : V} (h : PE X e (tC v)) (r : ∀ F, Rep X.K β F d v) : PW X β e (wC d) :=
  ⟨fun ρ P P' k q => k _ q, imp_E h fun σ H Q ⟨F, Hf, ρ, I, q⟩ => q F H v (Ex.refl F) I (r F)⟩
theorem pw_int {i j} : PW X β (.Constant (.int i) j pos) (wC (.int i)) := pw_c pe_int fun F => by rw [Rep]
theorem pw_bl {i j} : PW X β (.Constant (.bool i) j pos) (wC (.bl i)) := pw_c pe_bl fun F => by rw [Rep]
theorem pw_non {j} : PW X β (.Constant .none j pos) (wC .non) := pw_c pe_non fun F => by rw [Rep]
theorem pw_str {x : Str} {l : List Nat} {j} (h : x.cps.toList = l) (hz : okS l) : PW X β (.Constant (.str x) j pos) (wC (.str l)) := pw_c pe_str fun F => by
  rw [Rep]
  refine ⟨?_, hz⟩
  rw [← h]

/-! operators -/
abbrev OD := D → D → (R → Prop) → Prop
abbrev UD := D → (R → Prop) → Prop
/-- what follows: for any growth -/
def Kt (K : PySem.W.Frag) (β : Bx) (F Hf : Hp) (ρ : WEnv) (σ : L2.St) (Q : VK) (r : R) : Prop := ∀ F' H' v, Ex F F' → Rel K β F' Hf ρ σ H' → RepR K β F' Hf ρ σ H' r v → Q v H'
structure OpD (X : Cx) (β : Bx) (f : Value → Value → Sem Value) (o : OD) : Prop where
  mono : ∀ d e P P', (∀ r, P r → P' r) → o d e P → o d e P'
  ex : ∃ rr : R2, OpR X f rr ∧ ∀ F Hf ρ σ H d e x y Q, Rel X.K β F Hf ρ σ H → RepO X.K β F H d x → RepO X.K β F H e y → o d e (Kt X.K β F Hf ρ σ Q) → rr x y H Q
structure UnD (X : Cx) (β : Bx) (f : Value → Sem Value) (o : UD) : Prop where
  mono : ∀ d P P', (∀ r, P r → P' r) → o d P → o d P'
  ex : ∃ rr : V → Hp → VK → Prop, UnR X f rr ∧ ∀ F Hf ρ σ H d x Q, Rel X.K β F Hf ρ σ H → RepO X.K β F H d x → o d (Kt X.K β F Hf ρ σ Q) → rr x H Q
def wOp (o : OD) (wa wb : WE) : WE := fun ρ P => wa ρ fun r => wb ρ fun s => o r.d s.d P
def wUn (o : UD) (wa : WE) : WE := fun ρ P => wa ρ fun r => o r.d P
theorem fz_d (r : R) : r.fz.d = r.d := by cases r <;> rfl
theorem op_go {o : OD} {rr : R2} (ha : PW X β a wa) (hb : PW X β b wb)
    (h : ∀ F Hf ρ σ H d e x y Q, Rel X.K β F Hf ρ σ H → RepO X.K β F H d x → RepO X.K β F H e y → o d e (Kt X.K β F Hf ρ σ Q) → rr x y H Q) (om : ∀ d e P P', (∀ r, P r → P' r) → o d e P → o d e P') (σ : L2.St) (H : Hp) (Q : VK) (q : tW X.K β (wOp o wa wb) σ H Q) :
    tOp rr (tO X.K β wa) (tO X.K β wb) σ H Q := by
  obtain ⟨F, Hf, ρ, I, q⟩ := q
  refine ⟨F, Hf, ρ, I, ha.mono ρ _ _ (fun r k F1 H1 x e1 I1 r1 => ?_) q⟩
  refine ⟨F1, Hf, ρ, I1, hb.mono ρ _ _ (fun s k F2 H2 y e2 I2 r2 => ?_) k⟩
  have g1 := (r1.mono e2).rd I2
  have g2 := r2.rd I2
  rw [fz_d] at g1 g2
  refine h F2 Hf ρ σ H2 _ _ x y Q I2 g1 g2 (om _ _ _ _ (fun t k F3 H3 v e3 I3 r3 => ?_) k)
  exact k F3 H3 v ((e1.trans e2).trans e3) I3 r3
theorem wOp_mono {o : OD} (ha : PW X β a wa) (hb : PW X β b wb) (om : ∀ d e P P', (∀ r, P r → P' r) → o d e P → o d e P') (ρ : WEnv) (P P' : R → Prop) (k : ∀ r, P r → P' r) (q : wOp o wa wb ρ P) : wOp o wa wb ρ P' :=
  ha.mono ρ _ _ (fun _ q => hb.mono ρ _ _ (fun _ q => om _ _ _ _ k q) q) q
theorem pw_bin {op : Operator} {o : OD} (ho : OpD X β (binaryOp op) o) (ha : PW X β a wa) (hb : PW X β b wb) : PW X β (.BinOp a op b pos) (wOp o wa wb) := by
  obtain ⟨rr, hr, hq⟩ := ho.ex
  exact ⟨wOp_mono ha hb ho.mono, imp_E (pe_op hr ha.opnd hb.opnd) (op_go ha hb hq ho.mono)⟩
theorem pw_un {op : UnaryOp} {o : UD} (ho : UnD X β (unaryOp op) o) (ha : PW X β a wa) : PW X β (.UnaryOp op a pos) (wUn o wa) := by
  obtain ⟨rr, hr, hq⟩ := ho.ex
  refine ⟨fun ρ P P' k q => ha.mono ρ _ _ (fun _ q => ho.mono _ _ _ k q) q, imp_E (pe_un hr ha.opnd) fun σ H Q q => ?_⟩
  obtain ⟨F, Hf, ρ, I, q⟩ := q
  refine ⟨F, Hf, ρ, I, ha.mono ρ _ _ (fun r k F1 H1 x e1 I1 r1 => ?_) q⟩
  have g1 := r1.rd I1
  rw [fz_d] at g1
  exact hq F1 Hf ρ σ H1 _ x Q I1 g1 (ho.mono _ _ _ (fun t k F3 H3 v e3 I3 r3 => k F3 H3 v (e1.trans e3) I3 r3) k)
theorem pw_cmp {op : CmpOp} {o : OD} (ho : OpD X β (compareOp op) o) (ha : PW X β a wa) (hb : PW X β b wb) (hm : behindInMarks op b = false := by first | exact nobehind _ (by decide) (by decide) | rfl) : PW X β (.Compare a [op] [b] pos) (wOp o wa wb) := by
  obtain ⟨rr, hr, hq⟩ := ho.ex
  exact ⟨wOp_mono ha hb ho.mono, imp_E (pe_cmpR hr ha.opnd hb.opnd hm) (op_go ha hb hq ho.mono)⟩
structure IxD (X : Cx) (β : Bx) (o : OD) : Prop where
  mono : ∀ d e P P', (∀ r, P r → P' r) → o d e P → o d e P'
  ex : ∃ rr : R2, IxR X rr ∧ ∀ F Hf ρ σ H d e x y Q, Rel X.K β F Hf ρ σ H → RepO X.K β F H d x → RepO X.K β F H e y → o d e (Kt X.K β F Hf ρ σ Q) → rr x y H Q
theorem pw_ix {o : OD} (ho : IxD X β o) (ha : PW X β a wa) (hb : PW X β b wb) (hs : PlainIx b := by exact fun _ _ => rfl) : PW X β (.Subscript a b pos) (wOp o wa wb) := by
  obtain ⟨rr, hr, hq⟩ := ho.ex
  exact ⟨wOp_mono ha hb ho.mono, imp_E (L2.pe_ix hr ha.opnd hb.opnd hs) (op_go ha hb hq ho.mono)⟩

/-! tests, and, or, not, if -/
def wTest (w : WE) : WT := fun ρ P => w ρ fun r => match r.d with
  | .bl b => P b
  | .non => P false
  | .int i => P (i != 0)
  | .str x => P (!x.isEmpty)
  | .tup xs => P (!xs.isEmpty)
  | .lst xs => P (!xs.isEmpty)
  | _ => False
theorem pwt_of (h : PW X β a wa) (he : ∀ whole, isTrue a X.env whole = (do let v ← whole; standAt a.pos; holding [v] (truthy v)) := by exact fun _ => rfl) : PWT X β a (wTest wa) := by
  refine ⟨fun ρ P P' k q => h.mono ρ _ _ (fun r q => ?_) q, imp_T (pt_truth h.opnd he) fun σ H Q q => ?_⟩
  · split at q <;> first | exact k _ q | exact q
  · obtain ⟨F, Hf, ρ, I, q⟩ := q
    refine ⟨F, Hf, ρ, I, h.mono ρ _ _ (fun r q F1 H1 x e1 I1 r1 => ?_) q⟩
    have g := r1.rd I1
    rw [fz_d] at g
    split at q
    · rename_i b hb
      rw [hb] at g
      rw [g.bl]
      exact ⟨b, rfl, q F1 H1 e1 I1⟩
    · rename_i hb
      rw [hb] at g
      rw [g.non]
      exact ⟨false, rfl, q F1 H1 e1 I1⟩
    · rename_i i hb
      rw [hb] at g
      rw [g.int]
      exact ⟨_, rfl, q F1 H1 e1 I1⟩
    · rename_i y hb
      rw [hb] at g
      obtain ⟨e, hz⟩ := g.str
      rw [e]
      refine ⟨_, ⟨by rw [mkS_len]; exact hz.1, rfl⟩, ?_⟩
      have : (((mkS y).length : Int) != 0) = !y.isEmpty := by
        rw [mkS_len]
        cases y <;> simp <;> omega
      rw [this]
      exact q F1 H1 e1 I1
    · rename_i ds hb
      rw [hb] at g
      obtain ⟨p, vs, e, sq, hz, rl⟩ := g.tup I1
      rw [e]
      refine ⟨!ds.isEmpty, .inr (.inl ⟨vs, sq, ?_⟩), q F1 H1 e1 I1⟩
      have := rl.length
      cases ds <;> cases vs <;> simp_all
    · rename_i ds hb
      rw [hb] at g
      obtain ⟨p, vs, e, sq, hz, rl⟩ := g.lst I1
      rw [e]
      refine ⟨!ds.isEmpty, .inl ⟨vs, .of sq, ?_⟩, q F1 H1 e1 I1⟩
      have := rl.length
      cases ds <;> cases vs <;> simp_all
    · exact q.elim
end
end WL
set_option Elab.async false
set_option linter.all false
set_option autoImplicit false
set_option maxRecDepth 100000
namespace WL
open PySem PySem.Spec L2

abbrev ifP (b : Bool) (A B : Prop) : Prop := (b = true → A) ∧ (b = false → B)
theorem ifP_mono {b : Bool} {A B A' B' : Prop} (h : ifP b A B) (h1 : A → A') (h2 : B → B') : ifP b A' B' := ⟨fun e => h1 (h.1 e), fun e => h2 (h.2 e)⟩
theorem ifP_ite {b : Bool} {A B : Prop} (h : ifP b A B) : if b = true then A else B := by
  cases b with
  | true => rw [if_pos rfl]; exact h.1 rfl
  | false => rw [if_neg Bool.false_ne_true]; exact h.2 rfl

section
variable {X : Cx} {β : Bx} {a b c e : Expr} {w wa wb wc : WE} {wt wu : WT} {pos : Pos} {rest : List Expr}

/-! comparisons as tests -/
def wTB (w : WE) : WT := fun ρ P => w ρ fun r => match r.d with
  | .bl b => P b
  | _ => False
theorem tTest_go {t : TE} {o : OD} {rr : R2} (ha : PW X β a wa) (hb : PW X β b wb) (hm : ∀ ρ P P', (∀ r, P r → P' r) → w ρ P → w ρ P')
    (h : ∀ σ H Q, tW X.K β w σ H Q → t σ H Q) (σ : L2.St) (H : Hp) (Q : Bool → Hp → Prop) (q : tWT X.K β (wTB w) σ H Q) : tTest t σ H Q := by
  obtain ⟨F, Hf, ρ, I, q⟩ := q
  refine h σ H _ ⟨F, Hf, ρ, I, hm ρ _ _ (fun r q F1 H1 x e1 I1 r1 => ?_) q⟩
  split at q
  · rename_i k hk
    have g : RepO X.K β F1 H1 (.bl k) x := by
      obtain ⟨F2, e2, I2, r2⟩ := r1.keep I1
      have := r2.rd I2
      rw [fz_d, hk] at this
      rcases this with h | ⟨_, _, h⟩
      · exact .inl (by rw [Rep] at h ⊢; exact h)
      · exact h.elim
    rw [g.bl]
    exact ⟨k, rfl, q F1 H1 e1 I1⟩
  · exact q.elim
theorem wTB_mono (hm : ∀ ρ P P', (∀ r, P r → P' r) → w ρ P → w ρ P') (ρ : WEnv) (P P' : Bool → Prop) (k : ∀ r, P r → P' r) (q : wTB w ρ P) : wTB w ρ P' :=
  hm ρ _ _ (fun r q => by
    split at q
    · exact k _ q
    · exact q) q
theorem pwt_cmp {op : CmpOp} {o : OD} (ho : OpD X β (compareOp op) o) (ha : PW X β a wa) (hb : PW X β b wb) (hm : behindInMarks op b = false := by first | exact nobehind _ (by decide) (by decide) | rfl) : PWT X β (.Compare a [op] [b] pos) (wTB (wOp o wa wb)) := by
  obtain ⟨rr, hr, hq⟩ := ho.ex
  refine ⟨wTB_mono (wOp_mono ha hb ho.mono), imp_T (pt_cmpR hr ha.opnd hb.opnd hm) fun σ H Q q => ?_⟩
  exact tTest_go (o := o) (rr := rr) ha hb (wOp_mono ha hb ho.mono) (fun σ H Q q => op_go ha hb hq ho.mono σ H Q q) σ H Q q
def wChain (o o' : OD) (wa wb wc : WE) : WE := fun ρ P => wa ρ fun r => wb ρ fun s => o r.d s.d fun t => match t.d with
  | .bl k => ifP k (wc ρ fun u => o' s.d u.d P) (P (.val (.bl false)))
  | _ => False
theorem wChain_mono {o o' : OD} (ha : PW X β a wa) (hb : PW X β b wb) (hc : PW X β c wc) (om : ∀ d e P P', (∀ r, P r → P' r) → o d e P → o d e P') (om' : ∀ d e P P', (∀ r, P r → P' r) → o' d e P → o' d e P')
    (ρ : WEnv) (P P' : R → Prop) (k : ∀ r, P r → P' r) (q : wChain o o' wa wb wc ρ P) : wChain o o' wa wb wc ρ P' :=
  ha.mono ρ _ _ (fun _ q => hb.mono ρ _ _ (fun _ q => om _ _ _ _ (fun t q => by
    split at q
    · exact ifP_mono q (fun q => hc.mono ρ _ _ (fun _ q => om' _ _ _ _ k q) q) (fun q => k _ q)
    · exact q) q) q) q
theorem bl_of {K : PySem.W.Frag} {F F1 Hf H : Hp} {ρ : WEnv} {σ : L2.St} {k : Bool} {r : R} {v : V} (I : Rel K β F Hf ρ σ H) (r1 : RepR K β F Hf ρ σ H r v) (hk : r.d = .bl k) : v = .bl k := by
  obtain ⟨F2, e2, I2, r2⟩ := r1.keep I
  have := r2.rd I2
  rw [fz_d, hk] at this
  exact this.bl
theorem chain_go {o o' : OD} {rr rr' : R2} (ha : PW X β a wa) (hb : PW X β b wb) (hc : PW X β c wc)
    (h : ∀ F Hf ρ σ H d e x y Q, Rel X.K β F Hf ρ σ H → RepO X.K β F H d x → RepO X.K β F H e y → o d e (Kt X.K β F Hf ρ σ Q) → rr x y H Q) (om : ∀ d e P P', (∀ r, P r → P' r) → o d e P → o d e P')
    (h' : ∀ F Hf ρ σ H d e x y Q, Rel X.K β F Hf ρ σ H → RepO X.K β F H d x → RepO X.K β F H e y → o' d e (Kt X.K β F Hf ρ σ Q) → rr' x y H Q) (om' : ∀ d e P P', (∀ r, P r → P' r) → o' d e P → o' d e P')
    (σ : L2.St) (H : Hp) (Q : VK) (q : tW X.K β (wChain o o' wa wb wc) σ H Q) : tChain rr rr' (tO X.K β wa) (tO X.K β wb) (tO X.K β wc) σ H Q := by
  obtain ⟨F, Hf, ρ, I, q⟩ := q
  refine ⟨F, Hf, ρ, I, ha.mono ρ _ _ (fun r k F1 H1 x e1 I1 r1 => ?_) q⟩
  refine ⟨F1, Hf, ρ, I1, hb.mono ρ _ _ (fun s k F2 H2 y e2 I2 r2 => ?_) k⟩
  have g1 := (r1.mono e2).rd I2
  have g2 := r2.rd I2
  rw [fz_d] at g1 g2
  refine h F2 Hf ρ σ H2 _ _ x y _ I2 g1 g2 (om _ _ _ _ (fun t k F3 H3 v e3 I3 r3 => ?_) k)
  split at k
  · rename_i kk hk
    have := bl_of (F1 := F3) I3 r3 hk
    subst this
    refine ⟨kk, rfl, ifP_ite (ifP_mono k (fun k => ?_) (fun k => ?_))⟩
    · refine ⟨F3, Hf, ρ, I3, hc.mono ρ _ _ (fun u k F4 H4 z e4 I4 r4 => ?_) k⟩
      have g3 := ((r2.mono e3).mono e4).rd I4
      have g4 := r4.rd I4
      rw [fz_d] at g3 g4
      exact h' F4 Hf ρ σ H4 _ _ y z Q I4 g3 g4 (om' _ _ _ _ (fun t k F5 H5 v e5 I5 r5 => k F5 H5 v ((((e1.trans e2).trans e3).trans e4).trans e5) I5 r5) k)
    · exact k F3 H3 _ ((e1.trans e2).trans e3) I3 (show Rep X.K β F3 (.bl false) (.bl false) by rw [Rep])
  · exact k.elim
theorem pw_chain {op op' : CmpOp} {o o' : OD} (ho : OpD X β (compareOp op) o) (ho' : OpD X β (compareOp op') o') (ha : PW X β a wa) (hb : PW X β b wb) (hc : PW X β c wc)
    (hm : lastMarks [op, op'] [b, c] = false := by with_unfolding_all rfl) : PW X β (.Compare a [op, op'] [b, c] pos) (wChain o o' wa wb wc) := by
  obtain ⟨rr, hr, hq⟩ := ho.ex
  obtain ⟨rr', hr', hq'⟩ := ho'.ex
  exact ⟨wChain_mono ha hb hc ho.mono ho'.mono, imp_E (pe_chain hr hr' ha.opnd hb.opnd hc.opnd hm) fun σ H Q q => chain_go ha hb hc hq ho.mono hq' ho'.mono σ H Q q⟩
theorem pwt_chain {op op' : CmpOp} {o o' : OD} (ho : OpD X β (compareOp op) o) (ho' : OpD X β (compareOp op') o') (ha : PW X β a wa) (hb : PW X β b wb) (hc : PW X β c wc)
    (hm : lastMarks [op, op'] [b, c] = false := by with_unfolding_all rfl) : PWT X β (.Compare a [op, op'] [b, c] pos) (wTB (wChain o o' wa wb wc)) := by
  obtain ⟨rr, hr, hq⟩ := ho.ex
  obtain ⟨rr', hr', hq'⟩ := ho'.ex
  refine ⟨wTB_mono (wChain_mono ha hb hc ho.mono ho'.mono), imp_T (pt_chain hr hr' ha.opnd hb.opnd hc.opnd hm) fun σ H Q q => ?_⟩
  exact tTest_go (o := o) (rr := rr) ha hb (wChain_mono ha hb hc ho.mono ho'.mono) (fun σ H Q q => chain_go ha hb hc hq ho.mono hq' ho'.mono σ H Q q) σ H Q q

/-! and, or, not as tests -/
structure PWW (X : Cx) (β : Bx) (e : Expr) (w : WT) : Prop where
  mono : ∀ ρ P P', (∀ r, P r → P' r) → w ρ P → w ρ P'
  run : L2.PW X e (tWT X.K β w)
theorem imp_W {X : Cx} {e : Expr} {t t' : TT} (h : L2.PW X e t) (i : ∀ σ H Q, t' σ H Q → t σ H Q) : L2.PW X e t' := ⟨fun wh pins s σ H Q I q => h.run wh pins s σ H Q I (i σ H Q q)⟩
def wAnd (wt wu : WT) : WT := fun ρ P => wt ρ fun k => ifP k (wu ρ P) (P false)
def wOr (wt wu : WT) : WT := fun ρ P => wt ρ fun k => ifP k (P true) (wu ρ P)
def wNotT (wt : WT) : WT := fun ρ P => wt ρ fun k => P (!k)
theorem pww_and1 (h : PWT X β a wt) : PWW X β (.BoolOp .And [a] pos) wt := ⟨h.mono, pw_and1 h.run⟩
theorem pww_or1 (h : PWT X β a wt) : PWW X β (.BoolOp .Or [a] pos) wt := ⟨h.mono, pw_or1 h.run⟩
theorem wAnd_mono (h : ∀ ρ P P', (∀ r, P r → P' r) → wt ρ P → wt ρ P') (g : ∀ ρ P P', (∀ r, P r → P' r) → wu ρ P → wu ρ P') (ρ : WEnv) (P P' : Bool → Prop) (k : ∀ r, P r → P' r) (q : wAnd wt wu ρ P) : wAnd wt wu ρ P' :=
  h ρ _ _ (fun _ q => ifP_mono q (fun q => g ρ _ _ k q) (fun q => k _ q)) q
theorem wOr_mono (h : ∀ ρ P P', (∀ r, P r → P' r) → wt ρ P → wt ρ P') (g : ∀ ρ P P', (∀ r, P r → P' r) → wu ρ P → wu ρ P') (ρ : WEnv) (P P' : Bool → Prop) (k : ∀ r, P r → P' r) (q : wOr wt wu ρ P) : wOr wt wu ρ P' :=
  h ρ _ _ (fun _ q => ifP_mono q (fun q => k _ q) (fun q => g ρ _ _ k q)) q
theorem pww_and (h : PWT X β a wt) (g : PWW X β (.BoolOp .And (b :: rest) pos) wu) : PWW X β (.BoolOp .And (a :: b :: rest) pos) (wAnd wt wu) := by
  refine ⟨wAnd_mono h.mono g.mono, imp_W (L2.pw_and h.run g.run) fun σ H Q q => ?_⟩
  obtain ⟨F, Hf, ρ, I, q⟩ := q
  refine ⟨F, Hf, ρ, I, h.mono ρ _ _ (fun k q F1 H1 e1 I1 => ?_) q⟩
  refine ifP_ite (ifP_mono q (fun q => ?_) (fun q => q F1 H1 e1 I1))
  exact ⟨F1, Hf, ρ, I1, g.mono ρ _ _ (fun k q F2 H2 e2 I2 => q F2 H2 (e1.trans e2) I2) q⟩
theorem pww_or (h : PWT X β a wt) (g : PWW X β (.BoolOp .Or (b :: rest) pos) wu) : PWW X β (.BoolOp .Or (a :: b :: rest) pos) (wOr wt wu) := by
  refine ⟨wOr_mono h.mono g.mono, imp_W (L2.pw_or h.run g.run) fun σ H Q q => ?_⟩
  obtain ⟨F, Hf, ρ, I, q⟩ := q
  refine ⟨F, Hf, ρ, I, h.mono ρ _ _ (fun k q F1 H1 e1 I1 => ?_) q⟩
  refine ifP_ite (ifP_mono q (fun q => q F1 H1 e1 I1) (fun q => ?_))
  exact ⟨F1, Hf, ρ, I1, g.mono ρ _ _ (fun k q F2 H2 e2 I2 => q F2 H2 (e1.trans e2) I2) q⟩
theorem PWW.pwt (h : PWW X β a wt) : PWT X β a wt := ⟨h.mono, h.run.pt⟩
theorem pwt_not (h : PWT X β a wt) : PWT X β (.UnaryOp .Not a pos) (wNotT wt) := by
  refine ⟨fun ρ P P' k q => h.mono ρ _ _ (fun _ q => k _ q) q, imp_T (L2.pt_not h.run) fun σ H Q q => ?_⟩
  obtain ⟨F, Hf, ρ, I, q⟩ := q
  exact ⟨F, Hf, ρ, I, q⟩

/-! .. as values -/
def wAndV (wa wb : WE) : WE := fun ρ P => wa ρ fun r => match r.d with
  | .bl k => ifP k (wb ρ P) (P (.val (.bl false)))
  | _ => False
def wOrV (wa wb : WE) : WE := fun ρ P => wa ρ fun r => match r.d with
  | .bl k => ifP k (P (.val (.bl true))) (wb ρ P)
  | _ => False
theorem pw_one {op} (h : PW X β a wa) : PW X β (.BoolOp op [a] pos) wa := ⟨h.mono, pe_one h.run⟩
theorem pw_andV (ha : PW X β a wa) (hb : PW X β (.BoolOp .And (b :: rest) pos) wb) : PW X β (.BoolOp .And (a :: b :: rest) pos) (wAndV wa wb) := by
  refine ⟨fun ρ P P' k q => ha.mono ρ _ _ (fun r q => ?_) q, imp_E (pe_and ha.run hb.run) fun σ H Q q => ?_⟩
  · split at q
    · exact ifP_mono q (fun q => hb.mono ρ _ _ k q) (fun q => k _ q)
    · exact q
  · obtain ⟨F, Hf, ρ, I, q⟩ := q
    refine ⟨F, Hf, ρ, I, ha.mono ρ _ _ (fun r q F1 H1 v e1 I1 r1 => ?_) q⟩
    split at q
    · rename_i k hk
      have := bl_of (F1 := F1) I1 r1 hk
      subst this
      refine ⟨k, rfl, ifP_ite (ifP_mono q (fun q => ?_) (fun q => q F1 H1 _ e1 I1 (show Rep X.K β F1 (.bl false) (.bl false) by rw [Rep])))⟩
      exact ⟨F1, Hf, ρ, I1, hb.mono ρ _ _ (fun s q F2 H2 v e2 I2 r2 => q F2 H2 v (e1.trans e2) I2 r2) q⟩
    · exact q.elim
theorem pw_orV (ha : PW X β a wa) (hb : PW X β (.BoolOp .Or (b :: rest) pos) wb) : PW X β (.BoolOp .Or (a :: b :: rest) pos) (wOrV wa wb) := by
  refine ⟨fun ρ P P' k q => ha.mono ρ _ _ (fun r q => ?_) q, imp_E (pe_or ha.run hb.run) fun σ H Q q => ?_⟩
  · split at q
    · exact ifP_mono q (fun q => k _ q) (fun q => hb.mono ρ _ _ k q)
    · exact q
  · obtain ⟨F, Hf, ρ, I, q⟩ := q
    refine ⟨F, Hf, ρ, I, ha.mono ρ _ _ (fun r q F1 H1 v e1 I1 r1 => ?_) q⟩
    split at q
    · rename_i k hk
      have := bl_of (F1 := F1) I1 r1 hk
      subst this
      refine ⟨k, rfl, ifP_ite (ifP_mono q (fun q => q F1 H1 _ e1 I1 (show Rep X.K β F1 (.bl true) (.bl true) by rw [Rep])) (fun q => ?_))⟩
      exact ⟨F1, Hf, ρ, I1, hb.mono ρ _ _ (fun s q F2 H2 v e2 I2 r2 => q F2 H2 v (e1.trans e2) I2 r2) q⟩
    · exact q.elim
/-- the truth of a value -/
def truD : D → Option Bool
  | .bl b => some b
  | .non => some false
  | .int i => some (i != 0)
  | .str x => some (!x.isEmpty)
  | .tup xs => some (!xs.isEmpty)
  | .lst xs => some (!xs.isEmpty)
  | _ => none
theorem tru_of {K : PySem.W.Frag} {F Hf H : Hp} {ρ : WEnv} {σ : L2.St} {k : Bool} {d : D} {v : V} (I : Rel K β F Hf ρ σ H) (g : RepO K β F H d v) (hk : truD d = some k) : TruV K v H k := by
  cases d with
  | bl b => cases hk; rw [g.bl]; exact rfl
  | non => cases hk; rw [g.non]; exact rfl
  | int i => cases hk; rw [g.int]; exact rfl
  | str y =>
    cases hk
    obtain ⟨e, hz⟩ := g.str
    rw [e]
    refine ⟨by rw [mkS_len]; exact hz.1, ?_⟩
    rw [mkS_len]
    cases y <;> simp <;> omega
  | tup ds =>
    cases hk
    obtain ⟨p, vs, e, sq, hz, rl⟩ := g.tup I
    rw [e]
    refine .inr (.inl ⟨vs, sq, ?_⟩)
    have := rl.length
    cases ds <;> cases vs <;> simp_all
  | lst ds =>
    cases hk
    obtain ⟨p, vs, e, sq, hz, rl⟩ := g.lst I
    rw [e]
    refine .inl ⟨vs, .of sq, ?_⟩
    have := rl.length
    cases ds <;> cases vs <;> simp_all
  | dct => cases hk
  | box => cases hk
def wNotV (wa : WE) : WE := fun ρ P => wa ρ fun r => match truD r.d with
  | some k => P (.val (.bl (!k)))
  | none => False
theorem pw_notV (ha : PW X β a wa) : PW X β (.UnaryOp .Not a pos) (wNotV wa) := by
  refine ⟨fun ρ P P' k q => ha.mono ρ _ _ (fun r q => ?_) q, imp_E (pe_notT ha.opnd) fun σ H Q q => ?_⟩
  · split at q
    · exact k _ q
    · exact q
  · obtain ⟨F, Hf, ρ, I, q⟩ := q
    refine ⟨F, Hf, ρ, I, ha.mono ρ _ _ (fun r q F1 H1 v e1 I1 r1 => ?_) q⟩
    split at q
    · rename_i k hk
      have g := r1.rd I1
      rw [fz_d] at g
      exact ⟨k, tru_of I1 g hk, q F1 H1 _ e1 I1 (show Rep X.K β F1 (.bl (!k)) (.bl (!k)) by rw [Rep])⟩
    · exact q.elim
def wIf (wt : WT) (wa wb : WE) : WE := fun ρ P => wt ρ fun k => ifP k (wa ρ P) (wb ρ P)
theorem pw_if (ht : PWT X β c wt) (ha : PW X β a wa) (hb : PW X β b wb) : PW X β (.IfExp c a b pos) (wIf wt wa wb) := by
  refine ⟨fun ρ P P' k q => ht.mono ρ _ _ (fun r q => ifP_mono q (fun q => ha.mono ρ _ _ k q) (fun q => hb.mono ρ _ _ k q)) q, imp_E (pe_ifExp ht.run ha.run hb.run) fun σ H Q q => ?_⟩
  obtain ⟨F, Hf, ρ, I, q⟩ := q
  refine ⟨F, Hf, ρ, I, ht.mono ρ _ _ (fun k q F1 H1 e1 I1 => ?_) q⟩
  refine ifP_ite (ifP_mono q (fun q => ?_) (fun q => ?_))
  · exact ⟨F1, Hf, ρ, I1, ha.mono ρ _ _ (fun s q F2 H2 v e2 I2 r2 => q F2 H2 v (e1.trans e2) I2 r2) q⟩
  · exact ⟨F1, Hf, ρ, I1, hb.mono ρ _ _ (fun s q F2 H2 v e2 I2 r2 => q F2 H2 v (e1.trans e2) I2 r2) q⟩

/-! ### arguments, displays -/
variable {es : List Expr} {ws : WAs}
structure PWL (X : Cx) (β : Bx) (es : List Expr) (w : WAs) : Prop where
  mono : ∀ ρ P P', (∀ r, P r → P' r) → w ρ P → w ρ P'
  len : ∀ ρ P, w ρ P → w ρ fun rs => P rs ∧ rs.length = es.length
  run : PA X es (tWA X.K β w)
def wNil : WAs := fun _ P => P []
def wCons (wa : WE) (ws : WAs) : WAs := fun ρ P => wa ρ fun r => ws ρ fun rs => P (r.fz :: rs)
theorem pwl_nil : PWL X β [] wNil := ⟨fun _ _ _ k q => k _ q, fun _ _ q => ⟨q, rfl⟩, imp_A pa_nil fun σ H Q q => by
  obtain ⟨F, Hf, ρ, I, q⟩ := q
  exact q F H [] (Ex.refl F) I .nil⟩
theorem RepAs.mono {K : PySem.W.Frag} {F F' : Hp} {ρ : WEnv} {σ : L2.St} (e : Ex F F') : ∀ {rs : List R} {vs : List V}, RepAs K β F ρ σ rs vs → RepAs K β F' ρ σ rs vs
  | _, _, .nil => .nil
  | _, _, .cons h t => .cons (h.mono e) (RepAs.mono e t)
theorem pwl_cons (ha : PW X β a wa) (hs : PWL X β es ws) (hst : starEach (a :: es) X.env = (false, eval a X.env) :: starEach es X.env := by rfl) : PWL X β (a :: es) (wCons wa ws) := by
  refine ⟨fun ρ P P' k q => ha.mono ρ _ _ (fun _ q => hs.mono ρ _ _ (fun _ q => k _ q) q) q, fun ρ P q => ha.mono ρ _ _ (fun _ q => hs.mono ρ _ _ (fun _ q => ⟨q.1, by rw [List.length_cons, q.2, List.length_cons]⟩) (hs.len ρ _ q)) q, imp_A (pa_cons ha.opnd hs.run hst) fun σ H Q q => ?_⟩
  obtain ⟨F, Hf, ρ, I, q⟩ := q
  refine ⟨F, Hf, ρ, I, ha.mono ρ _ _ (fun r q F1 H1 v e1 I1 r1 => ?_) q⟩
  exact ⟨F1, Hf, ρ, I1, hs.mono ρ _ _ (fun rs q F2 H2 vs e2 I2 r2 => q F2 H2 (v :: vs) (e1.trans e2) I2 (.cons (r1.mono e2) r2)) q⟩
def vals : List R → Option (List D)
  | [] => some []
  | .val d :: rs => match vals rs with
    | some ds => some (d :: ds)
    | none => none
  | _ :: _ => none
theorem vals_rep {K : PySem.W.Frag} {F : Hp} {ρ : WEnv} {σ : L2.St} : ∀ {rs : List R} {vs : List V} {ds : List D}, RepAs K β F ρ σ rs vs → vals rs = some ds → RepL K β F ds vs
  | _, _, _, .nil, h => by cases h; exact RepL.nil
  | .val d :: rs, _, _, .cons (vs := vs) h t, e => by
    rw [vals] at e
    split at e
    · rename_i ds' h'
      cases e
      exact RepL.cons h (vals_rep t h')
    · cases e
  | .own d :: rs, _, _, .cons h t, e => by cases e
  | .bor i d :: rs, _, _, .cons h t, e => by cases e
theorem vals_len : ∀ {rs : List R} {ds : List D}, vals rs = some ds → ds.length = rs.length
  | [], _, e => by cases e; rfl
  | .val d :: rs, _, e => by
    rw [vals] at e
    split at e
    · rename_i ds' h'
      cases e
      rw [List.length_cons, List.length_cons, vals_len h']
    · cases e
  | .own d :: rs, _, e => by cases e
  | .bor i d :: rs, _, e => by cases e
def wTup (ws : WAs) : WE := fun ρ P => ws ρ fun rs => match vals rs with
  | some ds => P (.val (.tup ds))
  | none => False
def wLst (ws : WAs) : WE := fun ρ P => ws ρ fun rs => match vals rs with
  | some ds => P (.own (.lst ds))
  | none => False
theorem mono_vals {f : D → R} {g : List D → D} {P P' : R → Prop} (k : ∀ r, P r → P' r) {rs : List R} (q : match vals rs with | some ds => P (f (g ds)) | none => False) : match vals rs with | some ds => P' (f (g ds)) | none => False := by
  split at q
  · exact k _ q
  · exact q
theorem pw_tup {k : Nat} (hs : PWL X β es ws) (hz : es.length ≤ 1000 := by decide) : PW X β (.Tuple es k pos) (wTup ws) := by
  refine ⟨fun ρ P P' k q => hs.mono ρ _ _ (fun rs q => mono_vals k q) q, imp_E (pe_tupD hs.run) fun σ H Q q => ?_⟩
  obtain ⟨F, Hf, ρ, I, q⟩ := q
  refine ⟨F, Hf, ρ, I, hs.mono ρ _ _ (fun rs q F1 H1 vs e1 I1 r1 => ?_) (hs.len ρ _ q)⟩
  obtain ⟨q, hl⟩ := q
  split at q
  · rename_i ds hd
    have rl := vals_rep r1 hd
    have hz' : ds.length ≤ sizeLine := by rw [vals_len hd, hl]; exact Nat.le_trans hz (by decide)
    refine ⟨by rw [rl.length]; exact hz', fun p its hp => ?_⟩
    obtain ⟨F2, e2, I2, r2⟩ := I1.newT (its := its) hp hz' rl
    exact q F2 _ _ (e1.trans e2) I2 r2
  · exact q.elim
theorem pw_lst (hs : PWL X β es ws) (hz : es.length ≤ 1000 := by decide) : PW X β (.List es pos) (wLst ws) := by
  refine ⟨fun ρ P P' k q => hs.mono ρ _ _ (fun rs q => mono_vals k q) q, imp_E (pe_lst hs.run) fun σ H Q q => ?_⟩
  obtain ⟨F, Hf, ρ, I, q⟩ := q
  refine ⟨F, Hf, ρ, I, hs.mono ρ _ _ (fun rs q F1 H1 vs e1 I1 r1 => ?_) (hs.len ρ _ q)⟩
  obtain ⟨q, hl⟩ := q
  split at q
  · rename_i ds hd
    have rl := vals_rep r1 hd
    have hz' : ds.length ≤ sizeLine := by rw [vals_len hd, hl]; exact Nat.le_trans hz (by decide)
    refine ⟨by rw [rl.length]; exact hz', fun p hp => ?_⟩
    obtain ⟨I2, r2⟩ := I1.newL hp hz' rl
    exact q F1 _ _ e1 I2 r2
  · exact q.elim
end

/-! ### what a def promises -/
structure Sx where
  f : List D → (D → Prop) → Prop
  mono : ∀ ds P P', (∀ d, P d → P' d) → f ds P → f ds P'
def Sx.det (g : List D → Option D) : Sx := ⟨fun ds P => match g ds with
  | some d => P d
  | none => False, fun ds P P' k q => by
    split at q
    · exact k _ q
    · exact q.elim⟩
/-- what is asked, and what may come -/
def Sx.rel (pre : List D → Prop) (post : List D → D → Prop) : Sx := ⟨fun ds P => pre ds ∧ ∀ d, post ds d → P d, fun ds P P' k q => ⟨q.1, fun d h => k d (q.2 d h)⟩⟩
/-- what is new was nobody's -/
def FNew (F F' H : Hp) : Prop := ∀ a o, F' a = some o → F a = some o ∨ H a = none
def ExB (β : Bx) (H H' : Hp) : Prop := ∀ a o, ¬ β.foot a → H a = some o → H' a = some o
def spW (K : PySem.W.Frag) (β : Bx) (n : Nat) (g : Sx) : Sp := fun vs H Q _ => ∃ F ds, Ex F H ∧ (∀ a, β.foot a → F a = none) ∧ β.inv H ∧ RepL K β F ds vs ∧ ds.length = n ∧
  g.f ds fun d => ∀ F' H' v, Ex F F' → Ex F' H' → FNew F F' H → ExB β H H' → β.inv H' → (∀ a, β.foot a → F' a = none) → Rep K β F' d v → Q v H'
def FnW (P : Program) (w : World) (K : PySem.W.Frag) (mg : Str → Option Value) (base : Heap) (β : Bx) (k : Nat) (f : Addr) (fd : FuncData) (ps : List Str) (g : Sx) : Prop :=
  FnOk P w K mg base CX0 k f fd ps (spW K β ps.length g)
section
variable {X : Cx} {β : Bx} {k : Nat} {f : Addr} {fd : FuncData} {ps : List Str} {g : Sx} {x : Str} {p pos : Pos} {e : Expr} {es : List Expr} {ws : WAs}
def flatD : D → Bool
  | .non => true
  | .bl _ => true
  | .int _ => true
  | .str _ => true
  | _ => false
def wCall (g : Sx) (n : Nat) (ws : WAs) : WE := fun ρ P => ws ρ fun rs => match vals rs with
  | some ds => ds.length = n ∧ g.f ds fun d => P (.val d)
  | none => rs.length = n ∧ g.f (rs.map R.d) fun d => flatD d = true ∧ P (.val d)
theorem wCall_mono {n : Nat} (hm : ∀ ρ P P', (∀ r, P r → P' r) → ws ρ P → ws ρ P') (ρ : WEnv) (P P' : R → Prop) (k : ∀ r, P r → P' r) (q : wCall g n ws ρ P) : wCall g n ws ρ P' :=
  hm ρ _ _ (fun rs q => by
    split at q
    · exact ⟨q.1, g.mono _ _ _ (fun d q => k _ q) q.2⟩
    · exact ⟨q.1, g.mono _ _ _ (fun d q => ⟨q.1, k _ q.2⟩) q.2⟩) q
/-- behind a call -/
theorem Rel.called {K : PySem.W.Frag} {F F1 Hf H H1 : Hp} {ρ : WEnv} {σ : L2.St} (I : Rel K β F Hf ρ σ H) (e1 : Ex F F1) (e2 : Ex F1 H1) (fn : FNew F F1 H) (eb : ExB β H H1) (bi : β.inv H1) (bf : ∀ a, β.foot a → F1 a = none) : Rel K β F1 Hf ρ σ H1 := by
  have nf : ∀ a, F a = none → H a ≠ none → F1 a = none := fun a h1 h2 => by
    cases h : F1 a with
    | none => rfl
    | some o =>
      rcases fn a o h with q | q
      · rw [h1] at q; cases q
      · exact absurd q h2
  refine ⟨e2, fun b u hb => ?_, bi, fun b hb => ⟨bf b hb, (I.bxF b hb).2⟩, I.len, fun i d h => ?_, fun i d h => ?_, I.sep⟩
  · obtain ⟨q1, q2⟩ := I.hex b u hb
    have nb : ¬ β.foot b := fun z => by rw [(I.bxF b z).2] at hb; cases hb
    exact ⟨eb b u nb q1, nf b q2 (by rw [q1]; exact fun z => nomatch z)⟩
  · obtain ⟨v, q1, q2⟩ := I.val i d h
    exact ⟨v, q1, q2.mono e1⟩
  · obtain ⟨b, q1, q2, q3, q4, q5⟩ := I.own i d h
    obtain ⟨o, ho⟩ := q5.some
    refine ⟨b, q1, nf b q2 (by rw [ho]; exact fun z => nomatch z), q3, q4, ?_⟩
    exact (q5.at (by rw [ho]; exact eb b o q4 ho)).mono e1
theorem Rep.flat {K : PySem.W.Frag} {F F' : Hp} {d : D} {v : V} (hf : flatD d = true) (h : Rep K β F d v) : Rep K β F' d v := by
  cases d <;> first
    | (rw [Rep] at h ⊢; exact h)
    | cases hf
open Classical in
/-- what is lent may be read as if it were given -/
theorem lend {K : PySem.W.Frag} {F Hf H : Hp} {ρ : WEnv} {σ : L2.St} (I : Rel K β F Hf ρ σ H) : ∃ F0, Ex F F0 ∧ Ex F0 H ∧ (∀ a, β.foot a → F0 a = none) ∧ ∀ {rs vs}, RepAs K β F ρ σ rs vs → RepL K β F0 (rs.map R.d) vs := by
  let F0 : Hp := fun a => if F a = none ∧ ¬ β.foot a then H a else F a
  have e0 : Ex F F0 := fun a o h => by
    show (if F a = none ∧ ¬ β.foot a then H a else F a) = some o
    rw [if_neg (fun z => by rw [h] at z; exact nomatch z.1)]
    exact h
  refine ⟨F0, e0, fun a o h => ?_, fun a ha => ?_, fun {rs vs} r => ?_⟩
  · have h : (if F a = none ∧ ¬ β.foot a then H a else F a) = some o := h
    split at h
    · exact h
    · exact I.fex a o h
  · show (if F a = none ∧ ¬ β.foot a then H a else F a) = none
    rw [if_neg (fun z => z.2 ha)]
    exact (I.bxF a ha).1
  · induction r with
    | nil => exact RepL.nil
    | @cons r v rs vs h t ih =>
      refine RepL.cons ?_ ih
      cases r with
      | val d => exact Rep.mono e0 h
      | own d => exact h.elim
      | bor i d =>
        obtain ⟨h1, h2⟩ := h
        obtain ⟨a, q1, q2, q3, q4, q5⟩ := I.own i d h1
        rw [q1] at h2; cases h2
        obtain ⟨o, ho⟩ := q5.some
        have hF : F0 a = some o := by
          show (if F a = none ∧ ¬ β.foot a then H a else F a) = some o
          rw [if_pos ⟨q2, q4⟩]; exact ho
        show Rep K β F0 d (.ref a)
        cases d <;> first
          | exact q5.elim
          | (obtain ⟨vs, g1, g2, g3⟩ := q5
             rw [g1] at ho; cases ho
             rw [Rep]
             exact ⟨a, vs, rfl, hF, g2, g3.mono e0⟩)
          | (obtain ⟨kvs, g1, g2, g3⟩ := q5
             rw [g1] at ho; cases ho
             rw [Rep]
             exact ⟨a, kvs, rfl, hF, g2, g3.mono e0⟩)
theorem wCall_go (hs : PWL X β es ws) (σ : L2.St) (H : Hp) (Q : VK) (q : tW X.K β (wCall g ps.length ws) σ H Q) : tCall (spW X.K β ps.length g) [] E0 (tWA X.K β ws) σ H Q := by
  obtain ⟨F, Hf, ρ, I, q⟩ := q
  refine ⟨F, Hf, ρ, I, hs.mono ρ _ _ (fun rs q F1 H1 vs e1 I1 r1 => ?_) q⟩
  show spW X.K β ps.length g (vs ++ []) H1 Q E0
  rw [List.append_nil]
  split at q
  · rename_i ds hd
    refine ⟨F1, ds, I1.fex, fun a ha => (I1.bxF a ha).1, I1.bx, vals_rep r1 hd, q.1, g.mono _ _ _ (fun d q F2 H2 v g1 g2 g3 g4 g5 g6 g7 => ?_) q.2⟩
    exact q F2 H2 v (e1.trans g1) (I1.called g1 g2 g3 g4 g5 g6) g7
  · obtain ⟨F0, l1, l2, l3, l4⟩ := lend I1
    refine ⟨F0, rs.map R.d, l2, l3, I1.bx, l4 r1, by rw [List.length_map]; exact q.1, g.mono _ _ _ (fun d q F2 H2 v g1 g2 g3 g4 g5 g6 g7 => ?_) q.2⟩
    refine q.2 F1 H2 v e1 ?_ (Rep.flat q.1 g7)
    have hx : Ex F1 H2 := fun a o h => g2 a o (g1 a o (l1 a o h))
    exact I1.called (Ex.refl F1) hx (fun a o h => .inl h) g4 g5 fun a ha => (I1.bxF a ha).1
theorem pw_call (F : FnW X.prog X.w X.K X.mg X.base β k f fd ps g) (hr : Room k X.A) (hg : Gl X x) (hm : X.mg x = some (.ref f)) (hk : PySem.W.keepIn X.K (.ref f) = true) (hb : Binds X.K fd ps [])
    (hs : PWL X β (e :: es) ws) (hdb : (x == ("__debug__" : Str)) = false := by decide) (he : starEach (e :: es) X.env = (false, eval e X.env) :: starEach es X.env := by rfl) (hpl : (backTo pos (starEach es X.env)).any (·.1) = false := by rfl) :
    PW X β (.Call (.Name x p) (e :: es) [] pos) (wCall g ps.length ws) :=
  ⟨wCall_mono hs.mono, imp_E (pe_call F hr hg hm hk hb .nil pass0 hs.run hdb he hpl) fun σ H Q q => wCall_go hs σ H Q q⟩
theorem pw_call0 (F : FnW X.prog X.w X.K X.mg X.base β k f fd ps g) (hr : Room k X.A) (hg : Gl X x) (hm : X.mg x = some (.ref f)) (hk : PySem.W.keepIn X.K (.ref f) = true) (hb : Binds X.K fd ps [])
    (hdb : (x == ("__debug__" : Str)) = false := by decide) : PW X β (.Call (.Name x p) [] [] pos) (wCall g ps.length wNil) :=
  ⟨wCall_mono fun _ _ _ k q => k _ q, imp_E (pe_call0 F hr hg hm hk hb .nil pass0 hdb) fun σ H Q q => by
    obtain ⟨F, Hf, ρ, I, q⟩ := q
    refine ⟨F, [], I.fex, fun a ha => (I.bxF a ha).1, I.bx, RepL.nil, q.1, g.mono _ _ _ (fun d q F2 H2 v g1 g2 g3 g4 g5 g6 g7 => ?_) q.2⟩
    exact q F2 H2 v g1 (I.called g1 g2 g3 g4 g5 g6) g7⟩
end
end WL
set_option Elab.async false
set_option linter.all false
set_option autoImplicit false
set_option maxRecDepth 100000
namespace WL
open PySem PySem.Spec L2

/-! ### statements -/
structure WEnds where
  nx : WEnv → Prop
  rt : D → Prop
  bk : WEnv → Prop := fun _ => False
  ct : WEnv → Prop := fun _ => False
abbrev SW := WEnds → WEnv → Prop
structure WLe (A B : WEnds) : Prop where
  nx : ∀ ρ, A.nx ρ → B.nx ρ
  rt : ∀ d, A.rt d → B.rt d
  bk : ∀ ρ, A.bk ρ → B.bk ρ
  ct : ∀ ρ, A.ct ρ → B.ct ρ
theorem WLe.refl (A : WEnds) : WLe A A := ⟨fun _ h => h, fun _ h => h, fun _ h => h, fun _ h => h⟩
theorem WLe.next {A B : WEnds} (h : WLe A B) {p q : WEnv → Prop} (k : ∀ ρ, p ρ → q ρ) : WLe { A with nx := p } { B with nx := q } := ⟨k, h.rt, h.bk, h.ct⟩
/-- the ends over values and those over the heap -/
structure EndsOk (K : PySem.W.Frag) (β : Bx) (F Hf : Hp) (WD : WEnds) (E : Ends) : Prop where
  nx : ∀ F' ρ σ H, Ex F F' → Rel K β F' Hf ρ σ H → WD.nx ρ → E.nx σ H
  rt : ∀ F' ρ σ H d v, Ex F F' → Rel K β F' Hf ρ σ H → Rep K β F' d v → WD.rt d → E.rt v H
  bk : ∀ F' ρ σ H, Ex F F' → Rel K β F' Hf ρ σ H → WD.bk ρ → E.bk σ H
  ct : ∀ F' ρ σ H, Ex F F' → Rel K β F' Hf ρ σ H → WD.ct ρ → E.ct σ H
theorem EndsOk.mono {K : PySem.W.Frag} {β : Bx} {F F1 Hf : Hp} {WD : WEnds} {E : Ends} (h : EndsOk K β F Hf WD E) (e : Ex F F1) : EndsOk K β F1 Hf WD E :=
  ⟨fun F' ρ σ H g => h.nx F' ρ σ H (e.trans g), fun F' ρ σ H d v g => h.rt F' ρ σ H d v (e.trans g), fun F' ρ σ H g => h.bk F' ρ σ H (e.trans g), fun F' ρ σ H g => h.ct F' ρ σ H (e.trans g)⟩
def tS (K : PySem.W.Frag) (β : Bx) (w : SW) : TS := fun E σ H => ∃ F Hf ρ WD, Rel K β F Hf ρ σ H ∧ w WD ρ ∧ EndsOk K β F Hf WD E
structure PSW (X : Cx) (β : Bx) (st : Stmt) (w : SW) : Prop where
  mono : ∀ A B ρ, WLe A B → w A ρ → w B ρ
  run : PS X st (tS X.K β w)
structure PBW (X : Cx) (β : Bx) (st : List Stmt) (w : SW) : Prop where
  mono : ∀ A B ρ, WLe A B → w A ρ → w B ρ
  run : PSs X st (tS X.K β w)
theorem imp_S {X : Cx} {st : Stmt} {t t' : TS} (h : PS X st t) (i : ∀ E σ H, t' E σ H → t E σ H) : PS X st t' := ⟨fun pins s σ H E I q => h.run pins s σ H E I (i E σ H q)⟩
theorem imp_B {X : Cx} {st : List Stmt} {t t' : TS} (h : PSs X st t) (i : ∀ E σ H, t' E σ H → t E σ H) : PSs X st t' := ⟨fun pins s σ H E I q => h.run pins s σ H E I (i E σ H q)⟩

section
variable {K : PySem.W.Frag} {β : Bx} {F F' Hf H H' : Hp} {ρ : WEnv} {σ : L2.St}
theorem set_get {α : Type} {l : List α} {i j : Nat} {x y : α} (h : (l.set i x)[j]? = some y) : (j = i ∧ x = y ∧ i < l.length) ∨ (j ≠ i ∧ l[j]? = some y) := by
  by_cases e : j = i
  · subst e
    by_cases hj : j < l.length
    · rw [List.getElem?_set_self hj] at h; cases h; exact .inl ⟨rfl, rfl, hj⟩
    · rw [List.getElem?_eq_none (by simpa using hj)] at h; cases h
  · rw [List.getElem?_set_ne (Ne.symm e)] at h; exact .inr ⟨e, h⟩
theorem get_set_ne {α : Type} {l : List α} {i j : Nat} {x : α} (h : j ≠ i) : (l.set i x)[j]? = l[j]? := List.getElem?_set_ne (Ne.symm h)
theorem Rel.setVal (I : Rel K β F Hf ρ σ H) (i : Nat) {d : D} {v : V} (r : Rep K β F d v) : Rel K β F Hf (ρ.set i (.val d)) (σ.set i (some v)) H := by
  refine ⟨I.fex, I.hex, I.bx, I.bxF, by rw [List.length_set, List.length_set, I.len], fun j d' h => ?_, fun j d' h => ?_, fun j k dj dk a h1 h2 h3 h4 => ?_⟩
  · rcases set_get h with ⟨rfl, e, hl⟩ | ⟨ne, h⟩
    · cases e
      exact ⟨v, List.getElem?_set_self (by rw [← I.len]; exact hl), r⟩
    · obtain ⟨v', q1, q2⟩ := I.val j d' h
      exact ⟨v', by rw [get_set_ne ne]; exact q1, q2⟩
  · rcases set_get h with ⟨rfl, e, hl⟩ | ⟨ne, h⟩
    · cases e
    · obtain ⟨a, q1, q⟩ := I.own j d' h
      exact ⟨a, by rw [get_set_ne ne]; exact q1, q⟩
  · rcases set_get h1 with ⟨_, e, _⟩ | ⟨n1, h1⟩
    · cases e
    · rcases set_get h2 with ⟨_, e, _⟩ | ⟨n2, h2⟩
      · cases e
      · rw [get_set_ne n1] at h3
        rw [get_set_ne n2] at h4
        exact I.sep j k dj dk a h1 h2 h3 h4
theorem Rel.setOwn (I : Rel K β F Hf ρ σ H) (i : Nat) {d : D} {a : Addr} (h1 : F a = none) (h2 : Hf a = none) (h3 : ¬ β.foot a) (h4 : NoOwn ρ σ a) (h5 : ObjAt K β F H a d) :
    Rel K β F Hf (ρ.set i (.own d)) (σ.set i (some (.ref a))) H := by
  refine ⟨I.fex, I.hex, I.bx, I.bxF, by rw [List.length_set, List.length_set, I.len], fun j d' h => ?_, fun j d' h => ?_, fun j k dj dk b g1 g2 g3 g4 => ?_⟩
  · rcases set_get h with ⟨rfl, e, hl⟩ | ⟨ne, h⟩
    · cases e
    · obtain ⟨v', q1, q2⟩ := I.val j d' h
      exact ⟨v', by rw [get_set_ne ne]; exact q1, q2⟩
  · rcases set_get h with ⟨rfl, e, hl⟩ | ⟨ne, h⟩
    · cases e
      exact ⟨a, List.getElem?_set_self (by rw [← I.len]; exact hl), h1, h2, h3, h5⟩
    · obtain ⟨b, q1, q⟩ := I.own j d' h
      exact ⟨b, by rw [get_set_ne ne]; exact q1, q⟩
  · rcases set_get g1 with ⟨e1, _, l1⟩ | ⟨n1, g1⟩
    · rcases set_get g2 with ⟨e2, _, _⟩ | ⟨n2, g2⟩
      · rw [e1, e2]
      · rw [get_set_ne n2] at g4
        rw [e1, List.getElem?_set_self (by rw [← I.len]; exact l1)] at g3
        cases g3
        exact absurd g4 (h4 k dk g2)
    · rcases set_get g2 with ⟨e2, _, l2⟩ | ⟨n2, g2⟩
      · rw [get_set_ne n1] at g3
        rw [e2, List.getElem?_set_self (by rw [← I.len]; exact l2)] at g4
        cases g4
        exact absurd g3 (h4 j dj g1)
      · rw [get_set_ne n1] at g3
        rw [get_set_ne n2] at g4
        exact I.sep j k dj dk b g1 g2 g3 g4
/-- a slot's object, given away -/
theorem Rel.freezeSlot (I : Rel K β F Hf ρ σ H) {i : Nat} {d : D} (h : ρ[i]? = some (Slot.own d)) : ∃ F' v, Ex F F' ∧ σ[i]? = some (some v) ∧ Rep K β F' d v ∧ Rel K β F' Hf (ρ.set i (.val d)) σ H := by
  obtain ⟨a, q1, q2, q3, q4, q5⟩ := I.own i d h
  have I1 : Rel K β F Hf (ρ.set i .un) σ H := by
    refine ⟨I.fex, I.hex, I.bx, I.bxF, by rw [List.length_set, I.len], fun j d' g => ?_, fun j d' g => ?_, fun j k dj dk b g1 g2 g3 g4 => ?_⟩
    · rcases set_get g with ⟨_, e, _⟩ | ⟨_, g⟩
      · cases e
      · exact I.val j d' g
    · rcases set_get g with ⟨_, e, _⟩ | ⟨_, g⟩
      · cases e
      · exact I.own j d' g
    · rcases set_get g1 with ⟨_, e, _⟩ | ⟨_, g1⟩
      · cases e
      · rcases set_get g2 with ⟨_, e, _⟩ | ⟨_, g2⟩
        · cases e
        · exact I.sep j k dj dk b g1 g2 g3 g4
  have no : NoOwn (ρ.set i .un) σ a := fun j d' g z => by
    rcases set_get g with ⟨_, e, _⟩ | ⟨ne, g⟩
    · cases e
    · exact ne (I.sep j i d' d a g h z q1)
  obtain ⟨F', e, I2, r⟩ := I1.freeze q2 q3 q4 no q5
  refine ⟨F', .ref a, e, q1, r, ?_⟩
  have I3 := I2.setVal i r
  rw [List.set_set] at I3
  have : σ.set i (some (V.ref a)) = σ := by
    apply List.ext_getElem?
    intro j
    by_cases hj : j = i
    · subst hj
      rw [List.getElem?_set_self (List.getElem?_eq_some_iff.mp q1).1, q1]
    · rw [get_set_ne hj]
  rwa [this] at I3
/-- a slot's own object is changed in place -/
theorem Rel.mutate (I : Rel K β F Hf ρ σ H) {i : Nat} {d d' : D} {a : Addr} {o : HO} (h : ρ[i]? = some (Slot.own d)) (ha : σ[i]? = some (some (V.ref a))) (hn : ObjAt K β F (upd H a o) a d') :
    Rel K β F Hf (ρ.set i (.own d')) σ (upd H a o) := by
  obtain ⟨b, q1, q2, q3, q4, q5⟩ := I.own i d h
  rw [ha] at q1; cases q1
  refine ⟨fun c u hc => ?_, fun c u hc => ?_, ?_, I.bxF, by rw [List.length_set, I.len], fun j d1 g => ?_, fun j d1 g => ?_, fun j k dj dk b g1 g2 g3 g4 => ?_⟩
  · have : c ≠ a := fun z => by rw [z, q2] at hc; cases hc
    rw [upd_ne this]; exact I.fex c u hc
  · have : c ≠ a := fun z => by rw [z, q3] at hc; cases hc
    rw [upd_ne this]; exact I.hex c u hc
  · refine β.loc H _ (fun c hc => ?_) I.bx
    have : c ≠ a := fun z => q4 (z ▸ hc)
    rw [upd_ne this]
  · rcases set_get g with ⟨_, e, _⟩ | ⟨_, g⟩
    · cases e
    · exact I.val j d1 g
  · rcases set_get g with ⟨e1, e, l⟩ | ⟨ne, g⟩
    · cases e
      rw [e1]
      exact ⟨a, ha, q2, q3, q4, hn⟩
    · obtain ⟨c, g1, g2, g3, g4, g5⟩ := I.own j d1 g
      have : c ≠ a := fun z => ne (I.sep j i d1 d a g h (z ▸ g1) ha)
      exact ⟨c, g1, g2, g3, g4, g5.at (by rw [upd_ne this])⟩
  · have w1 : ∃ d1, ρ[j]? = some (Slot.own d1) := by
      rcases set_get g1 with ⟨e1, _, _⟩ | ⟨_, g1⟩
      · exact ⟨d, by rw [e1]; exact h⟩
      · exact ⟨_, g1⟩
    have w2 : ∃ d1, ρ[k]? = some (Slot.own d1) := by
      rcases set_get g2 with ⟨e1, _, _⟩ | ⟨_, g2⟩
      · exact ⟨d, by rw [e1]; exact h⟩
      · exact ⟨_, g2⟩
    obtain ⟨d1, w1⟩ := w1
    obtain ⟨d2, w2⟩ := w2
    exact I.sep j k d1 d2 b w1 w2 g3 g4
end

section
variable {X : Cx} {β : Bx} {st : Stmt} {rest : List Stmt} {w u : SW} {a b c e : Expr} {wa wb : WE} {wt : WT} {pos : Pos}
def wSkip : SW := fun E ρ => E.nx ρ
def wSeq (w u : SW) : SW := fun E ρ => w { E with nx := u E } ρ
theorem EndsOk.with_nx {K : PySem.W.Frag} {F Hf : Hp} {WD : WEnds} {E : Ends} (h : EndsOk K β F Hf WD E) {p : WEnv → Prop} {q : L2.St → Hp → Prop} (k : ∀ F' ρ σ H, Ex F F' → Rel K β F' Hf ρ σ H → p ρ → q σ H) :
    EndsOk K β F Hf { WD with nx := p } { E with nx := q } := ⟨k, h.rt, h.bk, h.ct⟩
theorem pb_nil : PBW X β [] wSkip := ⟨fun _ _ ρ h q => h.nx ρ q, imp_B pss_nil fun E σ H q => by
  obtain ⟨F, Hf, ρ, WD, I, q, k⟩ := q
  exact k.nx F ρ σ H (Ex.refl F) I q⟩
theorem pb_cons (h : PSW X β st w) (g : PBW X β rest u) : PBW X β (st :: rest) (wSeq w u) := by
  refine ⟨fun A B ρ l q => h.mono _ _ ρ (l.next fun ρ q => g.mono _ _ ρ l q) q, imp_B (pss_cons h.run g.run) fun E σ H q => ?_⟩
  obtain ⟨F, Hf, ρ, WD, I, q, k⟩ := q
  refine ⟨F, Hf, ρ, _, I, q, k.with_nx fun F' ρ' σ' H' e' I' q' => ?_⟩
  exact ⟨F', Hf, ρ', WD, I', q', k.mono e'⟩
theorem pb_one (h : PSW X β st w) : PBW X β [st] w := ⟨h.mono, pss_one h.run⟩
/-- the object of a slot is given away from here on -/
def wFz (i : Nat) (w : SW) : SW := fun E ρ => match ρ[i]? with
  | some (.own d) => w E (ρ.set i (.val d))
  | _ => w E ρ
theorem fz_go {K : PySem.W.Frag} (i : Nat) {E : Ends} {σ : L2.St} {H : Hp} (q : tS K β (wFz i w) E σ H) : tS K β w E σ H := by
  obtain ⟨F, Hf, ρ, WD, I, q, k⟩ := q
  unfold wFz at q
  split at q
  · rename_i d hd
    obtain ⟨F', v, e', _, _, I'⟩ := I.freezeSlot hd
    exact ⟨F', Hf, _, WD, I', q, k.mono e'⟩
  · exact ⟨F, Hf, ρ, WD, I, q, k⟩
theorem wFz_mono {i : Nat} (hm : ∀ A B ρ, WLe A B → w A ρ → w B ρ) (A B : WEnds) (ρ : WEnv) (l : WLe A B) (q : wFz i w A ρ) : wFz i w B ρ := by
  unfold wFz at q ⊢
  split at q
  · exact hm _ _ _ l q
  · exact hm _ _ _ l q
theorem pb_fz (i : Nat) (h : PBW X β rest w) : PBW X β rest (wFz i w) := ⟨wFz_mono h.mono, imp_B h.run fun E σ H q => fz_go i q⟩
theorem ps_fz (i : Nat) (h : PSW X β st w) : PSW X β st (wFz i w) := ⟨wFz_mono h.mono, imp_S h.run fun E σ H q => fz_go i q⟩
def wBk : SW := fun E ρ => E.bk ρ
def wCt : SW := fun E ρ => E.ct ρ
theorem ps_pass : PSW X β (.Pass pos) wSkip := ⟨fun _ _ ρ h q => h.nx ρ q, imp_S L2.ps_pass fun E σ H ⟨F, Hf, ρ, WD, I, q, k⟩ => k.nx F ρ σ H (Ex.refl F) I q⟩
theorem ps_brk : PSW X β (.Break pos) wBk := ⟨fun _ _ ρ h q => h.bk ρ q, imp_S L2.ps_break fun E σ H ⟨F, Hf, ρ, WD, I, q, k⟩ => k.bk F ρ σ H (Ex.refl F) I q⟩
theorem ps_cont : PSW X β (.Continue pos) wCt := ⟨fun _ _ ρ h q => h.ct ρ q, imp_S L2.ps_continue fun E σ H ⟨F, Hf, ρ, WD, I, q, k⟩ => k.ct F ρ σ H (Ex.refl F) I q⟩
/-- e; .. its value dropped -/
def wDrop (wa : WE) : SW := fun E ρ => wa ρ fun _ => E.nx ρ
theorem ps_drop (h : PW X β a wa) (hs : swapsWith a none pos.line X.env = pure false := by rfl) : PSW X β (.Expr a pos) (wDrop wa) := by
  refine ⟨fun A B ρ l q => h.mono ρ _ _ (fun _ q => l.nx ρ q) q, imp_S (L2.ps_expr h.run hs) fun E σ H q => ?_⟩
  obtain ⟨F, Hf, ρ, WD, I, q, k⟩ := q
  exact ⟨F, Hf, ρ, I, h.mono ρ _ _ (fun r q F1 H1 v e1 I1 r1 => k.nx F1 ρ σ H1 e1 I1 q) q⟩
def wRet (wa : WE) : SW := fun E ρ => wa ρ fun r => E.rt r.d
theorem ps_ret (h : PW X β a wa) : PSW X β (.Return (some a) pos) (wRet wa) := by
  refine ⟨fun A B ρ l q => h.mono ρ _ _ (fun _ q => l.rt _ q) q, imp_S (L2.ps_ret h.run) fun E σ H q => ?_⟩
  obtain ⟨F, Hf, ρ, WD, I, q, k⟩ := q
  refine ⟨F, Hf, ρ, I, h.mono ρ _ _ (fun r q F1 H1 v e1 I1 r1 => ?_) q⟩
  cases r with
  | val d => exact k.rt F1 ρ σ H1 d v e1 I1 r1 q
  | own d =>
    obtain ⟨x, rfl, g1, g2, g3, g4, g5⟩ := r1
    obtain ⟨F2, e2, I2, r2⟩ := I1.freeze g1 g2 g3 g4 g5
    exact k.rt F2 ρ σ H1 d _ (e1.trans e2) I2 r2 q
  | bor i d =>
    obtain ⟨g1, g2⟩ := r1
    obtain ⟨F2, v2, e2, h2, r2, I2⟩ := I1.freezeSlot g1
    rw [g2] at h2; cases h2
    exact k.rt F2 _ σ H1 d _ (e1.trans e2) I2 r2 q
def wRetN : SW := fun E _ => E.rt .non
theorem ps_retN : PSW X β (.Return none pos) wRetN := ⟨fun A B ρ l q => l.rt _ q, imp_S L2.ps_retN fun E σ H ⟨F, Hf, ρ, WD, I, q, k⟩ => k.rt F ρ σ H _ _ (Ex.refl F) I (by rw [Rep]) q⟩
def wIfS (wt : WT) (w u : SW) : SW := fun E ρ => wt ρ fun k => ifP k (w E ρ) (u E ρ)
theorem ps_if {sa sb : List Stmt} (ht : PWT X β c wt) (ha : PBW X β sa w) (hb : PBW X β sb u) : PSW X β (.If c sa sb pos) (wIfS wt w u) := by
  refine ⟨fun A B ρ l q => ht.mono ρ _ _ (fun _ q => ifP_mono q (fun q => ha.mono _ _ ρ l q) (fun q => hb.mono _ _ ρ l q)) q, imp_S (L2.ps_if ht.run ha.run hb.run) fun E σ H q => ?_⟩
  obtain ⟨F, Hf, ρ, WD, I, q, k⟩ := q
  refine ⟨F, Hf, ρ, I, ht.mono ρ _ _ (fun kk q F1 H1 e1 I1 => ?_) q⟩
  refine ifP_ite (ifP_mono q (fun q => ?_) (fun q => ?_))
  · exact ⟨F1, Hf, ρ, WD, I1, q, k.mono e1⟩
  · exact ⟨F1, Hf, ρ, WD, I1, q, k.mono e1⟩

/-! assignments -/
def R.slot : R → Option Slot
  | .val d => some (.val d)
  | .own d => some (.own d)
  | .bor _ _ => none
theorem Rel.setR {K : PySem.W.Frag} {F Hf H : Hp} {ρ : WEnv} {σ : L2.St} {r : R} {v : V} {s : Slot} (I : Rel K β F Hf ρ σ H) (i : Nat) (h : RepR K β F Hf ρ σ H r v) (e : r.slot = some s) : Rel K β F Hf (ρ.set i s) (σ.set i (some v)) H := by
  cases r with
  | val d => cases e; exact I.setVal i h
  | own d =>
    cases e
    obtain ⟨a, rfl, g1, g2, g3, g4, g5⟩ := h
    exact I.setOwn i g1 g2 g3 g4 g5
  | bor j d => cases e
def wSet (i : Nat) (wa : WE) : SW := fun E ρ => wa ρ fun r => match r.slot with
  | some s => E.nx (ρ.set i s)
  | none => False
theorem wSet_mono {i : Nat} (hm : ∀ ρ P P', (∀ r, P r → P' r) → wa ρ P → wa ρ P') (A B : WEnds) (ρ : WEnv) (l : WLe A B) (q : wSet i wa A ρ) : wSet i wa B ρ := hm ρ _ _ (fun r q => by
  split at q
  · exact l.nx _ q
  · exact q) q
theorem set_go {i : Nat} {K : PySem.W.Frag} (hm : ∀ ρ P P', (∀ r, P r → P' r) → wa ρ P → wa ρ P') (E : Ends) (σ : L2.St) (H : Hp) (q : tS K β (wSet i wa) E σ H) : tAsg (tW K β wa) (gName i) E σ H := by
  obtain ⟨F, Hf, ρ, WD, I, q, k⟩ := q
  refine ⟨F, Hf, ρ, I, hm ρ _ _ (fun r q F1 H1 v e1 I1 r1 => ?_) q⟩
  split at q
  · rename_i s hs
    exact k.nx F1 _ _ H1 e1 (I1.setR i r1 hs) q
  · exact q.elim
theorem ps_set {i : Nat} {x : Str} {pos' : Pos} (hN : X.N.Nodup) (hi : X.N[i]? = some x) (hx : Loc X.env.scope x) (h : PW X β e wa) (hs : swapsWith e (some (.Name x pos')) pos.line X.env = pure false := by rfl) (hf : X.fn x = true ∨ X.env.scope.names.lookup x = some .local := by first | exact .inl rfl | exact .inr rfl | assumption) :
    PSW X β (.Assign [.Name x pos'] e pos) (wSet i wa) :=
  ⟨wSet_mono h.mono, imp_S (L2.ps_set hN hi hx h.run hs hf) fun E σ H q => set_go h.mono E σ H q⟩
/-- a, b = e1, e2 with plain names -/
def wPar (i j : Nat) (wa wb : WE) : SW := fun E ρ => wa ρ fun r => wb ρ fun s => match r.slot, s.slot with
  | some x, some y => E.nx ((ρ.set i x).set j y)
  | _, _ => False
theorem par_core {K : PySem.W.Frag} {i j : Nat} (ma : ∀ ρ P P', (∀ r, P r → P' r) → wa ρ P → wa ρ P') (mb : ∀ ρ P P', (∀ r, P r → P' r) → wb ρ P → wb ρ P') (E : Ends) (σ : L2.St) (H : Hp) (q : tS K β (wPar i j wa wb) E σ H) :
    tW K β wa σ H fun x H1 => tW K β wb σ H1 fun y H2 => ∀ H3, (H3 = H2 ∨ ∃ p o, H2 p = none ∧ H3 = upd H2 p o) → E.nx ((σ.set i (some x)).set j (some y)) H3 := by
  obtain ⟨F, Hf, ρ, WD, I, q, k⟩ := q
  have kk : ∀ F' ρ σ H, Ex F F' → Rel K β F' Hf ρ σ H → WD.nx ρ → ∀ H3, (H3 = H ∨ ∃ p o, H p = none ∧ H3 = upd H p o) → E.nx σ H3 := fun F' ρ σ H e I q H3 h => by
    rcases h with rfl | ⟨p, o, hp, rfl⟩
    · exact k.nx F' ρ σ _ e I q
    · exact k.nx F' ρ σ _ e (I.grow hp) q
  refine ⟨F, Hf, ρ, I, ma ρ _ _ (fun r q F1 H1 v e1 I1 r1 => ?_) q⟩
  cases r with
  | val d =>
    refine ⟨F1, Hf, ρ, I1, mb ρ _ _ (fun s q F2 H2 v2 e2 I2 r2 => ?_) q⟩
    cases hs : s.slot with
    | none => rw [hs] at q; exact q.elim
    | some y =>
      rw [hs] at q
      have J := (I2.setVal i (r1.mono e2))
      cases s with
      | val d2 => cases hs; exact kk F2 _ _ H2 (e1.trans e2) (J.setVal j r2) q
      | own d2 =>
        cases hs
        obtain ⟨b, rfl, g1, g2, g3, g4, g5⟩ := r2
        refine kk F2 _ _ H2 (e1.trans e2) (J.setOwn j g1 g2 g3 (fun m dm hm hz => ?_) g5) q
        rcases set_get hm with ⟨_, z, _⟩ | ⟨ne, hm⟩
        · cases z
        · rw [get_set_ne ne] at hz
          exact g4 m dm hm hz
      | bor m d2 => cases hs
  | own d =>
    obtain ⟨p, rfl, f1, f2, f3, f4, f5⟩ := r1
    obtain ⟨o, ho⟩ := f5.some
    have J : Rel K β F1 (upd Hf p o) ρ σ H1 := by
      refine ⟨I1.fex, fun b u hb => ?_, I1.bx, fun b hb => ?_, I1.len, I1.val, fun m dm hm => ?_, I1.sep⟩
      · by_cases hbp : b = p
        · rw [hbp, upd_same] at hb
          rw [hbp]
          exact ⟨ho.trans hb, f1⟩
        · rw [upd_ne hbp] at hb; exact I1.hex b u hb
      · have : b ≠ p := fun z => f3 (z ▸ hb)
        rw [upd_ne this]; exact I1.bxF b hb
      · obtain ⟨b, g1, g2, g3, g4, g5⟩ := I1.own m dm hm
        have : b ≠ p := fun z => f4 m dm hm (z ▸ g1)
        exact ⟨b, g1, g2, by rw [upd_ne this]; exact g3, g4, g5⟩
    refine ⟨F1, upd Hf p o, ρ, J, mb ρ _ _ (fun s q F2 H2 v2 e2 I2 r2 => ?_) q⟩
    have hp := I2.hex p o upd_same
    have I3 : Rel K β F2 Hf ρ σ H2 := by
      have sub : ∀ b u, Hf b = some u → (upd Hf p o) b = some u := fun b u hb => by
        have : b ≠ p := fun z => by rw [z, f2] at hb; cases hb
        rw [upd_ne this]; exact hb
      have non : ∀ b, (upd Hf p o) b = none → Hf b = none := fun b hb => by
        cases h : Hf b with
        | none => rfl
        | some u => rw [sub b u h] at hb; cases hb
      refine ⟨I2.fex, fun b u hb => I2.hex b u (sub b u hb), I2.bx, fun b hb => ⟨(I2.bxF b hb).1, non b (I2.bxF b hb).2⟩, I2.len, I2.val, fun m dm hm => ?_, I2.sep⟩
      obtain ⟨b, g1, g2, g3, g4, g5⟩ := I2.own m dm hm
      exact ⟨b, g1, g2, non b g3, g4, g5⟩
    have L := I3.setOwn i hp.2 f2 f3 f4 ((f5.at (by rw [ho]; exact hp.1)).mono e2)
    cases hs : s.slot with
    | none => rw [hs] at q; exact q.elim
    | some y =>
      rw [hs] at q
      cases s with
      | val d2 => cases hs; exact kk F2 _ _ H2 (e1.trans e2) (L.setVal j r2) q
      | own d2 =>
        cases hs
        obtain ⟨b, rfl, g1, g2, g3, g4, g5⟩ := r2
        have nb : b ≠ p := fun z => by rw [z, upd_same] at g2; cases g2
        have g2' : Hf b = none := by rwa [upd_ne nb] at g2
        refine kk F2 _ _ H2 (e1.trans e2) (L.setOwn j g1 g2' g3 (fun m dm hm hz => ?_) g5) q
        rcases set_get hm with ⟨e3, _, l3⟩ | ⟨ne, hm⟩
        · rw [e3, List.getElem?_set_self (by rw [← I3.len]; exact l3)] at hz
          cases hz
          exact nb rfl
        · rw [get_set_ne ne] at hz
          exact g4 m dm hm hz
      | bor m d2 => cases hs
  | bor m d => exact (mb ρ _ (fun _ => False) (fun s q => by exact q) q |> fun z => ⟨F1, Hf, ρ, I1, mb ρ _ _ (fun _ z => z.elim) z⟩)
theorem par_go {K : PySem.W.Frag} {i j : Nat} (ma : ∀ ρ P P', (∀ r, P r → P' r) → wa ρ P → wa ρ P') (mb : ∀ ρ P P', (∀ r, P r → P' r) → wb ρ P → wb ρ P') (E : Ends) (σ : L2.St) (H : Hp) (q : tS K β (wPar i j wa wb) E σ H) :
    tPar i j (tCons (tW K β wa) (tCons (tW K β wb) tNil)) E σ H := by
  obtain ⟨F, Hf, ρ, I, q⟩ := par_core ma mb E σ H q
  refine ⟨F, Hf, ρ, I, ma ρ _ _ (fun r k F1 H1 v e1 I1 r1 => ?_) q⟩
  obtain ⟨F2, Hf2, ρ2, I2, q2⟩ := k F1 H1 v e1 I1 r1
  exact ⟨F2, Hf2, ρ2, I2, mb ρ2 _ _ (fun s k F3 H3 u e3 I3 r3 => ⟨v, u, rfl, k F3 H3 u e3 I3 r3 H3 (.inl rfl)⟩) q2⟩
theorem ps_par {i j : Nat} {x y : Str} {px py pt : Pos} {kt k2 pt2} (hc : X.calm = true) (hN : X.N.Nodup) (hi : X.N[i]? = some x) (hj : X.N[j]? = some y) (hij : i ≠ j)
    (hx : X.env.scope.names.lookup x = some .local) (hy : X.env.scope.names.lookup y = some .local) (ha : PW X β a wa) (hb : PW X β b wb)
    (hw : swappedStores [.Tuple [.Name x px, .Name y py] kt pt] (.Tuple [a, b] k2 pt2) X.env = pure (some [x, y]))
    (hs : swapsWithSole [.Tuple [.Name x px, .Name y py] kt pt] (.Tuple [a, b] k2 pt2) pos.line X.env = pure false := by rfl)
    (h1 : starEach [a, b] X.env = (false, eval a X.env) :: starEach [b] X.env := by rfl) (h2 : starEach [b] X.env = (false, eval b X.env) :: starEach [] X.env := by rfl) :
    PSW X β (.Assign [.Tuple [.Name x px, .Name y py] kt pt] (.Tuple [a, b] k2 pt2) pos) (wPar i j wa wb) :=
  ⟨fun A B ρ l q => ha.mono ρ _ _ (fun r q => hb.mono ρ _ _ (fun s q => by
    split at q
    · exact l.nx _ q
    · exact q) q) q, imp_S (L2.ps_par hc hN hi hj hij hx hy (pa_cons ha.run (pa_cons hb.run pa_nil h2) h1) hw hs) fun E σ H q => par_go ha.mono hb.mono E σ H q⟩
/-- targets: a name, names in a row -/
inductive Tgt where
  | one (j : Nat) | tup (js : List Nat)
def gNames : List Nat → TGs
  | [] => gNil
  | j :: js => gCons (gName j) (gNames js)
def gTgt (K : PySem.W.Frag) : Tgt → TG
  | .one j => gName j
  | .tup js => gTup K js.length (gNames js)
def setAll : List Nat → List D → WEnv → Option WEnv
  | [], [], ρ => some ρ
  | j :: js, d :: ds, ρ => setAll js ds (ρ.set j (.val d))
  | _, _, _ => none
def bindT : Tgt → D → WEnv → Option WEnv
  | .one j, d, ρ => some (ρ.set j (.val d))
  | .tup js, .tup ds, ρ => setAll js ds ρ
  | .tup _, _, _ => none
theorem setAll_go {K : PySem.W.Frag} {F Hf H : Hp} : ∀ {js : List Nat} {ds : List D} {ρ ρ' : WEnv} {σ : L2.St} {vs : List V} {Q : L2.St → Hp → Prop}, Rel K β F Hf ρ σ H → RepL K β F ds vs → setAll js ds ρ = some ρ' → (∀ σ', Rel K β F Hf ρ' σ' H → Q σ' H) → gNames js vs σ H Q
  | [], [], ρ, ρ', σ, vs, Q, I, r, e, q => by
    rw [setAll] at e; cases e
    rw [RepL] at r; subst r
    exact ⟨rfl, q σ I⟩
  | [], _ :: _, _, _, _, _, _, _, _, e, _ => by simp [setAll] at e
  | _ :: _, [], _, _, _, _, _, _, _, e, _ => by simp [setAll] at e
  | j :: js, d :: ds, ρ, ρ', σ, vs, Q, I, r, e, q => by
    rw [setAll] at e
    rw [RepL] at r
    obtain ⟨v, ws, rfl, r1, r2⟩ := r
    exact ⟨v, ws, rfl, setAll_go (I.setVal j r1) r2 e q⟩
theorem setAll_len : ∀ {js : List Nat} {ds : List D} {ρ ρ' : WEnv}, setAll js ds ρ = some ρ' → ds.length = js.length
  | [], [], _, _, _ => rfl
  | [], _ :: _, _, _, e => by simp [setAll] at e
  | _ :: _, [], _, _, e => by simp [setAll] at e
  | _ :: js, _ :: ds, _, _, e => by
    rw [setAll] at e
    rw [List.length_cons, List.length_cons, setAll_len e]
theorem bindT_go {K : PySem.W.Frag} {F Hf H : Hp} {tg : Tgt} {d : D} {ρ ρ' : WEnv} {σ : L2.St} {v : V} {Q : L2.St → Hp → Prop} (I : Rel K β F Hf ρ σ H) (r : Rep K β F d v) (e : bindT tg d ρ = some ρ') (q : ∀ σ', Rel K β F Hf ρ' σ' H → Q σ' H) : gTgt K tg v σ H Q := by
  cases tg with
  | one j =>
    rw [bindT] at e; cases e
    exact q _ (I.setVal j r)
  | tup js =>
    cases d <;> try (rw [bindT] at e; cases e; done)
    all_goals first
      | (exfalso; simp [bindT] at e; done)
      | (rename_i ds
         rw [bindT] at e
         rw [Rep] at r
         obtain ⟨a, vs, rfl, sq, hz, rl⟩ := r
         exact ⟨a, vs, rfl, ex_t I.fex sq.sq, by rw [rl.length, setAll_len e], setAll_go I rl e q⟩)
/-- .. where a name is a comprehension's, too -/
theorem ps_parT {i j : Nat} {x y : Str} {px py pt : Pos} {kt k2 pt2} (hN : X.N.Nodup) (hi : X.N[i]? = some x) (hj : X.N[j]? = some y) (hij : i ≠ j) (hx : Loc X.env.scope x) (hy : Loc X.env.scope y) (ha : PW X β a wa) (hb : PW X β b wb) (hc : X.calm = true := by rfl)
    (hw : swappedStores [.Tuple [.Name x px, .Name y py] kt pt] (.Tuple [a, b] k2 pt2) X.env = pure none := by rfl)
    (hs : swapsWithSole [.Tuple [.Name x px, .Name y py] kt pt] (.Tuple [a, b] k2 pt2) pos.line X.env = pure false := by rfl)
    (h0 : (assignEach [.Tuple [.Name x px, .Name y py] kt pt] X.env).map (·.2) = [assign (.Tuple [.Name x px, .Name y py] kt pt) X.env] := by rfl)
    (h1 : starEach [a, b] X.env = (false, eval a X.env) :: starEach [b] X.env := by rfl) (h2 : starEach [b] X.env = (false, eval b X.env) :: starEach [] X.env := by rfl)
    (hn : (assignEach [.Name x px, .Name y py] X.env).length = 2 := by rfl) (hst : (assignEach [.Name x px, .Name y py] X.env).findIdx? (·.1) = none := by rfl)
    (g1 : (assignEach [.Name x px, .Name y py] X.env).map (·.2) = assign (.Name x px) X.env :: (assignEach [.Name y py] X.env).map (·.2) := by rfl)
    (g2 : (assignEach [.Name y py] X.env).map (·.2) = assign (.Name y py) X.env :: (assignEach [] X.env).map (·.2) := by rfl)
    (f1 : X.fn x = true ∨ X.env.scope.names.lookup x = some .local := by first | exact .inl rfl | exact .inr rfl) (f2 : X.fn y = true ∨ X.env.scope.names.lookup y = some .local := by first | exact .inl rfl | exact .inr rfl) :
    PSW X β (.Assign [.Tuple [.Name x px, .Name y py] kt pt] (.Tuple [a, b] k2 pt2) pos) (wPar i j wa wb) := by
  have tg : PG X (.Tuple [.Name x px, .Name y py] kt pt) (gTgt X.K (.tup [i, j])) := pg_tup hc (pgs_cons (pg_name hN hi hx f1) (pgs_cons (pg_name hN hj hy f2) pgs_nil g2) g1) hn hst
  refine ⟨fun A B ρ l q => ha.mono ρ _ _ (fun r q => hb.mono ρ _ _ (fun s q => by
    split at q
    · exact l.nx _ q
    · exact q) q) q, imp_S (L2.ps_asg (pe_tup (pa_cons ha.run (pa_cons hb.run pa_nil h2) h1)) tg hs hw h0) fun E σ H q => ?_⟩
  obtain ⟨F, Hf, ρ, I, q⟩ := par_core ha.mono hb.mono E σ H q
  refine ⟨F, Hf, ρ, I, ha.mono ρ _ _ (fun r k F1 H1 v e1 I1 r1 => ?_) q⟩
  obtain ⟨F2, Hf2, ρ2, I2, q2⟩ := k F1 H1 v e1 I1 r1
  refine ⟨F2, Hf2, ρ2, I2, hb.mono ρ2 _ _ (fun s k F3 H3 u e3 I3 r3 => ⟨by show 2 ≤ sizeLine; decide, fun p hp => ?_⟩) q2⟩
  refine ⟨p, [v, u], rfl, .inl (.inl upd_same), rfl, v, [u], rfl, u, [], rfl, rfl, ?_⟩
  exact k F3 H3 u e3 I3 r3 _ (.inr ⟨p, _, hp, rfl⟩)
def wUnp (js : List Nat) (wa : WE) : SW := fun E ρ => wa ρ fun r => match bindT (.tup js) r.d ρ with
  | some ρ' => E.nx ρ'
  | none => False
theorem ps_unp {tg : Expr} {js : List Nat} (hg : PG X tg (gTgt X.K (.tup js))) (h : PW X β e wa) (hs : swapsWithSole [tg] e pos.line X.env = pure false := by rfl) (hw : swappedStores [tg] e X.env = pure none := by rfl)
    (h1 : (assignEach [tg] X.env).map (·.2) = [assign tg X.env] := by rfl) : PSW X β (.Assign [tg] e pos) (wUnp js wa) := by
  refine ⟨fun A B ρ l q => h.mono ρ _ _ (fun r q => ?_) q, imp_S (L2.ps_asg h.opnd hg hs hw h1) fun E σ H q => ?_⟩
  · split at q
    · exact l.nx _ q
    · exact q
  · obtain ⟨F, Hf, ρ, WD, I, q, k⟩ := q
    refine ⟨F, Hf, ρ, I, h.mono ρ _ _ (fun r q F1 H1 v e1 I1 r1 => ?_) q⟩
    split at q
    · rename_i ρ' he
      have r2 : Rep X.K β F1 r.d v := by
        cases r with
        | val d => exact r1
        | own d => exact r1
        | bor m d =>
          obtain ⟨g1, g2⟩ := (show ρ[m]? = some (Slot.own d) ∧ σ[m]? = some (some v) from r1)
          obtain ⟨a, o1, o2, o3, o4, o5⟩ := I1.own m d g1
          cases d <;> first
            | exact o5.elim
            | (simp [bindT] at he; done)
      exact bindT_go I1 r2 he fun σ' I' => k.nx F1 _ σ' H1 e1 I' q
    · exact q.elim
end
end WL
set_option Elab.async false
set_option linter.all false
set_option autoImplicit false
set_option maxRecDepth 100000
namespace WL
open PySem PySem.Spec L2

/-! ### what is walked -/
abbrev WI := WEnv → (R → List D → Prop) → Prop
structure ItOk (K : PySem.W.Frag) (β : Bx) (r : R) (v : V) (ds : List D) (J : It) : Prop where
  size : ds.length ≤ sizeLine
  turn : ∀ F Hf ρ σ H i, Rel K β F Hf ρ σ H → RepA K β F ρ σ r v → (∀ d, ds[i]? = some d → J.go i H ∧ ∀ x H', J.yld i H x H' → ∃ F', Ex F F' ∧ Rel K β F' Hf ρ σ H' ∧ Rep K β F' d x) ∧ (ds.length ≤ i → J.stop i H)
def tI (K : PySem.W.Frag) (β : Bx) (w : WI) : TI := fun σ H Rr => ∃ F Hf ρ, Rel K β F Hf ρ σ H ∧ w ρ fun r ds => ∀ F' H' v J, Ex F F' → Rel K β F' Hf ρ σ H' → RepA K β F' ρ σ r v → ItOk K β r v ds J → Rr J H'
structure PIW (X : Cx) (β : Bx) (tg e : Expr) (w : WI) : Prop where
  mono : ∀ ρ P P', (∀ r ds, P r ds → P' r ds) → w ρ P → w ρ P'
  run : PI X tg e (tI X.K β w)
section
variable {X : Cx} {β : Bx} {tg e a b c : Expr} {wa wb we : WE} {wt : WT} {wi : WI} {pos : Pos} {st : List Stmt} {w u : SW}

/-! for -/
def wForL (t : Tgt) (body : SW) (E : WEnds) : List D → WEnv → Prop
  | [], ρ => E.nx ρ
  | d :: ds, ρ => match bindT t d ρ with
    | some ρ' => body { nx := wForL t body E ds, ct := wForL t body E ds, bk := E.nx, rt := E.rt } ρ'
    | none => False
def wFor (wi : WI) (t : Tgt) (body : SW) : SW := fun E ρ => wi ρ fun r ds => match r with
  | .val _ => wForL t body E ds ρ
  | _ => False
theorem wForL_mono {t : Tgt} (hb : ∀ A B ρ, WLe A B → w A ρ → w B ρ) {A B : WEnds} (l : WLe A B) : ∀ (ds : List D) (ρ : WEnv), wForL t w A ds ρ → wForL t w B ds ρ
  | [], ρ, q => l.nx ρ q
  | d :: ds, ρ, q => by
    unfold wForL at q ⊢
    split at q
    · exact hb { nx := wForL t w A ds, ct := wForL t w A ds, bk := A.nx, rt := A.rt } { nx := wForL t w B ds, ct := wForL t w B ds, bk := B.nx, rt := B.rt } _ (WLe.mk (fun ρ q => wForL_mono hb l ds ρ q) l.rt l.nx (fun ρ q => wForL_mono hb l ds ρ q)) q
    · exact q
theorem ps_for {t : Tgt} (hi : PIW X β tg e wi) (hg : PG X tg (gTgt X.K t)) (hb : PBW X β st w) (hp : PassesOwn (model X.prog X.w) X.A X.env X.xe := by exact PassesOwn.never) (hc : X.calm = true := by rfl)
    (hs : ∀ x, foldedSetIterable e X.env x = pure x := by intro _; rfl) : PSW X β (.For tg e st [] pos) (wFor wi t w) := by
  refine ⟨fun A B ρ l q => hi.mono ρ _ _ (fun r ds q => ?_) q, imp_S (L2.ps_for hp hc hi.run hg hb.run hs) fun E σ H q => ?_⟩
  · split at q
    · exact wForL_mono hb.mono l _ _ q
    · exact q
  · obtain ⟨F, Hf, ρ, WD, I, q, k⟩ := q
    refine ⟨F, Hf, ρ, I, hi.mono ρ _ _ (fun r ds q F1 H1 v J e1 I1 r1 ok => ?_) q⟩
    cases r with
    | own d => exact q.elim
    | bor i d => exact q.elim
    | val d =>
      refine ⟨fun i m σ' H' => m = ds.length - i ∧ i ≤ ds.length ∧ ∃ F' ρ', Ex F1 F' ∧ Rel X.K β F' Hf ρ' σ' H' ∧ wForL t w WD (ds.drop i) ρ', ⟨ds.length, rfl, Nat.zero_le _, F1, ρ, Ex.refl F1, I1, q⟩, fun i m σ' H' hW => ?_⟩
      obtain ⟨hm, hi', F', ρ', e', I', q'⟩ := hW
      have tn := ok.turn F' Hf ρ' σ' H' i I' (show Rep X.K β F' d v from Rep.mono e' r1)
      by_cases hlt : i < ds.length
      · rw [List.drop_eq_getElem_cons hlt, wForL] at q'
        split at q'
        · rename_i ρ2 hb2
          obtain ⟨t1, t2⟩ := tn.1 ds[i] (List.getElem?_eq_getElem hlt)
          refine .inr ⟨t1, fun σ'' H'' => ∃ F'' ρ'', Ex F1 F'' ∧ Rel X.K β F'' Hf ρ'' σ'' H'' ∧ wForL t w WD (ds.drop (i + 1)) ρ'', fun σ'' H'' hN => ?_, fun x H2 hy => ?_⟩
          · exact ⟨ds.length - (i + 1), by omega, rfl, hlt, hN⟩
          · obtain ⟨F2, e2, I2, r2⟩ := t2 x H2 hy
            refine bindT_go I2 r2 hb2 fun σ3 I3 => ?_
            refine ⟨F2, Hf, ρ2, _, I3, q', ⟨fun F4 ρ4 σ4 H4 e4 I4 q4 => ⟨F4, ρ4, (e'.trans e2).trans e4, I4, q4⟩, fun F4 ρ4 σ4 H4 d4 v4 e4 I4 r4 q4 => k.rt F4 ρ4 σ4 H4 d4 v4 (((e1.trans e').trans e2).trans e4) I4 r4 q4,
              fun F4 ρ4 σ4 H4 e4 I4 q4 => k.nx F4 ρ4 σ4 H4 (((e1.trans e').trans e2).trans e4) I4 q4, fun F4 ρ4 σ4 H4 e4 I4 q4 => ⟨F4, ρ4, (e'.trans e2).trans e4, I4, q4⟩⟩⟩
        · exact q'.elim
      · have hlen : ds.length ≤ i := by omega
        rw [List.drop_eq_nil_of_le hlen, wForL] at q'
        exact .inl ⟨tn.2 hlen, k.nx F' ρ' σ' H' (e1.trans e') I' q'⟩

/-! while -/
def wWhileN (wt : WT) (body : SW) (E : WEnds) : Nat → WEnv → Prop
  | 0, _ => False
  | n + 1, ρ => wt ρ fun b => ifP b (body { nx := wWhileN wt body E n, ct := wWhileN wt body E n, bk := E.nx, rt := E.rt } ρ) (E.nx ρ)
def wWhile (wt : WT) (body : SW) : SW := fun E ρ => ∃ n, wWhileN wt body E n ρ
theorem wWhileN_mono (ht : ∀ ρ P P', (∀ r, P r → P' r) → wt ρ P → wt ρ P') (hb : ∀ A B ρ, WLe A B → w A ρ → w B ρ) {A B : WEnds} (l : WLe A B) : ∀ (n : Nat) (ρ : WEnv), wWhileN wt w A n ρ → wWhileN wt w B n ρ
  | 0, ρ, q => q
  | n + 1, ρ, q => by
    unfold wWhileN at q ⊢
    exact ht ρ _ _ (fun b q => ifP_mono q (fun q => hb { nx := wWhileN wt w A n, ct := wWhileN wt w A n, bk := A.nx, rt := A.rt } { nx := wWhileN wt w B n, ct := wWhileN wt w B n, bk := B.nx, rt := B.rt } _ (WLe.mk (fun ρ q => wWhileN_mono ht hb l n ρ q) l.rt l.nx (fun ρ q => wWhileN_mono ht hb l n ρ q)) q) (fun q => l.nx _ q)) q
theorem ps_while (ht : PWT X β c wt) (hb : PBW X β st w) (hp : PassesOwn (model X.prog X.w) X.A X.env X.xe := by exact PassesOwn.never) : PSW X β (.While c st [] pos) (wWhile wt w) := by
  refine ⟨fun A B ρ l ⟨n, q⟩ => ⟨n, wWhileN_mono ht.mono hb.mono l n ρ q⟩, imp_S (L2.ps_while hp ht.run hb.run) fun E σ H q => ?_⟩
  obtain ⟨F, Hf, ρ, WD, I, ⟨n, q⟩, k⟩ := q
  refine ⟨fun m σ' H' => ∃ F' ρ', Ex F F' ∧ Rel X.K β F' Hf ρ' σ' H' ∧ wWhileN wt w WD m ρ', ⟨n, F, ρ, Ex.refl F, I, q⟩, fun m σ' H' hW => ?_⟩
  obtain ⟨F', ρ', e', I', q'⟩ := hW
  cases m with
  | zero => exact False.elim q'
  | succ m =>
    unfold wWhileN at q'
    refine ⟨F', Hf, ρ', I', ht.mono ρ' _ _ (fun b q2 F2 H2 e2 I2 => ?_) q'⟩
    refine ifP_ite (ifP_mono q2 (fun q2 => ?_) (fun q2 => k.nx F2 ρ' σ' H2 (e'.trans e2) I2 q2))
    refine ⟨fun σ'' H'' => ∃ F'' ρ'', Ex F F'' ∧ Rel X.K β F'' Hf ρ'' σ'' H'' ∧ wWhileN wt w WD m ρ'', fun σ'' H'' hN => ⟨m, Nat.lt_succ_self m, hN⟩, ?_⟩
    exact ⟨F2, Hf, ρ', _, I2, q2, ⟨fun F4 ρ4 σ4 H4 e4 I4 q4 => ⟨F4, ρ4, (e'.trans e2).trans e4, I4, q4⟩, fun F4 ρ4 σ4 H4 d4 v4 e4 I4 r4 q4 => k.rt F4 ρ4 σ4 H4 d4 v4 ((e'.trans e2).trans e4) I4 r4 q4,
      fun F4 ρ4 σ4 H4 e4 I4 q4 => k.nx F4 ρ4 σ4 H4 ((e'.trans e2).trans e4) I4 q4, fun F4 ρ4 σ4 H4 e4 I4 q4 => ⟨F4, ρ4, (e'.trans e2).trans e4, I4, q4⟩⟩⟩

/-! comprehensions -/
def wipeW (ρ : WEnv) : List Nat → WEnv
  | [] => ρ
  | v :: vs => (wipeW ρ vs).set v .un
def noOwnAt (ρ : WEnv) : List Nat → Bool
  | [] => true
  | v :: vs => match ρ[v]? with
    | some (.own _) => false
    | _ => noOwnAt ρ vs
end

theorem wipeW_get {ρ : WEnv} {i : Nat} : ∀ {vs : List Nat}, i ∉ vs → (wipeW ρ vs)[i]? = ρ[i]?
  | [], _ => rfl
  | v :: vs, h => by
    simp only [List.mem_cons, not_or] at h
    rw [wipeW, get_set_ne h.1]
    exact wipeW_get h.2
theorem wipeW_len (ρ : WEnv) : ∀ vs : List Nat, (wipeW ρ vs).length = ρ.length
  | [] => rfl
  | v :: vs => by rw [wipeW, List.length_set, wipeW_len ρ vs]
theorem wipeW_in {ρ : WEnv} {i : Nat} {s : Slot} : ∀ {vs : List Nat}, i ∈ vs → (wipeW ρ vs)[i]? = some s → s = .un
  | [], h, _ => by simp at h
  | v :: vs, h, e => by
    rw [wipeW] at e
    rcases set_get e with ⟨_, h2, _⟩ | ⟨ne, h2⟩
    · exact h2.symm
    · have : i ∈ vs := by
        rcases List.mem_cons.mp h with z | z
        · exact absurd z ne
        · exact z
      exact wipeW_in this h2
theorem wipe_set {σ : L2.St} {i : Nat} {x : Option V} : ∀ {vs : List Nat}, i ∈ vs → wipe (σ.set i x) vs = wipe σ vs
  | [], h => by simp at h
  | v :: vs, h => by
    rw [wipe, wipe]
    by_cases hi : i ∈ vs
    · rw [wipe_set hi]
    · have e : i = v := by
        rcases List.mem_cons.mp h with z | z
        · exact z
        · exact absurd z hi
      subst e
      apply List.ext_getElem?
      intro j
      by_cases hj : j = i
      · subst hj
        have l1 : (wipe (σ.set j x) vs).length = σ.length := by rw [wipe_length, List.length_set]
        have l2 : (wipe σ vs).length = σ.length := wipe_length σ vs
        by_cases hl : j < σ.length
        · rw [List.getElem?_set_self (by rw [l1]; exact hl), List.getElem?_set_self (by rw [l2]; exact hl)]
        · rw [List.getElem?_eq_none (by rw [List.length_set, l1]; omega), List.getElem?_eq_none (by rw [List.length_set, l2]; omega)]
      · rw [get_set_ne hj, get_set_ne hj]
        by_cases hv : j ∈ vs
        · have n1 : ∀ τ : L2.St, τ.length = σ.length → (wipe τ vs)[j]? = if j < σ.length then some none else none := fun τ hτ => by
            split
            · rename_i hl
              cases h1 : (wipe τ vs)[j]? with
              | none =>
                rw [List.getElem?_eq_none_iff, wipe_length] at h1
                omega
              | some y =>
                cases y with
                | none => rfl
                | some z => exact absurd hv (wipe_some h1).2
            · rename_i hl
              rw [List.getElem?_eq_none (by rw [wipe_length, hτ]; omega)]
          rw [n1 _ (by rw [List.length_set]), n1 _ rfl]
        · rw [wipe_out hv, wipe_out hv, get_set_ne hj]
theorem wipeW_set {σ : WEnv} {i : Nat} {x : Slot} : ∀ {vs : List Nat}, i ∈ vs → wipeW (σ.set i x) vs = wipeW σ vs
  | [], h => by simp at h
  | v :: vs, h => by
    rw [wipeW, wipeW]
    by_cases hi : i ∈ vs
    · rw [wipeW_set hi]
    · have e : i = v := by
        rcases List.mem_cons.mp h with z | z
        · exact z
        · exact absurd z hi
      subst e
      apply List.ext_getElem?
      intro j
      by_cases hj : j = i
      · subst hj
        have l1 : (wipeW (σ.set j x) vs).length = σ.length := by rw [wipeW_len, List.length_set]
        have l2 : (wipeW σ vs).length = σ.length := wipeW_len σ vs
        by_cases hl : j < σ.length
        · rw [List.getElem?_set_self (by rw [l1]; exact hl), List.getElem?_set_self (by rw [l2]; exact hl)]
        · rw [List.getElem?_eq_none (by rw [List.length_set, l1]; omega), List.getElem?_eq_none (by rw [List.length_set, l2]; omega)]
      · rw [get_set_ne hj, get_set_ne hj]
        by_cases hv : j ∈ vs
        · have n1 : ∀ τ : WEnv, τ.length = σ.length → (wipeW τ vs)[j]? = if j < σ.length then some .un else none := fun τ hτ => by
            split
            · rename_i hl
              have hl' : j < (wipeW τ vs).length := by rw [wipeW_len, hτ]; exact hl
              rw [List.getElem?_eq_getElem hl']
              rw [wipeW_in hv (List.getElem?_eq_getElem hl')]
            · rename_i hl
              rw [List.getElem?_eq_none (by rw [wipeW_len, hτ]; omega)]
          rw [n1 _ (by rw [List.length_set]), n1 _ rfl]
        · rw [wipeW_get hv, wipeW_get hv, get_set_ne hj]
theorem wipe_idem (σ : L2.St) : ∀ vs us : List Nat, (∀ v ∈ us, v ∈ vs) → wipe (wipe σ us) vs = wipe σ vs
  | vs, [], _ => rfl
  | vs, u :: us, h => by
    rw [wipe, wipe_set (h u List.mem_cons_self)]
    exact wipe_idem σ vs us fun v hv => h v (List.mem_cons_of_mem _ hv)
theorem wipeW_idem (σ : WEnv) : ∀ vs us : List Nat, (∀ v ∈ us, v ∈ vs) → wipeW (wipeW σ us) vs = wipeW σ vs
  | vs, [], _ => rfl
  | vs, u :: us, h => by
    rw [wipeW, wipeW_set (h u List.mem_cons_self)]
    exact wipeW_idem σ vs us fun v hv => h v (List.mem_cons_of_mem _ hv)
theorem noOwnAt_mem {ρ : WEnv} : ∀ {vs : List Nat}, noOwnAt ρ vs = true → ∀ v ∈ vs, ∀ d, ρ[v]? ≠ some (Slot.own d)
  | [], _, v, h, _ => by simp at h
  | u :: us, e, v, h, d => by
    rw [noOwnAt] at e
    split at e
    · cases e
    · rename_i hn
      rcases List.mem_cons.mp h with z | z
      · subst z; intro hz; exact hn d hz
      · exact noOwnAt_mem e v z d
section
variable {K : PySem.W.Frag} {β : Bx} {F F' F1 Hf H H' H1 : Hp} {ρ : WEnv} {σ : L2.St}
theorem Rel.wipe (I : Rel K β F Hf ρ σ H) (vs : List Nat) : Rel K β F Hf (wipeW ρ vs) (L2.wipe σ vs) H := by
  have out : ∀ (i : Nat) (s : Slot), (wipeW ρ vs)[i]? = some s → s ≠ .un → i ∉ vs ∧ ρ[i]? = some s := fun i s h n => by
    by_cases hi : i ∈ vs
    · exact absurd (wipeW_in hi h) n
    · rw [wipeW_get hi] at h
      exact ⟨hi, h⟩
  refine ⟨I.fex, I.hex, I.bx, I.bxF, by rw [wipeW_len, wipe_length, I.len], fun i d h => ?_, fun i d h => ?_, fun i j di dj a h1 h2 h3 h4 => ?_⟩
  · obtain ⟨n, h⟩ := out i _ h (fun z => nomatch z)
    obtain ⟨v, q1, q2⟩ := I.val i d h
    exact ⟨v, by rw [wipe_out n]; exact q1, q2⟩
  · obtain ⟨n, h⟩ := out i _ h (fun z => nomatch z)
    obtain ⟨a, q1, q⟩ := I.own i d h
    exact ⟨a, by rw [wipe_out n]; exact q1, q⟩
  · obtain ⟨n1, h1⟩ := out i _ h1 (fun z => nomatch z)
    obtain ⟨n2, h2⟩ := out j _ h2 (fun z => nomatch z)
    rw [wipe_out n1] at h3
    rw [wipe_out n2] at h4
    exact I.sep i j di dj a h1 h2 h3 h4
theorem Rel.unwipe (I : Rel K β F Hf ρ σ H) {vs : List Nat} (J : Rel K β F1 Hf (wipeW ρ vs) (L2.wipe σ vs) H1) (e : Ex F F1) (n : noOwnAt ρ vs = true) : Rel K β F1 Hf ρ σ H1 := by
  refine ⟨J.fex, J.hex, J.bx, J.bxF, I.len, fun i d h => ?_, fun i d h => ?_, I.sep⟩
  · obtain ⟨v, q1, q2⟩ := I.val i d h
    exact ⟨v, q1, q2.mono e⟩
  · have ni : i ∉ vs := fun z => noOwnAt_mem n i z d h
    obtain ⟨a, q1, q⟩ := J.own i d (by rw [wipeW_get ni]; exact h)
    exact ⟨a, by rw [wipe_out ni] at q1; exact q1, q⟩
/-- an object of ours is laid aside -/
theorem Rel.hide (I : Rel K β F Hf ρ σ H) {p : Addr} {o : HO} (h : H p = some o) (h1 : F p = none) (h2 : Hf p = none) (h3 : ¬ β.foot p) (h4 : NoOwn ρ σ p) : Rel K β F (upd Hf p o) ρ σ H := by
  refine ⟨I.fex, fun b u hb => ?_, I.bx, fun b hb => ?_, I.len, I.val, fun m dm hm => ?_, I.sep⟩
  · by_cases hbp : b = p
    · rw [hbp, upd_same] at hb
      rw [hbp]
      exact ⟨h.trans hb, h1⟩
    · rw [upd_ne hbp] at hb; exact I.hex b u hb
  · have : b ≠ p := fun z => h3 (z ▸ hb)
    rw [upd_ne this]; exact I.bxF b hb
  · obtain ⟨b, g1, g2, g3, g4, g5⟩ := I.own m dm hm
    have : b ≠ p := fun z => h4 m dm hm (z ▸ g1)
    exact ⟨b, g1, g2, by rw [upd_ne this]; exact g3, g4, g5⟩
/-- .. and taken up again, changed -/
theorem Rel.unhide {p : Addr} {o o' : HO} (I : Rel K β F (upd Hf p o) ρ σ H) (h2 : Hf p = none) : Rel K β F Hf ρ σ (upd H p o') ∧ F p = none ∧ ¬ β.foot p ∧ NoOwn ρ σ p := by
  have hp := I.hex p o upd_same
  have nf : ¬ β.foot p := fun z => by
    have := (I.bxF p z).2
    rw [upd_same] at this; cases this
  have sub : ∀ b u, Hf b = some u → b ≠ p ∧ (upd Hf p o) b = some u := fun b u hb => by
    have : b ≠ p := fun z => by rw [z, h2] at hb; cases hb
    exact ⟨this, by rw [upd_ne this]; exact hb⟩
  have non : ∀ b, (upd Hf p o) b = none → b ≠ p ∧ Hf b = none := fun b hb => by
    have nb : b ≠ p := fun z => by rw [z, upd_same] at hb; cases hb
    exact ⟨nb, by rwa [upd_ne nb] at hb⟩
  refine ⟨⟨fun b u hb => ?_, fun b u hb => ?_, ?_, fun b hb => ?_, I.len, I.val, fun m dm hm => ?_, I.sep⟩, hp.2, nf, fun i d h z => ?_⟩
  · have nb : b ≠ p := fun z => by rw [z, hp.2] at hb; cases hb
    rw [upd_ne nb]; exact I.fex b u hb
  · obtain ⟨nb, hb⟩ := sub b u hb
    rw [upd_ne nb]; exact I.hex b u hb
  · refine β.loc H _ (fun b hb => ?_) I.bx
    have : b ≠ p := fun z => nf (z ▸ hb)
    rw [upd_ne this]
  · exact ⟨(I.bxF b hb).1, (non b (I.bxF b hb).2).2⟩
  · obtain ⟨b, g1, g2, g3, g4, g5⟩ := I.own m dm hm
    obtain ⟨nb, g3⟩ := non b g3
    exact ⟨b, g1, g2, g3, g4, g5.at (by rw [upd_ne nb])⟩
  · obtain ⟨b, g1, g2, g3, g4, g5⟩ := I.own i d h
    rw [g1] at z; cases z
    exact (non _ g3).1 rfl
end
/-- the target's slots -/
def Tgt.slots : Tgt → List Nat
  | .one j => [j]
  | .tup js => js
theorem setAll_goW {K : PySem.W.Frag} {β : Bx} {F Hf H : Hp} {us : List Nat} : ∀ {js : List Nat} {ds : List D} {ρ ρ' : WEnv} {σ : L2.St} {vs : List V} {Q : L2.St → Hp → Prop}, (∀ j ∈ js, j ∈ us) → Rel K β F Hf ρ σ H → RepL K β F ds vs → setAll js ds ρ = some ρ' →
    (∀ σ', Rel K β F Hf ρ' σ' H → wipe σ' us = wipe σ us → wipeW ρ' us = wipeW ρ us → Q σ' H) → gNames js vs σ H Q
  | [], [], ρ, ρ', σ, vs, Q, _, I, r, e, q => by
    rw [setAll] at e; cases e
    rw [RepL] at r; subst r
    exact ⟨rfl, q σ I rfl rfl⟩
  | [], _ :: _, _, _, _, _, _, _, _, _, e, _ => by simp [setAll] at e
  | _ :: _, [], _, _, _, _, _, _, _, _, e, _ => by simp [setAll] at e
  | j :: js, d :: ds, ρ, ρ', σ, vs, Q, hu, I, r, e, q => by
    rw [setAll] at e
    rw [RepL] at r
    obtain ⟨v, ws, rfl, r1, r2⟩ := r
    have hj := hu j List.mem_cons_self
    exact ⟨v, ws, rfl, setAll_goW (fun k hk => hu k (List.mem_cons_of_mem _ hk)) (I.setVal j r1) r2 e fun σ' I' e1 e2 => q σ' I' (by rw [e1, wipe_set hj]) (by rw [e2, wipeW_set hj])⟩
theorem bindT_goW {K : PySem.W.Frag} {β : Bx} {F Hf H : Hp} {tg : Tgt} {d : D} {ρ ρ' : WEnv} {σ : L2.St} {v : V} {us : List Nat} {Q : L2.St → Hp → Prop} (hu : ∀ j ∈ tg.slots, j ∈ us) (I : Rel K β F Hf ρ σ H) (r : Rep K β F d v) (e : bindT tg d ρ = some ρ')
    (q : ∀ σ', Rel K β F Hf ρ' σ' H → wipe σ' us = wipe σ us → wipeW ρ' us = wipeW ρ us → Q σ' H) : gTgt K tg v σ H Q := by
  cases tg with
  | one j =>
    rw [bindT] at e; cases e
    have hj := hu j List.mem_cons_self
    exact q _ (I.setVal j r) (wipe_set hj) (wipeW_set hj)
  | tup js =>
    cases d <;> first
      | (exfalso; simp [bindT] at e; done)
      | (rename_i ds
         rw [bindT] at e
         rw [Rep] at r
         obtain ⟨a, vs, rfl, sq, hz, rl⟩ := r
         exact ⟨a, vs, rfl, ex_t I.fex sq.sq, by rw [rl.length, setAll_len e], setAll_goW hu I rl e q⟩)
def wLcL (t : Tgt) (wt : WT) (we : WE) (ρ : WEnv) : List D → List D → (List D → Prop) → Prop
  | [], acc, Q => Q acc
  | d :: ds, acc, Q => match bindT t d ρ with
    | some ρ' => wt ρ' fun b => ifP b (we ρ' fun r => match r.fz with
      | .val e => wLcL t wt we ρ ds (acc ++ [e]) Q
      | _ => False) (wLcL t wt we ρ ds acc Q)
    | none => False
def wLc (wi : WI) (t : Tgt) (wt : WT) (we : WE) (vs : List Nat) : WE := fun ρ P => wi ρ fun _ ds => match noOwnAt ρ vs with
  | true => wLcL t wt we (wipeW ρ vs) ds [] fun acc => P (.own (.lst acc))
  | false => False
def wYes : WT := fun _ P => P true
section
variable {X : Cx} {β : Bx} {tg e elt : Expr} {we : WE} {wt : WT} {wi : WI} {pos : Pos}
theorem wLcL_mono {t : Tgt} {ρ : WEnv} (mt : ∀ ρ P P', (∀ r, P r → P' r) → wt ρ P → wt ρ P') (me : ∀ ρ P P', (∀ r, P r → P' r) → we ρ P → we ρ P') {P P' : List D → Prop} (k : ∀ r, P r → P' r) : ∀ (ds acc : List D), wLcL t wt we ρ ds acc P → wLcL t wt we ρ ds acc P'
  | [], acc, q => k _ q
  | d :: ds, acc, q => by
    unfold wLcL at q ⊢
    split at q
    · refine mt _ _ _ (fun b q => ifP_mono q (fun q => me _ _ _ (fun r q => ?_) q) (fun q => wLcL_mono mt me k ds acc q)) q
      split at q
      · exact wLcL_mono mt me k ds _ q
      · exact q
    · exact q
structure PTW (X : Cx) (β : Bx) (ifs : List Expr) (w : WT) : Prop where
  mono : ∀ ρ P P', (∀ r, P r → P' r) → w ρ P → w ρ P'
  run : PTs X ifs (tWT X.K β w)
theorem ptw_nil : PTW X β [] wYes := ⟨fun _ _ _ k q => k _ q, ⟨fun pins s σ H Q I q => by
  obtain ⟨F, Hf, ρ, J, q⟩ := q
  exact pts_nil.run pins s σ H Q I (q F H (Ex.refl F) J)⟩⟩
theorem ptw_one {c : Expr} (h : PWT X β c wt) : PTW X β [c] wt := ⟨h.mono, pts_one h.run⟩
theorem lc_go {t : Tgt} {vs : List Nat} (mi : ∀ ρ P P', (∀ r ds, P r ds → P' r ds) → wi ρ P → wi ρ P') (mt : ∀ ρ P P', (∀ r, P r → P' r) → wt ρ P → wt ρ P') (me : ∀ ρ P P', (∀ r, P r → P' r) → we ρ P → we ρ P') (hv : ∀ j ∈ t.slots, j ∈ vs)
    (σ : L2.St) (H : Hp) (Q : VK) (q : tW X.K β (wLc wi t wt we vs) σ H Q) : tLc (tI X.K β wi) (gTgt X.K t) (tWT X.K β wt) (tW X.K β we) vs σ H Q := by
  obtain ⟨F, Hf, ρ, I, q⟩ := q
  refine ⟨F, Hf, ρ, I, mi ρ _ _ (fun r ds q F1 H1 v J e1 I1 r1 ok Dn hD => ?_) q⟩
  split at q
  rotate_left
  · exact q.elim
  rename_i hno
  obtain ⟨f1, f2, f3, f4⟩ := I1.none_of hD
  let ρw := wipeW ρ vs
  let σw := wipe σ vs
  have f4w : NoOwn ρw σw Dn := fun i d h z => by
    have hi : i ∉ vs := fun hi => nomatch (wipeW_in hi h)
    have h : (wipeW ρ vs)[i]? = some (Slot.own d) := h
    have z : (wipe σ vs)[i]? = some (some (V.ref Dn)) := z
    rw [wipeW_get hi] at h
    rw [wipe_out hi] at z
    exact f4 i d h z
  have src : ∀ F', Ex F1 F' → RepA X.K β F' ρw σw r v := fun F' e' => by
    cases r with
    | val d => exact Rep.mono e' r1
    | own d => exact r1
    | bor i d =>
      obtain ⟨g1, g2⟩ := (show ρ[i]? = some (Slot.own d) ∧ σ[i]? = some (some v) from r1)
      have hi : i ∉ vs := fun hi => noOwnAt_mem hno i hi d g1
      exact ⟨by show (wipeW ρ vs)[i]? = _; rw [wipeW_get hi]; exact g1, by show (wipe σ vs)[i]? = _; rw [wipe_out hi]; exact g2⟩
  let Fin : List D → Prop := fun acc => ∀ F' H' v, Ex F F' → Rel X.K β F' Hf ρ σ H' → RepR X.K β F' Hf ρ σ H' (.own (.lst acc)) v → Q v H'
  refine ⟨fun i m H' => m = ds.length - i ∧ i ≤ ds.length ∧ ∃ F' acc us, Ex F1 F' ∧ Rel X.K β F' Hf ρw σw H' ∧ H' Dn = some (.lst us) ∧ F' Dn = none ∧ RepL X.K β F' acc us ∧ acc.length ≤ i ∧ wLcL t wt we ρw (ds.drop i) acc Fin,
    ⟨ds.length, rfl, Nat.zero_le _, F1, [], [], Ex.refl F1, (I1.wipe vs).grow hD, upd_same, f1, RepL.nil, Nat.le_refl 0, q⟩, fun i m H' hW => ?_⟩
  obtain ⟨hm, hi', F', acc, us, e', I', hDl, hFD, rl, hac, q'⟩ := hW
  have tn := ok.turn F' Hf ρw σw H' i I' (src F' e')
  by_cases hlt : i < ds.length
  · rw [List.drop_eq_getElem_cons hlt, wLcL] at q'
    split at q'
    rotate_left
    · exact q'.elim
    rename_i ρ2 hb2
    obtain ⟨t1, _⟩ := tn.1 ds[i] (List.getElem?_eq_getElem hlt)
    have Ih := I'.hide hDl hFD f2 f3 f4w
    obtain ⟨_, t2⟩ := (ok.turn F' (upd Hf Dn (.lst us)) ρw σw H' i Ih (src F' e')).1 ds[i] (List.getElem?_eq_getElem hlt)
    let Nx : Hp → Prop := fun H'' => ∃ F'' acc us, Ex F1 F'' ∧ Rel X.K β F'' Hf ρw σw H'' ∧ H'' Dn = some (.lst us) ∧ F'' Dn = none ∧ RepL X.K β F'' acc us ∧ acc.length ≤ i + 1 ∧ wLcL t wt we ρw (ds.drop (i + 1)) acc Fin
    refine .inr ⟨t1, Nx, fun H'' hN => ⟨ds.length - (i + 1), by omega, rfl, hlt, hN⟩, fun x H2 hy => ?_⟩
    obtain ⟨F2, e2, I2, r2⟩ := t2 x H2 hy
    refine bindT_goW hv I2 r2 hb2 fun σ3 I3 w1 w2 => ⟨?_, F2, upd Hf Dn (.lst us), ρ2, I3, mt ρ2 _ _ (fun b q3 F3 H3 e3 I3 => ?_) q'⟩
    · rw [w1]
      exact wipe_idem σ vs vs fun _ h => h
    have wσ : wipe σ3 vs = σw := w1.trans (wipe_idem σ vs vs fun _ h => h)
    have wρ : wipeW ρ2 vs = ρw := w2.trans (wipeW_idem ρ vs vs fun _ h => h)
    refine ifP_ite (ifP_mono q3 (fun q3 => ?_) (fun q3 => ?_))
    · refine ⟨F3, upd Hf Dn (.lst us), ρ2, I3, me ρ2 _ _ (fun s q4 F4 H4 y e4 I4 r4 => ?_) q3⟩
      obtain ⟨F5, e5, I5, r5⟩ := r4.keep I4
      split at q4
      rotate_left
      · exact q4.elim
      rename_i z hz
      rw [hz] at r5
      have hD4 := (I5.hex Dn _ upd_same).1
      refine ⟨us, hD4, ?_, ?_⟩
      · rw [rl.length]
        have := ok.size
        omega
      · have J5 := I5.wipe vs
        rw [wσ, wρ] at J5
        obtain ⟨K5, g1, _, _⟩ := J5.unhide (o' := .lst (us ++ [y])) f2
        have e35 : Ex F1 F5 := (((e'.trans e2).trans e3).trans e4).trans e5
        refine ⟨F5, acc ++ [z], us ++ [y], e35, K5, upd_same, g1, ?_, by rw [List.length_append, List.length_singleton]; omega, q4⟩
        exact (rl.mono (((e2.trans e3).trans e4).trans e5)).append (RepL.cons r5 RepL.nil)
    · have J3 := I3.wipe vs
      rw [wσ, wρ] at J3
      obtain ⟨K3, g1, _, _⟩ := J3.unhide (o' := .lst us) f2
      have hD3 := (I3.hex Dn _ upd_same).1
      have : upd H3 Dn (.lst us) = H3 := by
        funext b
        by_cases hb : b = Dn
        · rw [hb, upd_same, hD3]
        · rw [upd_ne hb]
      rw [this] at K3
      exact ⟨F3, acc, us, (e'.trans e2).trans e3, K3, hD3, g1, rl.mono (e2.trans e3), by omega, q3⟩
  · have hlen : ds.length ≤ i := by omega
    rw [List.drop_eq_nil_of_le hlen, wLcL] at q'
    refine .inl ⟨tn.2 hlen, ?_⟩
    exact q' F' H' _ (e1.trans e') (I1.unwipe I' e' hno) ⟨Dn, rfl, hFD, f2, f3, f4, us, hDl, by have := ok.size; omega, rl⟩
theorem wLc_mono {t : Tgt} {vs : List Nat} (mi : ∀ ρ P P', (∀ r ds, P r ds → P' r ds) → wi ρ P → wi ρ P') (mt : ∀ ρ P P', (∀ r, P r → P' r) → wt ρ P → wt ρ P') (me : ∀ ρ P P', (∀ r, P r → P' r) → we ρ P → we ρ P')
    (ρ : WEnv) (P P' : R → Prop) (k : ∀ r, P r → P' r) (q : wLc wi t wt we vs ρ P) : wLc wi t wt we vs ρ P' := mi ρ _ _ (fun r ds q => by
  split at q
  · exact wLcL_mono mt me (fun _ q => k _ q) _ _ q
  · exact q) q
theorem pw_lc {t : Tgt} {ifs : List Expr} {scope : Scope} {own : List (Str × Nat)} (hN : X.N.Nodup) (hi : PIW X β tg e wi) (ok : BlkOk X.N X.env.scope scope own)
    (hg : ∀ (s : Shared) (H : Hp) (C : Addr) (cl : List (Str × Addr)) (fp : List Addr), PG (X.blk s H scope (compEnvC scope cl C X.env) fp) tg (gTgt X.K t)) (ht : ∀ (s : Shared) (H : Hp) (C : Addr) (cl : List (Str × Addr)) (fp : List Addr), PTW (X.blk s H scope (compEnvC scope cl C X.env) fp) β ifs wt)
    (he : ∀ (s : Shared) (H : Hp) (C : Addr) (cl : List (Str × Addr)) (fp : List Addr), PW (X.blk s H scope (compEnvC scope cl C X.env) fp) β elt we) (hc : X.calm = true := by rfl) (hs : ∀ x, foldedSetIterable e X.env x = pure x := by intro _; rfl)
    (hv : ∀ j ∈ t.slots, j ∈ own.map (·.2) := by decide) (z : Shared × Hp × Addr × List (Str × Addr) × List Addr := by exact ⟨default, fun _ => none, 0, [], []⟩) : PW X β (.ListComp elt [⟨tg, e, ifs, 0⟩] scope pos) (wLc wi t wt we (own.map (·.2))) := by
  have mt := (ht z.1 z.2.1 z.2.2.1 z.2.2.2.1 z.2.2.2.2).mono
  have me := (he z.1 z.2.1 z.2.2.1 z.2.2.2.1 z.2.2.2.2).mono
  exact ⟨wLc_mono hi.mono mt me, imp_E (pe_lc (te := tW X.K β we) (tt := tWT X.K β wt) hc hN hi.run ok hg (fun s H C cl fp => (ht s H C cl fp).run) (fun s H C cl fp => (he s H C cl fp).run) hs) fun σ H Q q => lc_go hi.mono mt me hv σ H Q q⟩
theorem ps_setLc {i : Nat} {y : Str} {py : Pos} {spos : Pos} {t : Tgt} {ifs : List Expr} {scope : Scope} {own : List (Str × Nat)} (hN : X.N.Nodup) (hy : X.N[i]? = some y) (hyl : X.env.scope.names.lookup y = some .local)
    (hsw : swapsWith (.ListComp elt [⟨tg, e, ifs, 0⟩] scope pos) (some (.Name y py)) spos.line X.env = pure true) (hi : PIW X β tg e wi) (ok : BlkOk X.N X.env.scope scope own)
    (hg : ∀ (s : Shared) (H : Hp) (C : Addr) (cl : List (Str × Addr)) (fp : List Addr), PG (X.blk s H scope (compEnvC scope cl C X.env) fp) tg (gTgt X.K t)) (ht : ∀ (s : Shared) (H : Hp) (C : Addr) (cl : List (Str × Addr)) (fp : List Addr), PTW (X.blk s H scope (compEnvC scope cl C X.env) fp) β ifs wt)
    (he : ∀ (s : Shared) (H : Hp) (C : Addr) (cl : List (Str × Addr)) (fp : List Addr), PW (X.blk s H scope (compEnvC scope cl C X.env) fp) β elt we) (hc : X.calm = true := by rfl) (hs : ∀ x, foldedSetIterable e X.env x = pure x := by intro _; rfl)
    (hv : ∀ j ∈ t.slots, j ∈ own.map (·.2) := by decide) (z : Shared × Hp × Addr × List (Str × Addr) × List Addr := by exact ⟨default, fun _ => none, 0, [], []⟩) : PSW X β (.Assign [.Name y py] (.ListComp elt [⟨tg, e, ifs, 0⟩] scope pos) spos) (wSet i (wLc wi t wt we (own.map (·.2)))) := by
  have mt := (ht z.1 z.2.1 z.2.2.1 z.2.2.2.1 z.2.2.2.2).mono
  have me := (he z.1 z.2.1 z.2.2.1 z.2.2.2.1 z.2.2.2.2).mono
  refine ⟨wSet_mono (wLc_mono hi.mono mt me), imp_S (L2.ps_setLc (te := tW X.K β we) (tt := tWT X.K β wt) hc hN hy hyl hsw hi.run ok hg (fun s H C cl fp => (ht s H C cl fp).run) (fun s H C cl fp => (he s H C cl fp).run) hs) fun E σ H q => ?_⟩
  exact lc_go hi.mono mt me hv σ H _ (by
    obtain ⟨F, Hf, ρ, WD, I, q, k⟩ := q
    refine ⟨F, Hf, ρ, I, wLc_mono hi.mono mt me ρ _ _ (fun r q F1 H1 v e1 I1 r1 => ?_) q⟩
    split at q
    · rename_i s hs
      exact k.nx F1 _ _ H1 e1 (I1.setR i r1 hs) q
    · exact q.elim)
end
end WL
set_option Elab.async false
set_option linter.all false
set_option autoImplicit false
set_option maxRecDepth 100000
namespace WL
open PySem PySem.Spec L2

/-! ### equality as Python has it -/
mutual
def peq : D → D → Bool
  | .non, .non => true
  | .bl a, .bl b => a == b
  | .bl a, .int j => (if a then 1 else 0) == j
  | .int i, .bl b => i == (if b then 1 else 0)
  | .int i, .int j => i == j
  | .str x, .str y => x == y
  | .lst xs, .lst ys => peqL xs ys
  | .tup xs, .tup ys => peqL xs ys
  | _, _ => false
def peqL : List D → List D → Bool
  | [], [] => true
  | x :: xs, y :: ys => peq x y && peqL xs ys
  | _, _ => false
end
mutual
def shpN : Nat → D → Bool
  | _, .non => true
  | _, .bl _ => true
  | _, .int _ => true
  | _, .str _ => true
  | 0, _ => false
  | n + 1, .tup xs => shpL n xs
  | n + 1, .lst xs => shpL n xs
  | _, _ => false
def shpL : Nat → List D → Bool
  | _, [] => true
  | n, d :: ds => shpN n d && shpL n ds
end
mutual
def toPy : D → PyData
  | .non => .none
  | .bl b => .bool b
  | .int i => .int i
  | .str x => .str (mkS x)
  | .tup xs => .tuple (toPyL xs)
  | .lst xs => .list (toPyL xs)
  | .dct _ _ => .none
  | .box => .none
def toPyL : List D → List PyData
  | [] => []
  | d :: ds => toPy d :: toPyL ds
end
section
variable {K : PySem.W.Frag} {β : Bx} {F Hf H : Hp} {ρ : WEnv} {σ : L2.St}
theorem strOk_of {x : List Nat} (h : okS x) : PyData.strOk (mkS x) = true := by
  unfold PyData.strOk
  rw [Array.all_eq_true]
  intro i hi
  have hi' : i < x.length := by simpa [mkS] using hi
  have : (mkS x).cps[i] ∈ x := by
    show x.toArray[i] ∈ x
    rw [List.getElem_toArray]
    exact List.getElem_mem hi'
  have := h.2 _ this
  exact decide_eq_true (by omega)
mutual
theorem rep_py (e : Ex F H) : ∀ (n : Nat) (d : D) (v : V), shpN n d = true → Rep K β F d v → Dp K H v (toPy d) ∧ (toPy d).canLay0 = true ∧ (toPy d).depth ≤ n
  | n, .non, v, h, r => by
    rw [Rep] at r; subst r; rw [toPy]
    exact ⟨.non, rfl, Nat.zero_le _⟩
  | n, .bl b, v, h, r => by
    rw [Rep] at r; subst r; rw [toPy]
    exact ⟨.bl b, rfl, Nat.zero_le _⟩
  | n, .int b, v, h, r => by
    rw [Rep] at r; subst r; rw [toPy]
    exact ⟨.int b, rfl, Nat.zero_le _⟩
  | n, .str x, v, h, r => by
    rw [Rep] at r; obtain ⟨rfl, r⟩ := r; rw [toPy]
    exact ⟨.str _, by simp only [PyData.canLay0]; exact strOk_of r, by simp only [PyData.depth]; exact Nat.zero_le _⟩
  | 0, .tup xs, v, h, r => by simp [shpN] at h
  | 0, .lst xs, v, h, r => by simp [shpN] at h
  | n + 1, .tup xs, v, h, r => by
    rw [Rep] at r; obtain ⟨a, vs, rfl, h2, h3, h4⟩ := r; rw [toPy]
    rw [shpN] at h
    obtain ⟨g1, g2, g3⟩ := rep_pyL e n xs vs h h4
    exact ⟨.tup (ex_t e h2.sq) g1, by simp only [PyData.canLay0]; exact g2, by simp only [PyData.depth]; omega⟩
  | n + 1, .lst xs, v, h, r => by
    rw [Rep] at r; obtain ⟨a, vs, rfl, h2, h3, h4⟩ := r; rw [toPy]
    rw [shpN] at h
    obtain ⟨g1, g2, g3⟩ := rep_pyL e n xs vs h h4
    exact ⟨.lst (.of (e _ _ h2)) g1, by simp only [PyData.canLay0]; exact g2, by simp only [PyData.depth]; omega⟩
  | n, .dct _ _, v, h, r => by cases n <;> simp [shpN] at h
  | n, .box, v, h, r => by cases n <;> simp [shpN] at h
theorem rep_pyL (e : Ex F H) : ∀ (n : Nat) (ds : List D) (vs : List V), shpL n ds = true → RepL K β F ds vs → DpAll K H vs (toPyL ds) ∧ PyData.canLayAll0 (toPyL ds) = true ∧ PyData.depthAll (toPyL ds) ≤ n
  | n, [], vs, h, r => by
    rw [RepL] at r; subst r; rw [toPyL]
    exact ⟨.nil, rfl, Nat.zero_le _⟩
  | n, d :: ds, vs, h, r => by
    rw [RepL] at r; obtain ⟨v, ws, rfl, h2, h3⟩ := r; rw [toPyL]
    rw [shpL, Bool.and_eq_true] at h
    obtain ⟨g1, g2, g3⟩ := rep_py e n d v h.1 h2
    obtain ⟨k1, k2, k3⟩ := rep_pyL e n ds ws h.2 h3
    exact ⟨.cons g1 k1, by simp only [PyData.canLayAll0, g2, k2]; rfl, by simp only [PyData.depthAll]; omega⟩
end
theorem mkS_beq (x y : List Nat) : (mkS x == mkS y) = (x == y) := by
  by_cases h : x = y
  · subst h; simp
  · have h' : mkS x ≠ mkS y := fun z => h (mkS_inj.mp z)
    rw [beq_eq_false_iff_ne.mpr h, beq_eq_false_iff_ne.mpr h']
mutual
theorem eqv_py : ∀ (n : Nat) (d e : D), shpN n d = true → shpN n e = true → PyData.eqv (toPy d) (toPy e) = peq d e
  | n, .non, e, _, h => by cases e <;> first | rfl | (cases n <;> simp [shpN] at h)
  | n, .bl b, e, _, h => by cases e <;> first | rfl | (cases n <;> simp [shpN] at h)
  | n, .int b, e, _, h => by cases e <;> first | rfl | (cases n <;> simp [shpN] at h)
  | n, .str x, e, _, h => by
    cases e <;> first
      | (simp only [toPy, PyData.eqv, peq]; exact mkS_beq _ _)
      | rfl
      | (cases n <;> simp [shpN] at h)
  | 0, .tup xs, e, h, _ => by simp [shpN] at h
  | 0, .lst xs, e, h, _ => by simp [shpN] at h
  | n + 1, .tup xs, e, h, g => by
    cases e <;> first
      | (simp only [toPy, PyData.eqv, peq]; rw [shpN] at h g; exact eqv_pyL n _ _ h g)
      | rfl
      | (simp [shpN] at g)
  | n + 1, .lst xs, e, h, g => by
    cases e <;> first
      | (simp only [toPy, PyData.eqv, peq]; rw [shpN] at h g; exact eqv_pyL n _ _ h g)
      | rfl
      | (simp [shpN] at g)
  | n, .dct _ _, e, h, _ => by cases n <;> simp [shpN] at h
  | n, .box, e, h, _ => by cases n <;> simp [shpN] at h
theorem eqv_pyL : ∀ (n : Nat) (ds es : List D), shpL n ds = true → shpL n es = true → PyData.eqvAll (toPyL ds) (toPyL es) = peqL ds es
  | n, [], [], _, _ => rfl
  | n, [], _ :: _, _, _ => rfl
  | n, _ :: _, [], _, _ => rfl
  | n, d :: ds, e :: es, h, g => by
    rw [shpL, Bool.and_eq_true] at h g
    simp only [toPyL, PyData.eqvAll, peqL]
    rw [eqv_py n d e h.1 g.1, eqv_pyL n ds es h.2 g.2]
end
/-- of what is lent, too -/
theorem RepO.py (I : Rel K β F Hf ρ σ H) {d : D} {v : V} (r : RepO K β F H d v) (h : shpN 64 d = true) : Dp K H v (toPy d) ∧ SeqAt.shaped (toPy d) = true := by
  rcases r with r | ⟨a, rfl, r⟩
  · obtain ⟨g1, g2, g3⟩ := rep_py I.fex 64 d v h r
    exact ⟨g1, Bool.and_eq_true_iff.mpr ⟨g2, decide_eq_true g3⟩⟩
  · cases d <;> first
      | exact r.elim
      | (simp [shpN] at h; done)
      | (obtain ⟨vs, h1, h2, h3⟩ := r
         rw [shpN] at h
         obtain ⟨g1, g2, g3⟩ := rep_pyL I.fex 63 _ vs h h3
         refine ⟨by rw [toPy]; exact .lst (.of h1) g1, Bool.and_eq_true_iff.mpr ⟨by rw [toPy]; simp only [PyData.canLay0]; exact g2, decide_eq_true (by rw [toPy]; simp only [PyData.depth]; omega)⟩⟩)
end

section
variable {X : Cx} {β : Bx}
theorem Kt.v {K : PySem.W.Frag} {F Hf H : Hp} {ρ : WEnv} {σ : L2.St} {Q : VK} {d : D} {v : V} (q : Kt K β F Hf ρ σ Q (.val d)) (I : Rel K β F Hf ρ σ H) (r : Rep K β F d v) : Q v H := q F H v (Ex.refl F) I r
theorem Kt.int {K : PySem.W.Frag} {F Hf H : Hp} {ρ : WEnv} {σ : L2.St} {Q : VK} {i : Int} (q : Kt K β F Hf ρ σ Q (.val (.int i))) (I : Rel K β F Hf ρ σ H) : Q (.int i) H := q.v I (by rw [Rep])
theorem Kt.bl {K : PySem.W.Frag} {F Hf H : Hp} {ρ : WEnv} {σ : L2.St} {Q : VK} {i : Bool} (q : Kt K β F Hf ρ σ Q (.val (.bl i))) (I : Rel K β F Hf ρ σ H) : Q (.bl i) H := q.v I (by rw [Rep])
theorem Kt.str {K : PySem.W.Frag} {F Hf H : Hp} {ρ : WEnv} {σ : L2.St} {Q : VK} {x : List Nat} (q : Kt K β F Hf ρ σ Q (.val (.str x))) (I : Rel K β F Hf ρ σ H) (h : okS x) : Q (.str (mkS x)) H := q.v I (by rw [Rep]; exact ⟨rfl, h⟩)
theorem Kt.newL {K : PySem.W.Frag} {F Hf H : Hp} {ρ : WEnv} {σ : L2.St} {Q : VK} {ds : List D} {vs : List V} {p : Addr} (q : Kt K β F Hf ρ σ Q (.own (.lst ds))) (I : Rel K β F Hf ρ σ H) (hp : H p = none) (hz : ds.length ≤ sizeLine) (h : RepL K β F ds vs) : Q (.ref p) (upd H p (.lst vs)) := by
  obtain ⟨I1, r1⟩ := I.newL hp hz h
  exact q F _ _ (Ex.refl F) I1 r1
theorem Kt.newT {K : PySem.W.Frag} {F Hf H : Hp} {ρ : WEnv} {σ : L2.St} {Q : VK} {ds : List D} {vs : List V} {p : Addr} {its : List Value} (q : Kt K β F Hf ρ σ Q (.val (.tup ds))) (I : Rel K β F Hf ρ σ H) (hp : H p = none) (hz : ds.length ≤ sizeLine) (h : RepL K β F ds vs) : Q (.ref p) (newTup H p its vs) := by
  obtain ⟨F1, e1, I1, r1⟩ := I.newT hp hz h
  exact q F1 _ _ e1 I1 r1
/-- what stands, as it is -/
theorem Kt.tup {K : PySem.W.Frag} {F Hf H : Hp} {ρ : WEnv} {σ : L2.St} {Q : VK} {ds : List D} {v : V} (q : Kt K β F Hf ρ σ Q (.val (.tup ds))) (I : Rel K β F Hf ρ σ H) (h : RepO K β F H (.tup ds) v) : Q v H := by
  rcases h with h | ⟨_, _, h⟩
  · exact q.v I h
  · exact h.elim

theorem okS.append {x y : List Nat} (hx : okS x) (hy : okS y) (h : x.length + y.length ≤ 16777216) : okS (x ++ y) :=
  ⟨by rw [List.length_append, sizeLine_eq]; exact h, fun c hc => (List.mem_append.mp hc).elim (hx.2 c) (hy.2 c)⟩
theorem okS.sub {x y : List Nat} (hx : okS x) (h1 : y.length ≤ x.length) (h2 : ∀ c ∈ y, c ∈ x) : okS y := ⟨Nat.le_trans h1 hx.1, fun c hc => hx.2 c (h2 c hc)⟩
theorem mkS_app (x y : List Nat) : mkS x ++ mkS y = mkS (x ++ y) := by
  apply Str.ext'
  show x.toArray ++ y.toArray = (x ++ y).toArray
  simp

/-! + - * // % & ** << >> -/
def oAdd : OD := fun d e P => match d, e with
  | .int i, .int j => P (.val (.int (i + j)))
  | .str x, .str y => x.length + y.length ≤ 16777216 ∧ P (.val (.str (x ++ y)))
  | .tup x, .tup y => x.length + y.length ≤ 16777216 ∧ P (.val (.tup (x ++ y)))
  | .lst x, .lst y => x.length + y.length ≤ 16777216 ∧ P (.own (.lst (x ++ y)))
  | _, _ => False
theorem d_add : OpD X β (binaryOp .Add) oAdd := by
  refine ⟨fun d e P P' k q => ?_, _, op_add.or (op_add_str.or (op_catD.or op_cat)), fun F Hf ρ σ H d e x y Q I r s q => ?_⟩
  · unfold oAdd at q ⊢
    split at q <;> first | exact k _ q | exact ⟨q.1, k _ q.2⟩ | exact q
  · unfold oAdd at q
    split at q
    · exact .inl ⟨_, _, r.int, s.int, q.int I⟩
    · obtain ⟨rfl, hx⟩ := r.str
      obtain ⟨rfl, hy⟩ := s.str
      refine .inr (.inl ⟨_, _, rfl, rfl, ?_, ?_⟩)
      · rw [mkS_len, mkS_len, sizeLine_eq]; exact q.1
      · rw [mkS_app]; exact q.2.str I (hx.append hy q.1)
    · obtain ⟨a, vs, ea, sa, za, la⟩ := r.tup I
      obtain ⟨b, ws, eb, sb, zb, lb⟩ := s.tup I
      refine .inr (.inr (.inl ⟨a, b, vs, ws, ea, eb, sa, sb, ?_, fun h => ?_, fun _ h => ?_, fun _ _ p its hp => ?_⟩))
      · rw [la.length, lb.length, sizeLine_eq]; exact q.1
      · have hn : vs.length = 0 := by rw [h]; rfl
        rw [la.length] at hn
        have hn' := List.eq_nil_of_length_eq_zero hn
        have q2 := q.2
        rw [hn'] at q2
        rw [← eb]
        exact q2.tup I s
      · have hn : ws.length = 0 := by rw [h]; rfl
        rw [lb.length] at hn
        have hn' := List.eq_nil_of_length_eq_zero hn
        have q2 := q.2
        rw [hn', List.append_nil] at q2
        rw [← ea]
        exact q2.tup I r
      · exact q.2.newT I hp (by rw [List.length_append, sizeLine_eq]; exact q.1) (la.append lb)
    · obtain ⟨a, vs, ea, sa, za, la⟩ := r.lst I
      obtain ⟨b, ws, eb, sb, zb, lb⟩ := s.lst I
      refine .inr (.inr (.inr ⟨a, b, vs, ws, ea, eb, sa, sb, ?_, fun p hp => ?_⟩))
      · rw [la.length, lb.length, sizeLine_eq]; exact q.1
      · exact q.2.newL I hp (by rw [List.length_append, sizeLine_eq]; exact q.1) (la.append lb)
    · exact q.elim
def oI (C : Int → Int → Prop) (g : Int → Int → Int) : OD := fun d e P => match d, e with
  | .int i, .int j => C i j ∧ P (.val (.int (g i j)))
  | _, _ => False
def oI0 (g : Int → Int → Int) : OD := fun d e P => match d, e with
  | .int i, .int j => P (.val (.int (g i j)))
  | _, _ => False
theorem oI_of {f : Value → Value → Sem Value} {C : Int → Int → Prop} {g : Int → Int → Int} (h : OpR X f (rI C fun i j => .int (g i j))) : OpD X β f (oI C g) := by
  refine ⟨fun d e P P' k q => ?_, _, h, fun F Hf ρ σ H d e x y Q I r s q => ?_⟩
  · unfold oI at q ⊢
    split at q
    · exact ⟨q.1, k _ q.2⟩
    · exact q
  · unfold oI at q
    split at q
    · exact ⟨_, _, r.int, s.int, q.1, q.2.int I⟩
    · exact q.elim
theorem oI0_of {f : Value → Value → Sem Value} {g : Int → Int → Int} (h : OpR X f (rI0 fun i j => .int (g i j))) : OpD X β f (oI0 g) := by
  refine ⟨fun d e P P' k q => ?_, _, h, fun F Hf ρ σ H d e x y Q I r s q => ?_⟩
  · unfold oI0 at q ⊢
    split at q
    · exact k _ q
    · exact q
  · unfold oI0 at q
    split at q
    · exact ⟨_, _, r.int, s.int, q.int I⟩
    · exact q.elim
abbrev oSub : OD := oI0 fun i j => i - j
theorem d_sub : OpD X β (binaryOp .Sub) oSub := oI0_of op_sub
abbrev oDiv : OD := oI CDiv fun i j => i / j
theorem d_div : OpD X β (binaryOp .FloorDiv) oDiv := oI_of op_fdiv
abbrev oMod : OD := oI (fun _ j => 0 < j) fun i j => i % j
theorem d_mod : OpD X β (binaryOp .Mod) oMod := oI_of op_mod
abbrev oAndB : OD := oI0 fun i j => Builtin.bitAnd i j
theorem d_andB : OpD X β (binaryOp .BitAnd) oAndB := oI0_of op_and
abbrev oPow : OD := oI CPow fun i j => i ^ j.toNat
theorem d_pow : OpD X β (binaryOp .Pow) oPow := oI_of op_pow
abbrev oShl : OD := oI CPow fun i j => i * 2 ^ j.toNat
theorem d_shl : OpD X β (binaryOp .LShift) oShl := oI_of op_shl
abbrev oShr : OD := oI (fun _ j => 0 ≤ j) fun i j => i / 2 ^ j.toNat
theorem d_shr : OpD X β (binaryOp .RShift) oShr := oI_of op_shr
theorem foldl_app (x : List Nat) : ∀ (n : Nat) (acc : Array Nat), (List.replicate n x.toArray).foldl (· ++ ·) acc = acc ++ (List.replicate n x).flatten.toArray
  | 0, acc => by simp
  | n + 1, acc => by
    rw [List.replicate_succ, List.replicate_succ, List.foldl_cons, foldl_app x n, List.flatten_cons]
    simp
theorem flat_len {α : Type} (x : List α) (n : Nat) : (List.replicate n x).flatten.length = x.length * n := by
  induction n with
  | zero => rfl
  | succ n ih => rw [List.replicate_succ, List.flatten_cons, List.length_append, ih, Nat.mul_succ, Nat.add_comm]
def rRepS : R2 := fun x y H Q => ∃ (z : List Nat) (k : Int), x = .str (mkS z) ∧ y = .int k ∧ -(2 ^ 63) ≤ k ∧ k < 2 ^ 63 ∧ z.length * k.toNat ≤ sizeLine ∧ Q (.str (mkS (List.replicate k.toNat z).flatten)) H
theorem op_repS : OpR X (binaryOp .Mult) rRepS := by
  intro pins s σ H x y v u Q I rx ry h
  obtain ⟨z, k, rfl, rfl, h1, h2, h3, q⟩ := h
  obtain ⟨t, rfl⟩ := rx
  obtain ⟨t', rfl⟩ := ry
  have e1 : (decide (k < -(2 ^ 63 : Int)) || decide (k ≥ 2 ^ 63)) = false := by
    rw [decide_eq_false (by omega), decide_eq_false (by omega)]; rfl
  have hsz : sizeLine = 16777216 := sizeLine_eq
  refine PySem.P.mul_str e1 (fun hk _ hg => ?_) (fun hk hn => ?_) ?_
  · rw [mkS_len] at hg
    have hk1 : 1 ≤ k := by omega
    have : (z.length : Int) * k ≤ 16777216 := by
      have : ((z.length * k.toNat : Nat) : Int) ≤ 16777216 := by omega
      rw [Int.natCast_mul, Int.toNat_of_nonneg (by omega)] at this
      exact this
    have h4 : (2 ^ 63 - 1) / k * k ≤ 2 ^ 63 - 1 := Int.ediv_mul_le _ (by omega)
    have h5 : (2 ^ 63 - 1) / k < z.length := hg
    have h6 : ((2 ^ 63 - 1) / k + 1) * k ≤ z.length * k := Int.mul_le_mul_of_nonneg_right (by omega) (by omega)
    have h7 : (2 ^ 63 - 1) < ((2 ^ 63 - 1) / k + 1) * k := Int.lt_ediv_add_one_mul_self _ (by omega)
    omega
  · rw [mkS_len]
    unfold Builtin.Str.tooLong
    exact decide_eq_false (by omega)
  · split
    · rename_i hk
      have : k.toNat = 0 := by omega
      rw [this] at q
      exact ⟨by decide, .str Str.empty, H, I.tok _, ⟨_, rfl⟩, q⟩
    · split
      · rename_i hk hn
        rw [Bool.or_eq_true] at hn
        refine ⟨.str (mkS z), H, I, ⟨t, rfl⟩, ?_⟩
        rcases hn with hn | hn
        · have : k = 1 := by simpa using hn
          subst this
          have : (List.replicate (1 : Int).toNat z).flatten = z := by simp
          rw [this] at q; exact q
        · have : z = [] := by
            have : z.length = 0 := by simpa [mkS_len] using hn
            exact List.eq_nil_of_length_eq_zero this
          subst this
          have : (List.replicate k.toNat ([] : List Nat)).flatten = [] := by simp
          rw [this] at q; exact q
      · have e : (⟨(List.replicate k.toNat (mkS z).cps).foldl (· ++ ·) #[]⟩ : Str) = mkS (List.replicate k.toNat z).flatten := by
          apply Str.ext'
          show (List.replicate k.toNat z.toArray).foldl (· ++ ·) #[] = _
          rw [foldl_app]; simp
        rw [e]
        refine ⟨?_, .str _, H, I.tok _, ⟨_, rfl⟩, q⟩
        rw [mkS_len, flat_len]; exact h3
theorem mem_rep {α : Type} {x : List α} {n : Nat} {c : α} (h : c ∈ (List.replicate n x).flatten) : c ∈ x := by
  rw [List.mem_flatten] at h
  obtain ⟨l, h1, h2⟩ := h
  rw [List.mem_replicate] at h1
  rw [h1.2] at h2
  exact h2
def oMul : OD := fun d e P => match d, e with
  | .int i, .int j => CMul i j ∧ P (.val (.int (i * j)))
  | .str x, .int k => (-(2 ^ 63) ≤ k ∧ k < 2 ^ 63 ∧ x.length * k.toNat ≤ 16777216) ∧ P (.val (.str (List.replicate k.toNat x).flatten))
  | .lst x, .int k => (-(2 ^ 63) ≤ k ∧ k < 2 ^ 63 ∧ x.length * k.toNat ≤ 16777216) ∧ P (.own (.lst (List.replicate k.toNat x).flatten))
  | _, _ => False
theorem d_mul : OpD X β (binaryOp .Mult) oMul := by
  refine ⟨fun d e P P' k q => ?_, _, op_mul.or (op_repS.or op_rep), fun F Hf ρ σ H d e x y Q I r s q => ?_⟩
  · unfold oMul at q ⊢
    split at q <;> first | exact ⟨q.1, k _ q.2⟩ | exact q
  · unfold oMul at q
    split at q
    · exact .inl ⟨_, _, r.int, s.int, q.1, q.2.int I⟩
    · obtain ⟨rfl, hx⟩ := r.str
      have := sizeLine_eq
      refine .inr (.inl ⟨_, _, rfl, s.int, q.1.1, q.1.2.1, by omega, q.2.str I ⟨by rw [flat_len]; omega, fun c hc => hx.2 c (mem_rep hc)⟩⟩)
    · obtain ⟨a, vs, ea, sa, za, la⟩ := r.lst I
      have := sizeLine_eq
      refine .inr (.inr ⟨a, _, vs, ea, s.int, sa, q.1.1, q.1.2.1, by rw [la.length]; omega, fun p hp => ?_⟩)
      exact q.2.newL I hp (by rw [flat_len]; omega) (la.rep _)
    · exact q.elim
def oNeg : UD := fun d P => match d with
  | .int i => P (.val (.int (-i)))
  | _ => False
theorem d_neg : UnD X β (unaryOp .USub) oNeg := by
  refine ⟨fun d P P' k q => ?_, _, un_neg, fun F Hf ρ σ H d x Q I r q => ?_⟩
  · unfold oNeg at q ⊢
    split at q
    · exact k _ q
    · exact q
  · unfold oNeg at q
    split at q
    · exact ⟨_, r.int, q.int I⟩
    · exact q.elim

/-! comparisons -/
def oEq : OD := fun d e P => match shpN 64 d && shpN 64 e with
  | true => P (.val (.bl (peq d e)))
  | false => False
def oNe : OD := fun d e P => match shpN 64 d && shpN 64 e with
  | true => P (.val (.bl (!peq d e)))
  | false => False
theorem d_eq (hu : X.A.units + 64 < cLine) : OpD X β (compareOp .Eq) oEq := by
  refine ⟨fun d e P P' k q => ?_, _, op_eqD hu, fun F Hf ρ σ H d e x y Q I r s q => ?_⟩
  · unfold oEq at q ⊢
    split at q
    · exact k _ q
    · exact q
  · unfold oEq at q
    split at q
    · rename_i h
      rw [Bool.and_eq_true] at h
      obtain ⟨g1, g2⟩ := r.py I h.1
      obtain ⟨k1, k2⟩ := s.py I h.2
      exact ⟨_, _, g1, k1, g2, k2, by rw [eqv_py 64 d e h.1 h.2]; exact q.bl I⟩
    · exact q.elim
theorem d_ne (hu : X.A.units + 64 < cLine) : OpD X β (compareOp .NotEq) oNe := by
  refine ⟨fun d e P P' k q => ?_, _, op_neD hu, fun F Hf ρ σ H d e x y Q I r s q => ?_⟩
  · unfold oNe at q ⊢
    split at q
    · exact k _ q
    · exact q
  · unfold oNe at q
    split at q
    · rename_i h
      rw [Bool.and_eq_true] at h
      obtain ⟨g1, g2⟩ := r.py I h.1
      obtain ⟨k1, k2⟩ := s.py I h.2
      exact ⟨_, _, g1, k1, g2, k2, by rw [eqv_py 64 d e h.1 h.2]; exact q.bl I⟩
    · exact q.elim
/-- an order of whole numbers, of texts -/
def oOrd (f : Int → Int → Bool) (g : List Nat → List Nat → Bool) : OD := fun d e P => match d, e with
  | .int i, .int j => P (.val (.bl (f i j)))
  | .str x, .str y => P (.val (.bl (g x y)))
  | _, _ => False
theorem oOrd_of {c : CmpOp} {f : Int → Int → Bool} {g : List Nat → List Nat → Bool} (h1 : OpR X (compareOp c) (rI0 fun i j => .bl (f i j)))
    (h2 : OpR X (compareOp c) fun x y H Q => ∃ i j, x = .str i ∧ y = .str j ∧ Q (.bl (g i.cps.toList j.cps.toList)) H) : OpD X β (compareOp c) (oOrd f g) := by
  refine ⟨fun d e P P' k q => ?_, _, h1.or h2, fun F Hf ρ σ H d e x y Q I r s q => ?_⟩
  · unfold oOrd at q ⊢
    split at q <;> first | exact k _ q | exact q
  · unfold oOrd at q
    split at q
    · exact .inl ⟨_, _, r.int, s.int, q.bl I⟩
    · exact .inr ⟨_, _, r.str.1, s.str.1, q.bl I⟩
    · exact q.elim
abbrev oLt : OD := oOrd (fun i j => decide (i < j)) fun x y => decide (x < y)
abbrev oLe : OD := oOrd (fun i j => decide (i ≤ j)) fun x y => !decide (y < x)
abbrev oGt : OD := oOrd (fun i j => decide (j < i)) fun x y => decide (y < x)
abbrev oGe : OD := oOrd (fun i j => decide (j ≤ i)) fun x y => !decide (x < y)
theorem d_lt : OpD X β (compareOp .Lt) oLt := oOrd_of op_lt op_lt_str
theorem d_le : OpD X β (compareOp .LtE) oLe := oOrd_of op_le op_le_str
theorem d_gt : OpD X β (compareOp .Gt) oGt := oOrd_of op_gt op_gt_str
theorem d_ge : OpD X β (compareOp .GtE) oGe := oOrd_of op_ge op_ge_str
def isNon : D → Bool
  | .non => true
  | _ => false
/-- x is None, x is True -/
def oIs : OD := fun d e P => match d, e with
  | .bl a, .bl b => P (.val (.bl (decide (a = b))))
  | _, .non => P (.val (.bl (isNon d)))
  | _, _ => False
def oIsNot : OD := fun d e P => match d, e with
  | .bl a, .bl b => P (.val (.bl (!decide (a = b))))
  | _, .non => P (.val (.bl (!isNon d)))
  | _, _ => False
theorem non_of {K : PySem.W.Frag} {F Hf H : Hp} {ρ : WEnv} {σ : L2.St} (I : Rel K β F Hf ρ σ H) {d : D} {x : V} (r : RepO K β F H d x) : decide (x = .non) = isNon d := by
  rcases r with r | ⟨a, e, r⟩
  · cases d <;> rw [Rep] at r <;> first
      | (rw [r]; rfl)
      | (rw [r.1]; rfl)
      | (obtain ⟨a, vs, rfl, _⟩ := r; rfl)
  · subst e
    cases d <;> first
      | exact r.elim
      | rfl
theorem d_is : OpD X β (compareOp .Is) oIs := by
  refine ⟨fun d e P P' k q => ?_, _, op_isBl.or op_isN, fun F Hf ρ σ H d e x y Q I r s q => ?_⟩
  · unfold oIs at q ⊢
    split at q <;> first | exact k _ q | exact q
  · unfold oIs at q
    split at q
    · exact .inl ⟨_, _, r.bl, s.bl, q.bl I⟩
    · exact .inr ⟨s.non, by rw [non_of I r]; exact q.bl I⟩
    · exact q.elim
theorem d_isNot : OpD X β (compareOp .IsNot) oIsNot := by
  refine ⟨fun d e P P' k q => ?_, _, op_notBl.or op_notN, fun F Hf ρ σ H d e x y Q I r s q => ?_⟩
  · unfold oIsNot at q ⊢
    split at q <;> first | exact k _ q | exact q
  · unfold oIsNot at q
    split at q
    · exact .inl ⟨_, _, r.bl, s.bl, q.bl I⟩
    · exact .inr ⟨s.non, by rw [non_of I r]; exact q.bl I⟩
    · exact q.elim

/-! items, slices -/
def oIx : OD := fun d e P => match d, e with
  | .lst ds, .int i => match atI ds i with
    | some v => P (.val v)
    | none => False
  | .tup ds, .int i => match atI ds i with
    | some v => P (.val v)
    | none => False
  | .str x, .int i => match atI x i with
    | some c => P (.val (.str [c]))
    | none => False
  | _, _ => False
theorem atI_rep {K : PySem.W.Frag} {F : Hp} {ds : List D} {vs : List V} {i : Int} {d : D} (r : RepL K β F ds vs) (h : atI ds i = some d) : ∃ v, atI vs i = some v ∧ Rep K β F d v := by
  unfold atI at h ⊢
  rw [r.length]
  cases e : ixN ds.length i with
  | none => rw [e] at h; cases h
  | some j =>
    rw [e] at h
    obtain ⟨v, e1, e2⟩ := r.get (i := j) h
    exact ⟨v, e1, e2⟩
theorem atI_mem {α : Type} {xs : List α} {i : Int} {v : α} (h : atI xs i = some v) : v ∈ xs := by
  obtain ⟨j, _, e, _⟩ := atI_get h
  exact List.mem_of_getElem? e
theorem d_ix : IxD X β oIx := by
  refine ⟨fun d e P P' k q => ?_, _, ix_seq, fun F Hf ρ σ H d e x y Q I r s q => ?_⟩
  · unfold oIx at q ⊢
    split at q
    · split at q
      · exact k _ q
      · exact q
    · split at q
      · exact k _ q
      · exact q
    · split at q
      · exact k _ q
      · exact q
    · exact q
  · unfold oIx at q
    split at q
    · obtain ⟨a, vs, ea, sa, za, la⟩ := r.lst I
      split at q
      · rename_i d' hd
        obtain ⟨v, h1, h2⟩ := atI_rep la hd
        exact .inl ⟨a, vs, _, v, ea, s.int, .of sa, h1, q.v I h2⟩
      · exact q.elim
    · obtain ⟨a, vs, ea, sa, za, la⟩ := r.tup I
      split at q
      · rename_i d' hd
        obtain ⟨v, h1, h2⟩ := atI_rep la hd
        exact .inr (.inl ⟨a, vs, _, v, ea, s.int, sa, h1, q.v I h2⟩)
      · exact q.elim
    · obtain ⟨rfl, hx⟩ := r.str
      split at q
      · rename_i c hc
        refine .inr (.inr ⟨_, _, c, rfl, s.int, by rw [mkS_len]; exact hx.1, hc, q.str I ⟨by show 1 ≤ sizeLine; decide, fun z hz => ?_⟩⟩)
        rw [List.mem_singleton] at hz
        rw [hz]
        exact hx.2 c (atI_mem hc)
      · exact q.elim
    · exact q.elim
end
/-- xs[lo:hi] -/
def cutL {α : Type} (xs : List α) (lo hi : Option Int) : List α := (xs.drop (HT.sIx xs.length 0 lo)).take (HT.sIx xs.length xs.length hi - HT.sIx xs.length 0 lo)
theorem cutL_len {α : Type} (xs : List α) (lo hi : Option Int) : (cutL xs lo hi).length ≤ xs.length := by
  unfold cutL
  rw [List.length_take, List.length_drop]
  omega
theorem cutL_mem {α : Type} {xs : List α} {lo hi : Option Int} {c : α} (h : c ∈ cutL xs lo hi) : c ∈ xs := List.mem_of_mem_drop (List.mem_of_mem_take h)
theorem cutS_eq (x : List Nat) (lo hi : Option Int) : cutS (mkS x) lo hi = mkS (cutL x lo hi) := by
  unfold cutS cutL
  rw [mkS_len]
abbrev WP := WEnv → (Option Int → Prop) → Prop
def tP (K : PySem.W.Frag) (β : Bx) (w : WP) : TO := fun σ H Q => ∃ F Hf ρ, Rel K β F Hf ρ σ H ∧ w ρ fun o => ∀ F' H', Ex F F' → Rel K β F' Hf ρ σ H' → Q o H'
structure PPW (X : Cx) (β : Bx) (e : Option Expr) (w : WP) : Prop where
  mono : ∀ ρ P P', (∀ r, P r → P' r) → w ρ P → w ρ P'
  run : PO X e (tP X.K β w)
section
variable {X : Cx} {β : Bx} {a e : Expr} {wa we : WE} {lo hi : Option Expr} {wl wh : WP} {pos p2 : Pos}
def wNo : WP := fun _ P => P none
def wPt (wa : WE) : WP := fun ρ P => wa ρ fun r => match r.d with
  | .int i => P (some i)
  | _ => False
theorem pp_none : PPW X β none wNo := ⟨fun _ _ _ k q => k _ q, ⟨fun pins s σ H Q I q => by
  obtain ⟨F, Hf, ρ, J, q⟩ := q
  exact po_none.run pins s σ H Q I (q F H (Ex.refl F) J)⟩⟩
theorem pp_some (h : PW X β a wa) : PPW X β (some a) (wPt wa) := by
  refine ⟨fun ρ P P' k q => h.mono ρ _ _ (fun r q => ?_) q, ⟨fun pins s σ H Q I q => (po_some h.opnd).run pins s σ H Q I ?_⟩⟩
  · split at q
    · exact k _ q
    · exact q
  · obtain ⟨F, Hf, ρ, J, q⟩ := q
    refine ⟨F, Hf, ρ, J, h.mono ρ _ _ (fun r q F1 H1 v e1 I1 r1 => ?_) q⟩
    have g := r1.rd I1
    rw [fz_d] at g
    split at q
    · rename_i i hi
      rw [hi] at g
      exact ⟨i, g.int, q F1 H1 e1 I1⟩
    · exact q.elim
def oSl (lo hi : Option Int) : UD := fun d P => match d with
  | .str x => P (.val (.str (cutL x lo hi)))
  | .tup x => P (.val (.tup (cutL x lo hi)))
  | .lst x => P (.own (.lst (cutL x lo hi)))
  | _ => False
def wSl (we : WE) (wl wh : WP) : WE := fun ρ P => we ρ fun r => wl ρ fun l => wh ρ fun h => oSl l h r.d P
theorem pw_slice (he : PW X β e we) (hl : PPW X β lo wl) (hh : PPW X β hi wh) : PW X β (.Subscript e (.Slice lo hi none p2) pos) (wSl we wl wh) := by
  refine ⟨fun ρ P P' k q => he.mono ρ _ _ (fun r q => hl.mono ρ _ _ (fun l q => hh.mono ρ _ _ (fun h q => ?_) q) q) q, imp_E (pe_slice (sl_str.or (sl_tupD.or sl_list)) he.opnd hl.run hh.run) fun σ H Q q => ?_⟩
  · unfold oSl at q ⊢
    split at q <;> first | exact k _ q | exact q
  · obtain ⟨F, Hf, ρ, I, q⟩ := q
    refine ⟨F, Hf, ρ, I, he.mono ρ _ _ (fun r q F1 H1 v e1 I1 r1 => ?_) q⟩
    refine ⟨F1, Hf, ρ, I1, hl.mono ρ _ _ (fun l q F2 H2 e2 I2 => ?_) q⟩
    refine ⟨F2, Hf, ρ, I2, hh.mono ρ _ _ (fun h q F3 H3 e3 I3 => ?_) q⟩
    have g := ((r1.mono e2).mono e3).rd I3
    rw [fz_d] at g
    have q : oSl l h r.d (Kt X.K β F3 Hf ρ σ Q) := by
      unfold oSl at q ⊢
      split at q <;> first
        | exact fun F4 H4 v4 e4 I4 r4 => q F4 H4 v4 (((e1.trans e2).trans e3).trans e4) I4 r4
        | exact q
    unfold oSl at q
    split at q
    · rename_i x hx
      rw [hx] at g
      obtain ⟨rfl, ok⟩ := g.str
      refine .inl ⟨_, rfl, by rw [mkS_len]; exact ok.1, ?_⟩
      rw [cutS_eq]
      exact q.str I3 (ok.sub (cutL_len x l h) fun c hc => cutL_mem hc)
    · rename_i ds hd
      rw [hd] at g
      obtain ⟨a, vs, ea, sa, za, la⟩ := g.tup I3
      have hl' := la.length
      refine .inr (.inl ⟨a, vs, ea, sa, fun hw => ?_, fun hw p its hp => ?_⟩)
      · have : cutL ds l h = ds := by
          unfold cutL
          rw [← hl', hw.1, hw.2, List.drop_zero, Nat.sub_zero, hl', List.take_length]
        rw [this] at q
        rw [← ea]
        exact q.tup I3 g
      · refine q.newT I3 hp (Nat.le_trans (cutL_len ds l h) za) ?_
        unfold cutL cutV
        rw [hl']
        exact (la.drop _).take _
    · rename_i ds hd
      rw [hd] at g
      obtain ⟨a, vs, ea, sa, za, la⟩ := g.lst I3
      refine .inr (.inr ⟨a, vs, ea, .of sa, fun p hp => ?_⟩)
      refine q.newL I3 hp (Nat.le_trans (cutL_len ds l h) za) ?_
      unfold cutL cutV
      rw [la.length]
      exact (la.drop _).take _
    · exact q.elim
end
end WL
set_option Elab.async false
set_option linter.all false
set_option autoImplicit false
set_option maxRecDepth 100000
namespace WL
open PySem PySem.Spec L2

/-! ### built-in functions -/
inductive RepOs (K : PySem.W.Frag) (β : Bx) (F H : Hp) : List D → List V → Prop
  | nil : RepOs K β F H [] []
  | cons {d : D} {v : V} {ds : List D} {vs : List V} : RepO K β F H d v → RepOs K β F H ds vs → RepOs K β F H (d :: ds) (v :: vs)
theorem RepAs.rd {K : PySem.W.Frag} {β : Bx} {F Hf H : Hp} {ρ : WEnv} {σ : L2.St} (I : Rel K β F Hf ρ σ H) : ∀ {rs : List R} {vs : List V}, RepAs K β F ρ σ rs vs → RepOs K β F H (rs.map R.d) vs
  | _, _, .nil => .nil
  | _, _, .cons h t => .cons (h.rd I) (RepAs.rd I t)
theorem RepOs.one {K : PySem.W.Frag} {β : Bx} {F H : Hp} {d : D} {vs : List V} (h : RepOs K β F H [d] vs) : ∃ v, vs = [v] ∧ RepO K β F H d v := by
  cases h with
  | cons h t => cases t; exact ⟨_, rfl, h⟩
theorem RepOs.two {K : PySem.W.Frag} {β : Bx} {F H : Hp} {d e : D} {vs : List V} (h : RepOs K β F H [d, e] vs) : ∃ v w, vs = [v, w] ∧ RepO K β F H d v ∧ RepO K β F H e w := by
  cases h with
  | cons h t => cases t with
    | cons h2 t => cases t; exact ⟨_, _, rfl, h, h2⟩
abbrev CD := List D → (R → Prop) → Prop
structure CaD (X : Cx) (β : Bx) (f : Value) (o : CD) : Prop where
  mono : ∀ ds P P', (∀ r, P r → P' r) → o ds P → o ds P'
  ex : ∃ rr : List V → Hp → VK → Prop, CallR X f rr ∧ ∀ F Hf ρ σ H ds xs Q, Rel X.K β F Hf ρ σ H → RepOs X.K β F H ds xs → o ds (Kt X.K β F Hf ρ σ Q) → rr xs H Q
def wB (o : CD) (ws : WAs) : WE := fun ρ P => ws ρ fun rs => o (rs.map R.d) P
section
variable {X : Cx} {β : Bx} {x : Str} {p pos : Pos} {e a : Expr} {es : List Expr} {ws : WAs} {id T : String} {o : CD} {we wa wb : WE}
theorem wB_go {rr : List V → Hp → VK → Prop} (hs : PWL X β es ws) (om : ∀ ds P P', (∀ r, P r → P' r) → o ds P → o ds P')
    (h : ∀ F Hf ρ σ H ds xs Q, Rel X.K β F Hf ρ σ H → RepOs X.K β F H ds xs → o ds (Kt X.K β F Hf ρ σ Q) → rr xs H Q) (σ : L2.St) (H : Hp) (Q : VK) (q : tW X.K β (wB o ws) σ H Q) : tCB rr (tWA X.K β ws) σ H Q := by
  obtain ⟨F, Hf, ρ, I, q⟩ := q
  refine ⟨F, Hf, ρ, I, hs.mono ρ _ _ (fun rs q F1 H1 vs e1 I1 r1 => ?_) q⟩
  exact h F1 Hf ρ σ H1 _ vs Q I1 (r1.rd I1) (om _ _ _ (fun r k F2 H2 v e2 I2 r2 => k F2 H2 v (e1.trans e2) I2 r2) q)
theorem wB_mono (hs : PWL X β es ws) (om : ∀ ds P P', (∀ r, P r → P' r) → o ds P → o ds P') (ρ : WEnv) (P P' : R → Prop) (k : ∀ r, P r → P' r) (q : wB o ws ρ P) : wB o ws ρ P' := hs.mono ρ _ _ (fun _ q => om _ _ _ k q) q
theorem pw_b (ho : CaD X β (.builtin id) o) (hm : X.mg x = none) (hv : bootBuiltins x = some (.builtin id)) (hs : PWL X β (e :: es) ws) (hg : Gl X x := by rfl) (hn : x ≠ "__name__" := by decide) (hdb : (x == ("__debug__" : Str)) = false := by decide)
    (he : starEach (e :: es) X.env = (false, eval e X.env) :: starEach es X.env := by rfl) (hpl : (backTo pos (starEach es X.env)).any (·.1) = false := by rfl) : PW X β (.Call (.Name x p) (e :: es) [] pos) (wB o ws) := by
  obtain ⟨rr, hr, hq⟩ := ho.ex
  exact ⟨wB_mono hs ho.mono, imp_E (pe_callB hr hg hm hv hs.run hn hdb he hpl) fun σ H Q q => wB_go hs ho.mono hq σ H Q q⟩
theorem pw_ty (ho : CaD X β (.type T) o) (hm : X.mg x = none) (hv : bootBuiltins x = some (.type T)) (hs : PWL X β (e :: es) ws) (hg : Gl X x := by rfl) (hn : x ≠ "__name__" := by decide) (hdb : (x == ("__debug__" : Str)) = false := by decide)
    (he : starEach (e :: es) X.env = (false, eval e X.env) :: starEach es X.env := by rfl) (hpl : (backTo pos (starEach es X.env)).any (·.1) = false := by rfl) : PW X β (.Call (.Name x p) (e :: es) [] pos) (wB o ws) := by
  obtain ⟨rr, hr, hq⟩ := ho.ex
  exact ⟨wB_mono hs ho.mono, imp_E (pe_callTy hr hg hm hv hs.run hn hdb he hpl) fun σ H Q q => wB_go hs ho.mono hq σ H Q q⟩

/-! isinstance -/
def tyD : D → Option String
  | .non => some "NoneType"
  | .bl _ => some "bool"
  | .int _ => some "int"
  | .str _ => some "str"
  | .tup _ => some "tuple"
  | .lst _ => some "list"
  | .dct _ _ => some "dict"
  | .box => none
inductive Ty where
  | int | str | bool | tuple | list
def Ty.name : Ty → String
  | .int => "int"
  | .str => "str"
  | .bool => "bool"
  | .tuple => "tuple"
  | .list => "list"
def isTy : Ty → D → Bool
  | .int, .int _ => true
  | .int, .bl _ => true
  | .str, .str _ => true
  | .bool, .bl _ => true
  | .tuple, .tup _ => true
  | .list, .lst _ => true
  | _, _ => false
theorem kit_is (T : Ty) {d : D} {t : String} (h : tyD d = some t) : kitB t T.name = some (isTy T d) := by
  cases T <;> cases d <;> cases h <;> first
    | exact (by decide +kernel : kitB "NoneType" "int" = some false)
    | exact (by decide +kernel : kitB "bool" "int" = some true)
    | exact (by decide +kernel : kitB "int" "int" = some true)
    | exact (by decide +kernel : kitB "str" "int" = some false)
    | exact (by decide +kernel : kitB "tuple" "int" = some false)
    | exact (by decide +kernel : kitB "list" "int" = some false)
    | exact (by decide +kernel : kitB "dict" "int" = some false)
    | exact (by decide +kernel : kitB "NoneType" "str" = some false)
    | exact (by decide +kernel : kitB "bool" "str" = some false)
    | exact (by decide +kernel : kitB "int" "str" = some false)
    | exact (by decide +kernel : kitB "str" "str" = some true)
    | exact (by decide +kernel : kitB "tuple" "str" = some false)
    | exact (by decide +kernel : kitB "list" "str" = some false)
    | exact (by decide +kernel : kitB "dict" "str" = some false)
    | exact (by decide +kernel : kitB "NoneType" "bool" = some false)
    | exact (by decide +kernel : kitB "bool" "bool" = some true)
    | exact (by decide +kernel : kitB "int" "bool" = some false)
    | exact (by decide +kernel : kitB "str" "bool" = some false)
    | exact (by decide +kernel : kitB "tuple" "bool" = some false)
    | exact (by decide +kernel : kitB "list" "bool" = some false)
    | exact (by decide +kernel : kitB "dict" "bool" = some false)
    | exact (by decide +kernel : kitB "NoneType" "tuple" = some false)
    | exact (by decide +kernel : kitB "bool" "tuple" = some false)
    | exact (by decide +kernel : kitB "int" "tuple" = some false)
    | exact (by decide +kernel : kitB "str" "tuple" = some false)
    | exact (by decide +kernel : kitB "tuple" "tuple" = some true)
    | exact (by decide +kernel : kitB "list" "tuple" = some false)
    | exact (by decide +kernel : kitB "dict" "tuple" = some false)
    | exact (by decide +kernel : kitB "NoneType" "list" = some false)
    | exact (by decide +kernel : kitB "bool" "list" = some false)
    | exact (by decide +kernel : kitB "int" "list" = some false)
    | exact (by decide +kernel : kitB "str" "list" = some false)
    | exact (by decide +kernel : kitB "tuple" "list" = some false)
    | exact (by decide +kernel : kitB "list" "list" = some true)
    | exact (by decide +kernel : kitB "dict" "list" = some false)
def noBox : D → Bool
  | .box => false
  | _ => true
theorem noBox_ty {d : D} (h : noBox d = true) : ∃ t, tyD d = some t := by
  cases d <;> first
    | exact ⟨_, rfl⟩
    | cases h
def wIsi (T : Ty) (we : WE) : WE := fun ρ P => we ρ fun r => match noBox r.d with
  | true => P (.val (.bl (isTy T r.d)))
  | false => False
theorem tyX_of {K : PySem.W.Frag} {F Hf H : Hp} {ρ : WEnv} {σ : L2.St} (I : Rel K β F Hf ρ σ H) {d : D} {v : V} {t : String} (r : RepO K β F H d v) (h : tyD d = some t) : TyX K H v (.type t) := by
  rcases r with r | ⟨a, rfl, r⟩
  · cases d <;> cases h <;> rw [Rep] at r
    · subst r; exact .base .non
    · subst r; exact .base (.bl _)
    · subst r; exact .base (.int _)
    · rw [r.1]; exact .base (.str _)
    · obtain ⟨a, vs, rfl, sq, _⟩ := r
      rcases ex_t I.fex sq.sq with (h | ⟨ob, h⟩) | ⟨ob, _, _, h1, h2, _⟩
      · exact .base (.tup h)
      · exact .fTuple h
      · exact .kTuple h1 h2
    · obtain ⟨a, vs, rfl, sq, _⟩ := r
      exact .base (.lst (I.fex _ _ sq))
    · obtain ⟨a, kvs, rfl, sq, _⟩ := r
      exact .base (.dK (I.fex _ _ sq))
  · cases d <;> cases h <;> first
      | exact r.elim
      | (obtain ⟨vs, h1, _⟩ := r; exact .base (.lst h1))
      | (obtain ⟨vs, h1, _⟩ := r; exact .base (.dK h1))
theorem pw_isi {k : Str} {p2 : Pos} (T : Ty) (he : PW X β e we) (hm : X.mg "isinstance" = none) (hm2 : X.mg k = none) (hv : bootBuiltins k = some (.type T.name)) (hg : Gl X "isinstance" := by rfl) (hg2 : Gl X k := by rfl) (hn : k ≠ "__name__" := by decide) (hdb : (k == ("__debug__" : Str)) = false := by decide)
    (h1 : starEach [e, .Name k p2] X.env = (false, eval e X.env) :: starEach [.Name k p2] X.env := by rfl) (h2 : starEach [.Name k p2] X.env = (false, eval (.Name k p2) X.env) :: starEach [] X.env := by rfl)
    (hpl : (backTo pos (starEach [.Name k p2] X.env)).any (·.1) = false := by rfl) : PW X β (.Call (.Name "isinstance" p) [e, .Name k p2] [] pos) (wIsi T we) := by
  refine ⟨fun ρ P P' k q => he.mono ρ _ _ (fun r q => ?_) q, imp_E (pe_callB call_isi hg hm (by decide +kernel) (pa_cons he.opnd (pa_cons (pe_bltn (v := .ty T.name) hg2 hm2 hv rfl hn hdb) pa_nil h2) h1) (by decide) (by decide) h1 hpl) fun σ H Q q => ?_⟩
  · split at q
    · exact k _ q
    · exact q
  · obtain ⟨F, Hf, ρ, I, q⟩ := q
    refine ⟨F, Hf, ρ, I, he.mono ρ _ _ (fun r q F1 H1 v e1 I1 r1 => ?_) q⟩
    have g := r1.rd I1
    rw [fz_d] at g
    split at q
    rotate_left
    · exact q.elim
    rename_i hnb
    obtain ⟨t, ht⟩ := noBox_ty hnb
    refine ⟨v, .ty T.name, .type t, .type T.name, isTy T r.d, rfl, .ty T.name, tyX_of I1 g ht, kit_ty (kit_is T ht), ?_⟩
    exact q F1 H1 _ e1 I1 (show Rep X.K β F1 (.bl (isTy T r.d)) (.bl (isTy T r.d)) by rw [Rep])

/-! len, sum, max, min, all, any, tuple, list, int -/
def oLen : CD := fun ds P => match ds with
  | [.str x] => P (.val (.int x.length))
  | [.lst x] => P (.val (.int x.length))
  | [.tup x] => P (.val (.int x.length))
  | _ => False
theorem c_len : CaD X β (.builtin "len") oLen := by
  refine ⟨fun ds P P' k q => ?_, _, call_len_seq.or call_len_str, fun F Hf ρ σ H ds xs Q I r q => ?_⟩
  · unfold oLen at q ⊢
    split at q <;> first | exact k _ q | exact q
  · unfold oLen at q
    split at q
    · obtain ⟨v, rfl, r1⟩ := r.one
      obtain ⟨rfl, hx⟩ := r1.str
      exact .inr ⟨_, rfl, by rw [mkS_len]; exact hx.1, by rw [mkS_len]; exact q.int I⟩
    · obtain ⟨v, rfl, r1⟩ := r.one
      obtain ⟨a, vs, rfl, sa, za, la⟩ := r1.lst I
      exact .inl ⟨a, vs, rfl, .inl (.of sa), by rw [la.length]; exact q.int I⟩
    · obtain ⟨v, rfl, r1⟩ := r.one
      obtain ⟨a, vs, rfl, sa, za, la⟩ := r1.tup I
      exact .inl ⟨a, vs, rfl, .inr sa, by rw [la.length]; exact q.int I⟩
    · exact q.elim
def intsOf : List D → Option (List Int)
  | [] => some []
  | .int i :: ds => match intsOf ds with
    | some ns => some (i :: ns)
    | none => none
  | _ :: _ => none
def boolsOf : List D → Option (List Bool)
  | [] => some []
  | .bl i :: ds => match boolsOf ds with
    | some ns => some (i :: ns)
    | none => none
  | _ :: _ => none
def strsOf : List D → Option (List (List Nat))
  | [] => some []
  | .str i :: ds => match strsOf ds with
    | some ns => some (i :: ns)
    | none => none
  | _ :: _ => none
theorem intsOf_eq : ∀ {ds : List D} {ns : List Int}, intsOf ds = some ns → ds = ns.map D.int
  | [], ns, h => by cases h; rfl
  | d :: ds, ns, h => by
    cases d <;> try (simp [intsOf] at h; done)
    rename_i i
    rw [intsOf] at h
    split at h
    · rename_i ns' h'
      cases h
      rw [intsOf_eq h', List.map_cons]
    · cases h
theorem boolsOf_eq : ∀ {ds : List D} {ns : List Bool}, boolsOf ds = some ns → ds = ns.map D.bl
  | [], ns, h => by cases h; rfl
  | d :: ds, ns, h => by
    cases d <;> try (simp [boolsOf] at h; done)
    rename_i i
    rw [boolsOf] at h
    split at h
    · rename_i ns' h'
      cases h
      rw [boolsOf_eq h', List.map_cons]
    · cases h
theorem strsOf_eq : ∀ {ds : List D} {ns : List (List Nat)}, strsOf ds = some ns → ds = ns.map D.str
  | [], ns, h => by cases h; rfl
  | d :: ds, ns, h => by
    cases d <;> try (simp [strsOf] at h; done)
    rename_i i
    rw [strsOf] at h
    split at h
    · rename_i ns' h'
      cases h
      rw [strsOf_eq h', List.map_cons]
    · cases h
theorem intsOf_map {α : Type} (f : α → Int) : ∀ l : List α, intsOf (l.map fun a => D.int (f a)) = some (l.map f)
  | [] => rfl
  | a :: l => by rw [List.map_cons, intsOf, intsOf_map f l, List.map_cons]
theorem boolsOf_map {α : Type} (f : α → Bool) : ∀ l : List α, boolsOf (l.map fun a => D.bl (f a)) = some (l.map f)
  | [] => rfl
  | a :: l => by rw [List.map_cons, boolsOf, boolsOf_map f l, List.map_cons]
theorem strsOf_map {α : Type} (f : α → List Nat) : ∀ l : List α, strsOf (l.map fun a => D.str (f a)) = some (l.map f)
  | [] => rfl
  | a :: l => by rw [List.map_cons, strsOf, strsOf_map f l, List.map_cons]
theorem rep_ints {K : PySem.W.Frag} {F : Hp} : ∀ {ns : List Int} {vs : List V}, RepL K β F (ns.map D.int) vs → vs = ns.map V.int
  | [], vs, h => by rw [List.map_nil, RepL] at h; rw [h]; rfl
  | n :: ns, vs, h => by
    rw [List.map_cons, RepL] at h
    obtain ⟨v, ws, rfl, h1, h2⟩ := h
    rw [Rep] at h1
    rw [h1, rep_ints h2, List.map_cons]
theorem rep_bools {K : PySem.W.Frag} {F : Hp} : ∀ {ns : List Bool} {vs : List V}, RepL K β F (ns.map D.bl) vs → vs = ns.map V.bl
  | [], vs, h => by rw [List.map_nil, RepL] at h; rw [h]; rfl
  | n :: ns, vs, h => by
    rw [List.map_cons, RepL] at h
    obtain ⟨v, ws, rfl, h1, h2⟩ := h
    rw [Rep] at h1
    rw [h1, rep_bools h2, List.map_cons]
theorem rep_strs {K : PySem.W.Frag} {F : Hp} : ∀ {ns : List (List Nat)} {vs : List V}, RepL K β F (ns.map D.str) vs → vs = (ns.map mkS).map V.str ∧ ∀ x ∈ ns, okS x
  | [], vs, h => by rw [List.map_nil, RepL] at h; rw [h]; exact ⟨rfl, fun _ h => nomatch h⟩
  | n :: ns, vs, h => by
    rw [List.map_cons, RepL] at h
    obtain ⟨v, ws, rfl, h1, h2⟩ := h
    rw [Rep] at h1
    obtain ⟨g1, g2⟩ := rep_strs h2
    refine ⟨by rw [h1.1, g1, List.map_cons, List.map_cons], fun x hx => ?_⟩
    rcases List.mem_cons.mp hx with rfl | hx
    · exact h1.2
    · exact g2 x hx
/-- of a list of whole numbers, of truth values -/
def oInts (f : List Int → Option D) : CD := fun ds P => match ds with
  | [.lst xs] => match intsOf xs with
    | some ns => match f ns with
      | some d => P (.val d)
      | none => False
    | none => False
  | _ => False
theorem oInts_mono {f : List Int → Option D} (ds : List D) (P P' : R → Prop) (k : ∀ r, P r → P' r) (q : oInts f ds P) : oInts f ds P' := by
  unfold oInts at q ⊢
  split at q
  · split at q
    · split at q
      · exact k _ q
      · exact q
    · exact q
  · exact q
def maxI : List Int → Option Int
  | [] => none
  | n :: ns => some (ns.foldl max n)
def minI : List Int → Option Int
  | [] => none
  | n :: ns => some (ns.foldl min n)
theorem foldl_max_ge : ∀ (ns : List Int) (n : Int), n ≤ ns.foldl max n ∧ ∀ y ∈ ns, y ≤ ns.foldl max n
  | [], n => ⟨Int.le_refl n, fun _ h => nomatch h⟩
  | m :: ns, n => by
    rw [List.foldl_cons]
    obtain ⟨h1, h2⟩ := foldl_max_ge ns (max n m)
    refine ⟨by omega, fun y hy => ?_⟩
    rcases List.mem_cons.mp hy with rfl | hy
    · omega
    · exact h2 y hy
theorem foldl_max_mem : ∀ (ns : List Int) (n : Int), ns.foldl max n = n ∨ ns.foldl max n ∈ ns
  | [], n => .inl rfl
  | m :: ns, n => by
    rw [List.foldl_cons]
    rcases foldl_max_mem ns (max n m) with h | h
    · rw [h]
      by_cases d : n ≤ m
      · right; rw [Int.max_eq_right d]; exact List.mem_cons_self
      · left; omega
    · right; exact List.mem_cons_of_mem _ h
theorem foldl_min_le : ∀ (ns : List Int) (n : Int), ns.foldl min n ≤ n ∧ ∀ y ∈ ns, ns.foldl min n ≤ y
  | [], n => ⟨Int.le_refl n, fun _ h => nomatch h⟩
  | m :: ns, n => by
    rw [List.foldl_cons]
    obtain ⟨h1, h2⟩ := foldl_min_le ns (min n m)
    refine ⟨by omega, fun y hy => ?_⟩
    rcases List.mem_cons.mp hy with rfl | hy
    · omega
    · exact h2 y hy
theorem foldl_min_mem : ∀ (ns : List Int) (n : Int), ns.foldl min n = n ∨ ns.foldl min n ∈ ns
  | [], n => .inl rfl
  | m :: ns, n => by
    rw [List.foldl_cons]
    rcases foldl_min_mem ns (min n m) with h | h
    · rw [h]
      by_cases d : m ≤ n
      · right; rw [Int.min_eq_right d]; exact List.mem_cons_self
      · left; omega
    · right; exact List.mem_cons_of_mem _ h
theorem maxI_of {ns : List Int} {m : Int} (h1 : m ∈ ns) (h2 : ∀ y ∈ ns, y ≤ m) : maxI ns = some m := by
  cases ns with
  | nil => cases h1
  | cons n ns =>
    obtain ⟨g1, g2⟩ := foldl_max_ge ns n
    have g3 := foldl_max_mem ns n
    have e1 : ns.foldl max n ≤ m := by
      rcases g3 with g | g
      · rw [g]; exact h2 n List.mem_cons_self
      · exact h2 _ (List.mem_cons_of_mem _ g)
    have e2 : m ≤ ns.foldl max n := by
      rcases List.mem_cons.mp h1 with g | g
      · rw [g]; exact g1
      · exact g2 m g
    rw [maxI, Int.le_antisymm e1 e2]
theorem minI_of {ns : List Int} {m : Int} (h1 : m ∈ ns) (h2 : ∀ y ∈ ns, m ≤ y) : minI ns = some m := by
  cases ns with
  | nil => cases h1
  | cons n ns =>
    obtain ⟨g1, g2⟩ := foldl_min_le ns n
    have g3 := foldl_min_mem ns n
    have e1 : m ≤ ns.foldl min n := by
      rcases g3 with g | g
      · rw [g]; exact h2 n List.mem_cons_self
      · exact h2 _ (List.mem_cons_of_mem _ g)
    have e2 : ns.foldl min n ≤ m := by
      rcases List.mem_cons.mp h1 with g | g
      · rw [g]; exact g1
      · exact g2 m g
    rw [minI, Int.le_antisymm e2 e1]
def optInt : Option Int → Option D
  | some i => some (.int i)
  | none => none
abbrev oSum : CD := oInts fun ns => some (.int ns.sum)
abbrev oMax : CD := oInts fun ns => optInt (maxI ns)
abbrev oMin : CD := oInts fun ns => optInt (minI ns)
theorem oInts_go {f : List Int → Option D} {K : PySem.W.Frag} {F Hf H : Hp} {ρ : WEnv} {σ : L2.St} {Q : VK} {ds : List D} {xs : List V} (I : Rel K β F Hf ρ σ H) (r : RepOs K β F H ds xs) (q : oInts f ds (Kt K β F Hf ρ σ Q)) :
    ∃ a ns d, xs = [.ref a] ∧ SqL K H a (ns.map V.int) ∧ f ns = some d ∧ Kt K β F Hf ρ σ Q (.val d) := by
  unfold oInts at q
  split at q
  · obtain ⟨v, rfl, r1⟩ := r.one
    obtain ⟨a, vs, rfl, sa, za, la⟩ := r1.lst I
    split at q
    · rename_i ns hn
      split at q
      · rename_i d hd
        rw [intsOf_eq hn] at la
        have := rep_ints la
        subst this
        exact ⟨a, ns, d, rfl, .of sa, hd, q⟩
      · exact q.elim
    · exact q.elim
  · exact q.elim
theorem c_sum (hc : X.calm = true) : CaD X β (.builtin "sum") oSum := by
  refine ⟨oInts_mono, _, cr_sum hc, fun F Hf ρ σ H ds xs Q I r q => ?_⟩
  obtain ⟨a, ns, d, rfl, h1, h2, h3⟩ := oInts_go I r q
  cases h2
  exact ⟨a, ns, rfl, h1, h3.int I⟩
theorem c_max (hc : X.calm = true) : CaD X β (.builtin "max") oMax := by
  refine ⟨oInts_mono, _, cr_max hc, fun F Hf ρ σ H ds xs Q I r q => ?_⟩
  obtain ⟨a, ns, d, rfl, h1, h2, h3⟩ := oInts_go I r q
  refine ⟨a, ns, rfl, h1, ?_, fun m hm hl => ?_⟩
  · cases ns with
    | nil => cases h2
    | cons n ns => exact Nat.succ_pos _
  · rw [maxI_of hm hl] at h2
    cases h2
    exact h3.int I
theorem c_min (hc : X.calm = true) : CaD X β (.builtin "min") oMin := by
  refine ⟨oInts_mono, _, cr_min hc, fun F Hf ρ σ H ds xs Q I r q => ?_⟩
  obtain ⟨a, ns, d, rfl, h1, h2, h3⟩ := oInts_go I r q
  refine ⟨a, ns, rfl, h1, ?_, fun m hm hl => ?_⟩
  · cases ns with
    | nil => cases h2
    | cons n ns => exact Nat.succ_pos _
  · rw [minI_of hm hl] at h2
    cases h2
    exact h3.int I
def oInt2 (g : Int → Int → Int) : CD := fun ds P => match ds with
  | [.int i, .int j] => P (.val (.int (g i j)))
  | _ => False
theorem oInt2_mono {g : Int → Int → Int} (ds : List D) (P P' : R → Prop) (k : ∀ r, P r → P' r) (q : oInt2 g ds P) : oInt2 g ds P' := by
  unfold oInt2 at q ⊢
  split at q
  · exact k _ q
  · exact q
theorem c_max2 (hc : X.calm = true) : CaD X β (.builtin "max") (oInt2 fun i j => max i j) := by
  refine ⟨oInt2_mono, _, call_max2 hc, fun F Hf ρ σ H ds xs Q I r q => ?_⟩
  unfold oInt2 at q
  split at q
  · rename_i i j
    obtain ⟨v, w, rfl, r1, r2⟩ := r.two
    refine ⟨_, _, by rw [r1.int, r2.int], ?_⟩
    have : (if j > i then j else i) = max i j := by
      split <;> omega
    rw [this]
    exact q.int I
  · exact q.elim
theorem c_min2 (hc : X.calm = true) : CaD X β (.builtin "min") (oInt2 fun i j => min i j) := by
  refine ⟨oInt2_mono, _, call_min2 hc, fun F Hf ρ σ H ds xs Q I r q => ?_⟩
  unfold oInt2 at q
  split at q
  · rename_i i j
    obtain ⟨v, w, rfl, r1, r2⟩ := r.two
    refine ⟨_, _, by rw [r1.int, r2.int], ?_⟩
    have : (if j < i then j else i) = min i j := by
      split <;> omega
    rw [this]
    exact q.int I
  · exact q.elim
def oBools (f : List Bool → Bool) : CD := fun ds P => match ds with
  | [.lst xs] => match boolsOf xs with
    | some ns => P (.val (.bl (f ns)))
    | none => False
  | _ => False
theorem oBools_mono {f : List Bool → Bool} (ds : List D) (P P' : R → Prop) (k : ∀ r, P r → P' r) (q : oBools f ds P) : oBools f ds P' := by
  unfold oBools at q ⊢
  split at q
  · split at q
    · exact k _ q
    · exact q
  · exact q
theorem oBools_go {f : List Bool → Bool} {K : PySem.W.Frag} {F Hf H : Hp} {ρ : WEnv} {σ : L2.St} {Q : VK} {ds : List D} {xs : List V} (I : Rel K β F Hf ρ σ H) (r : RepOs K β F H ds xs) (q : oBools f ds (Kt K β F Hf ρ σ Q)) :
    ∃ a ns, xs = [.ref a] ∧ SqL K H a (ns.map V.bl) ∧ Kt K β F Hf ρ σ Q (.val (.bl (f ns))) := by
  unfold oBools at q
  split at q
  · obtain ⟨v, rfl, r1⟩ := r.one
    obtain ⟨a, vs, rfl, sa, za, la⟩ := r1.lst I
    split at q
    · rename_i ns hn
      rw [boolsOf_eq hn] at la
      have := rep_bools la
      subst this
      exact ⟨a, ns, rfl, .of sa, q⟩
    · exact q.elim
  · exact q.elim
abbrev oAll : CD := oBools fun bs => bs.all (fun b => b)
abbrev oAny : CD := oBools fun bs => bs.any (fun b => b)
theorem c_all (hc : X.calm = true) : CaD X β (.builtin "all") oAll := by
  refine ⟨oBools_mono, _, cr_all hc, fun F Hf ρ σ H ds xs Q I r q => ?_⟩
  obtain ⟨a, ns, rfl, h1, h3⟩ := oBools_go I r q
  exact ⟨a, ns, rfl, h1, h3.bl I⟩
theorem c_any (hc : X.calm = true) : CaD X β (.builtin "any") oAny := by
  refine ⟨oBools_mono, _, cr_any hc, fun F Hf ρ σ H ds xs Q I r q => ?_⟩
  obtain ⟨a, ns, rfl, h1, h3⟩ := oBools_go I r q
  exact ⟨a, ns, rfl, h1, h3.bl I⟩
def oTuple : CD := fun ds P => match ds with
  | [.lst xs] => P (.val (.tup xs))
  | [.tup xs] => P (.val (.tup xs))
  | _ => False
theorem c_tuple : CaD X β (.type "tuple") oTuple := by
  refine ⟨fun ds P P' k q => ?_, _, call_tupleD, fun F Hf ρ σ H ds xs Q I r q => ?_⟩
  · unfold oTuple at q ⊢
    split at q <;> first | exact k _ q | exact q
  · unfold oTuple at q
    split at q
    · obtain ⟨v, rfl, r1⟩ := r.one
      obtain ⟨a, vs, rfl, sa, za, la⟩ := r1.lst I
      exact ⟨a, vs, rfl, .inl ⟨.of sa, fun l its hl => q.newT I hl za la⟩⟩
    · obtain ⟨v, rfl, r1⟩ := r.one
      obtain ⟨a, vs, rfl, sa, za, la⟩ := r1.tup I
      exact ⟨a, vs, rfl, .inr ⟨sa, q.tup I r1⟩⟩
    · exact q.elim
def oList : CD := fun ds P => match ds with
  | [.lst xs] => P (.own (.lst xs))
  | [.tup xs] => P (.own (.lst xs))
  | _ => False
theorem c_list : CaD X β (.type "list") oList := by
  refine ⟨fun ds P P' k q => ?_, _, call_list_of, fun F Hf ρ σ H ds xs Q I r q => ?_⟩
  · unfold oList at q ⊢
    split at q <;> first | exact k _ q | exact q
  · unfold oList at q
    split at q
    · obtain ⟨v, rfl, r1⟩ := r.one
      obtain ⟨a, vs, rfl, sa, za, la⟩ := r1.lst I
      exact ⟨a, vs, rfl, .inl (.of sa), fun l hl => q.newL I hl za la⟩
    · obtain ⟨v, rfl, r1⟩ := r.one
      obtain ⟨a, vs, rfl, sa, za, la⟩ := r1.tup I
      exact ⟨a, vs, rfl, .inr sa, fun l hl => q.newL I hl za la⟩
    · exact q.elim
def oInt : CD := fun ds P => match ds with
  | [.int i] => P (.val (.int i))
  | [.bl b] => P (.val (.int (if b then 1 else 0)))
  | _ => False
theorem c_int : CaD X β (.type "int") oInt := by
  refine ⟨fun ds P P' k q => ?_, _, call_int1, fun F Hf ρ σ H ds xs Q I r q => ?_⟩
  · unfold oInt at q ⊢
    split at q <;> first | exact k _ q | exact q
  · unfold oInt at q
    split at q
    · obtain ⟨v, rfl, r1⟩ := r.one
      exact .inl ⟨_, by rw [r1.int], q.int I⟩
    · obtain ⟨v, rfl, r1⟩ := r.one
      exact .inr ⟨_, by rw [r1.bl], q.int I⟩
    · exact q.elim

/-! ### methods -/
abbrev MD := D → List D → (R → Prop) → Prop
structure MtD (X : Cx) (β : Bx) (T id : String) (o : MD) : Prop where
  mono : ∀ d ds P P', (∀ r, P r → P' r) → o d ds P → o d ds P'
  ty : ∀ F Hf ρ σ H d ds v P, Rel X.K β F Hf ρ σ H → RepO X.K β F H d v → o d ds P → tyV X.K T v H
  ex : ∃ rr : V → List V → Hp → VK → Prop, MtR X id rr ∧ ∀ F Hf ρ σ H d ds x xs Q, Rel X.K β F Hf ρ σ H → RepO X.K β F H d x → RepOs X.K β F H ds xs → o d ds (Kt X.K β F Hf ρ σ Q) → rr x xs H Q
def tyOk (T : String) : D → Bool
  | .str _ => T == "str"
  | .lst _ => T == "list"
  | .tup _ => T == "tuple"
  | .dct _ _ => T == "dict"
  | _ => false
def wM (T : String) (o : MD) (wa : WE) (ws : WAs) : WE := fun ρ P => wa ρ fun r => tyOk T r.d = true ∧ ws ρ fun rs => o r.d (rs.map R.d) P
/-- the kind of what a method is called on -/
def tyW (K : PySem.W.Frag) (T : String) (x : V) (H : Hp) : Prop := tyV K T x H ∨ (T = "tuple" ∧ ∃ p vs, x = .ref p ∧ SqD H p vs)
theorem tyW_is {pins : List (Addr × Obj)} {σ : L2.St} {H : Hp} {s : Shared} {x : V} {v : Value} (I : Inv X pins σ H s) (r : RelV x v) (ty : tyW X.K T x H) : s.TypeIs v T ∧ ∀ a, v = .ref a → ∃ ob, s.heap.get? a = some ob ∧ ob.dict = none := by
  rcases ty with ty | ⟨rfl, p, vs, rfl, its, hp⟩
  · exact tyV_is I r ty
  · cases r
    have ho : s.heap.get? p = some (tupO its) := (I.hok p _ hp).1
    exact ⟨⟨_, ho, rfl⟩, fun a e => by cases e; exact ⟨_, ho, rfl⟩⟩
def tMW (K : PySem.W.Frag) (T : String) (rr : V → List V → Hp → VK → Prop) (to : TE) (ta : TA) : TE := fun σ H Q => to σ H fun x H1 => tyW K T x H1 ∧ ta σ H1 fun xs H2 => rr x xs H2 Q
def tMW0 (K : PySem.W.Frag) (T : String) (rr : V → List V → Hp → VK → Prop) (to : TE) : TE := fun σ H Q => to σ H fun x H1 => tyW K T x H1 ∧ rr x [] H1 Q
theorem pe_mw0 {name : Str} {apos cpos : Pos} {rr : V → List V → Hp → VK → Prop} {o : Expr} {to : TE} (pa : PlainAttrs T) (slot : PySem.Slot T name id) (hty : typeOf (.builtin id) = pure (.type "method_descriptor")) (hm : MtR X id rr) (ho : PE X o to)
    (hb : attributeBase o name X.env (eval o X.env) = eval o X.env) (hl : (apos.endLine == cpos.line) = true) : PE X (.Call (.Attribute o name apos) [] [] cpos) (tMW0 X.K T rr to) := by
  refine ⟨fun pins s σ H Q I h => wpAny_Call_method0_late hb hl (thn (ho.run pins s σ H _ I h) ?_)⟩
  rintro v s1 ⟨x, H1, I1, r1, ty, q1⟩
  have g := tyW_is I1 r1 ty
  exact ⟨T, id, pa, slot, hty, g.1, g.2, Calls.callWith_builtin rfl (PySem.evalArgs_none (hm pins s1 σ H1 x [] v [] Q I1 r1 .nil q1))⟩
theorem pe_mw {name : Str} {apos cpos : Pos} {rr : V → List V → Hp → VK → Prop} {o e : Expr} {es : List Expr} {to : TE} {ta : TA} (pa : PlainAttrs T) (slot : PySem.Slot T name id) (hty : typeOf (.builtin id) = pure (.type "method_descriptor")) (hm : MtR X id rr) (ho : PE X o to) (ha : PA X (e :: es) ta)
    (hb : attributeBase o name X.env (eval o X.env) = eval o X.env)
    (hfew : ((backTo cpos (starEach (e :: es) X.env)).all (fun x => !x.1) && (backToKw cpos (keywordEach [] X.env)).all (fun x => x.1.isSome)
      && decide ((e :: es).length + ([] : List Keyword).length + (if ([] : List Keyword).isEmpty then 0 else 1) < 30)) = true)
    (hl : (apos.endLine == cpos.line) = true) (hst : starEach (e :: es) X.env = (false, eval e X.env) :: starEach es X.env) (hplain : (backTo cpos (starEach es X.env)).any (·.1) = false) :
    PE X (.Call (.Attribute o name apos) (e :: es) [] cpos) (tMW X.K T rr to ta) := by
  refine ⟨fun pins s σ H Q I h => wpAny_Call_method_late hb hfew hl rfl (thn (ho.run pins s σ H _ I h) ?_)⟩
  rintro v s1 ⟨x, H1, I1, r1, ty, q1⟩
  have g := tyW_is I1 r1 ty
  refine ⟨T, id, pa, slot, hty, g.1, g.2, ?_⟩
  have hA := ha.run cpos pins s1 σ H1 _ I1 q1
  rw [hst] at hA ⊢
  refine Calls.callWith_builtin (by show (false || (backTo cpos (starEach es X.env)).any (·.1)) = false; rw [Bool.false_or, hplain]) (Calls.evalArgs_plain (thn hA ?_))
  rintro us s2 ⟨vs, H2, I2, r2, q2⟩
  exact hm pins s2 σ H2 x vs v us Q I2 r1 r2 q2
theorem tyOk_v {K : PySem.W.Frag} {F Hf H : Hp} {ρ : WEnv} {σ : L2.St} (I : Rel K β F Hf ρ σ H) {d : D} {v : V} (r : RepO K β F H d v) (h : tyOk T d = true) : tyW K T v H := by
  cases d <;> try (cases h; done)
  · rw [r.str.1]
    exact .inl (show T = "str" by simpa [tyOk] using h)
  · obtain ⟨a, vs, rfl, sa, _⟩ := r.tupD I
    exact .inr ⟨by simpa [tyOk] using h, a, vs, rfl, sa⟩
  · obtain ⟨a, vs, rfl, sa, _⟩ := r.lst I
    exact .inl (.inl ⟨by simpa [tyOk] using h, vs, .of sa⟩)
  · have hT : T = "dict" := by simpa [tyOk] using h
    rcases r with r | ⟨a, rfl, r⟩
    · rw [Rep] at r
      obtain ⟨a, kvs, rfl, h1, _⟩ := r
      exact .inl (.inr (.inr (.inl ⟨hT, .inl ⟨kvs, I.fex _ _ h1⟩⟩)))
    · obtain ⟨kvs, h1, _⟩ := r
      exact .inl (.inr (.inr (.inl ⟨hT, .inl ⟨kvs, h1⟩⟩)))
theorem wM_mono {o : MD} {ws : WAs} (ha : PW X β a wa) (hs : PWL X β es ws) (om : ∀ d ds P P', (∀ r, P r → P' r) → o d ds P → o d ds P') (ρ : WEnv) (P P' : R → Prop) (k : ∀ r, P r → P' r) (q : wM T o wa ws ρ P) : wM T o wa ws ρ P' :=
  ha.mono ρ _ _ (fun _ q => ⟨q.1, hs.mono ρ _ _ (fun _ q => om _ _ _ _ k q) q.2⟩) q
structure MeD (X : Cx) (β : Bx) (id : String) (o : MD) : Prop where
  mono : ∀ d ds P P', (∀ r, P r → P' r) → o d ds P → o d ds P'
  ex : ∃ rr : V → List V → Hp → VK → Prop, MtR X id rr ∧ ∀ F Hf ρ σ H d ds x xs Q, Rel X.K β F Hf ρ σ H → RepO X.K β F H d x → RepOs X.K β F H ds xs → o d ds (Kt X.K β F Hf ρ σ Q) → rr x xs H Q
theorem pw_m {name : Str} {apos cpos : Pos} {o : MD} (pa : PlainAttrs T) (slot : PySem.Slot T name id) (hty : typeOf (.builtin id) = pure (.type "method_descriptor")) (hm : MeD X β id o) (ho : PW X β a wa) (hs : PWL X β (e :: es) ws)
    (hbase : attributeBase a name X.env (eval a X.env) = eval a X.env := by rfl)
    (hfew : ((backTo cpos (starEach (e :: es) X.env)).all (fun x => !x.1) && (backToKw cpos (keywordEach [] X.env)).all (fun x => x.1.isSome)
      && decide ((e :: es).length + ([] : List Keyword).length + (if ([] : List Keyword).isEmpty then 0 else 1) < 30)) = true := by rfl)
    (hline : (apos.endLine == cpos.line) = true := by rfl) (hst : starEach (e :: es) X.env = (false, eval e X.env) :: starEach es X.env := by rfl) (hplain : (backTo cpos (starEach es X.env)).any (·.1) = false := by rfl) :
    PW X β (.Call (.Attribute a name apos) (e :: es) [] cpos) (wM T o wa ws) := by
  obtain ⟨rr, hr, hq⟩ := hm.ex
  refine ⟨wM_mono ho hs hm.mono, imp_E (pe_mw pa slot hty hr ho.opnd hs.run hbase hfew hline hst hplain) fun σ H Q q => ?_⟩
  obtain ⟨F, Hf, ρ, I, q⟩ := q
  refine ⟨F, Hf, ρ, I, ho.mono ρ _ _ (fun r q F1 H1 v e1 I1 r1 => ?_) q⟩
  have g := r1.rd I1
  rw [fz_d] at g
  refine ⟨tyOk_v I1 g q.1, F1, Hf, ρ, I1, hs.mono ρ _ _ (fun rs q F2 H2 vs e2 I2 r2 => ?_) q.2⟩
  have g2 := (r1.mono e2).rd I2
  rw [fz_d] at g2
  exact hq F2 Hf ρ σ H2 _ _ v vs Q I2 g2 (r2.rd I2) (hm.mono _ _ _ _ (fun t k F3 H3 z e3 I3 r3 => k F3 H3 z ((e1.trans e2).trans e3) I3 r3) q)
theorem pw_m0 {name : Str} {apos cpos : Pos} {o : MD} (pa : PlainAttrs T) (slot : PySem.Slot T name id) (hty : typeOf (.builtin id) = pure (.type "method_descriptor")) (hm : MeD X β id o) (ho : PW X β a wa)
    (hbase : attributeBase a name X.env (eval a X.env) = eval a X.env := by rfl) (hline : (apos.endLine == cpos.line) = true := by rfl) : PW X β (.Call (.Attribute a name apos) [] [] cpos) (wM T o wa wNil) := by
  obtain ⟨rr, hr, hq⟩ := hm.ex
  refine ⟨wM_mono ho (pwl_nil (X := X)) hm.mono, imp_E (pe_mw0 pa slot hty hr ho.opnd hbase hline) fun σ H Q q => ?_⟩
  obtain ⟨F, Hf, ρ, I, q⟩ := q
  refine ⟨F, Hf, ρ, I, ho.mono ρ _ _ (fun r q F1 H1 v e1 I1 r1 => ?_) q⟩
  have g := r1.rd I1
  rw [fz_d] at g
  refine ⟨tyOk_v I1 g q.1, ?_⟩
  exact hq F1 Hf ρ σ H1 _ _ v [] Q I1 g .nil (hm.mono _ _ _ _ (fun t k F3 H3 z e3 I3 r3 => k F3 H3 z (e1.trans e3) I3 r3) q.2)
/-- sep.join(texts) -/
def oJoin : MD := fun d ds P => match d, ds with
  | .str x, [.lst l] => match strsOf l with
    | some ys => (ys.map List.length).sum + ys.length * x.length ≤ 16777216 ∧ P (.val (.str (TL.joinL x ys)))
    | none => False
  | .str x, [.tup l] => match strsOf l with
    | some ys => (ys.map List.length).sum + ys.length * x.length ≤ 16777216 ∧ P (.val (.str (TL.joinL x ys)))
    | none => False
  | _, _ => False
theorem joinL_len (S : List Nat) : ∀ ys : List (List Nat), (TL.joinL S ys).length ≤ (ys.map List.length).sum + ys.length * S.length
  | [] => by simp [TL.joinL]
  | [x] => by simp [TL.joinL]
  | x :: y :: r => by
    have := joinL_len S (y :: r)
    simp only [TL.joinL, List.length_append, List.map_cons, List.sum_cons, List.length_cons, Nat.add_mul, Nat.one_mul] at this ⊢
    omega
theorem joinL_mem {S : List Nat} {c : Nat} : ∀ {ys : List (List Nat)}, c ∈ TL.joinL S ys → c ∈ S ∨ ∃ y ∈ ys, c ∈ y
  | [], h => by simp [TL.joinL] at h
  | [x], h => .inr ⟨x, List.mem_cons_self, by simpa [TL.joinL] using h⟩
  | x :: y :: r, h => by
    simp only [TL.joinL, List.mem_append] at h
    rcases h with h | h | h
    · exact .inr ⟨x, List.mem_cons_self, h⟩
    · exact .inl h
    · rcases joinL_mem (ys := y :: r) h with h | ⟨z, h1, h2⟩
      · exact .inl h
      · exact .inr ⟨z, List.mem_cons_of_mem _ h1, h2⟩
theorem join_mkS (x : List Nat) (ys : List (List Nat)) : Txt.join (mkS x) (ys.map mkS) = mkS (TL.joinL x ys) := by
  rw [TL.join_eq]
  apply TL.ext_tl
  rw [TL.tl_join]
  show TL.joinL (TL.tl (mkS x)) ((ys.map mkS).map TL.tl) = TL.tl (mkS (TL.joinL x ys))
  have e1 : TL.tl (mkS x) = x := rfl
  have e2 : (ys.map mkS).map TL.tl = ys := by
    rw [List.map_map]
    exact List.map_id' ys
  rw [e1, e2]
theorem m_join : MeD X β "str.join" oJoin := by
  refine ⟨fun d ds P P' k q => ?_, _, mt_join, fun F Hf ρ σ H d ds x xs Q I r rs q => ?_⟩
  · unfold oJoin at q ⊢
    split at q
    · split at q
      · exact ⟨q.1, k _ q.2⟩
      · exact q
    · split at q
      · exact ⟨q.1, k _ q.2⟩
      · exact q
    · exact q
  · have fin : ∀ {z : List Nat} {ys : List (List Nat)}, okS z → (∀ y ∈ ys, okS y) → (ys.map List.length).sum + ys.length * z.length ≤ 16777216 → okS (TL.joinL z ys) := fun hz hy hs =>
      ⟨Nat.le_trans (joinL_len _ _) (by rw [sizeLine_eq]; exact hs), fun c hc => (joinL_mem hc).elim (hz.2 c) fun ⟨y, h1, h2⟩ => (hy y h1).2 c h2⟩
    have sums : ∀ ys : List (List Nat), ((ys.map mkS).map (·.length)).sum = (ys.map List.length).sum := fun ys => by
      rw [List.map_map]
      congr 1
    unfold oJoin at q
    split at q
    · obtain ⟨rfl, hx⟩ := r.str
      obtain ⟨v, rfl, r2⟩ := rs.one
      obtain ⟨a, vs, rfl, sa, za, la⟩ := r2.lst I
      split at q
      · rename_i ys hy
        rw [strsOf_eq hy] at la
        obtain ⟨rfl, ok⟩ := rep_strs la
        refine ⟨_, a, ys.map mkS, rfl, rfl, .inl (.of sa), ?_, ?_⟩
        · rw [sums, List.length_map, mkS_len]; exact q.1
        · rw [join_mkS]
          exact q.2.str I (fin hx ok q.1)
      · exact q.elim
    · obtain ⟨rfl, hx⟩ := r.str
      obtain ⟨v, rfl, r2⟩ := rs.one
      obtain ⟨a, vs, rfl, sa, za, la⟩ := r2.tup I
      split at q
      · rename_i ys hy
        rw [strsOf_eq hy] at la
        obtain ⟨rfl, ok⟩ := rep_strs la
        refine ⟨_, a, ys.map mkS, rfl, rfl, .inr sa, ?_, ?_⟩
        · rw [sums, List.length_map, mkS_len]; exact q.1
        · rw [join_mkS]
          exact q.2.str I (fin hx ok q.1)
      · exact q.elim
    · exact q.elim
end
end WL
set_option Elab.async false
set_option linter.all false
set_option autoImplicit false
set_option maxRecDepth 100000
namespace WL
open PySem PySem.Spec L2

section
variable {X : Cx} {β : Bx} {a e : Expr} {es : List Expr} {wa we wk : WE} {pos : Pos} {tg : Expr} {ws : WAs}

/-! ### what is walked -/
def wIt (we : WE) : WI := fun ρ P => we ρ fun r => match r.d with
  | .lst ds => P r.fz ds
  | .tup ds => P r.fz ds
  | .str x => P r.fz (x.map fun c => .str [c])
  | _ => False
theorem itOk_list {K : PySem.W.Frag} {F Hf H : Hp} {ρ : WEnv} {σ : L2.St} {r : R} {ds : List D} {p : Addr} (I : Rel K β F Hf ρ σ H) (h : RepA K β F ρ σ r (.ref p)) (hd : r.d = .lst ds) : ItOk K β r (.ref p) ds (Itl K p) := by
  refine ⟨?_, fun F' Hf' ρ' σ' H' i I' h' => ?_⟩
  · have g := h.rd I
    rw [hd] at g
    obtain ⟨_, _, _, _, z, _⟩ := g.lst I
    exact z
  · have g := h'.rd I'
    rw [hd] at g
    obtain ⟨q, vs, e, sq, z, rl⟩ := g.lst I'
    cases e
    refine ⟨fun d hi => ?_, fun hi => ⟨vs, .of sq, by rw [rl.length]; exact hi⟩⟩
    obtain ⟨v, e1, e2⟩ := rl.get hi
    refine ⟨⟨vs, v, .of sq, e1⟩, fun x H2 hy => ?_⟩
    obtain ⟨rfl, hy⟩ := hy
    have := hy vs (.of sq)
    rw [e1] at this; cases this
    exact ⟨F', Ex.refl F', I', e2⟩
theorem itOk_tup {K : PySem.W.Frag} {F Hf H : Hp} {ρ : WEnv} {σ : L2.St} {r : R} {ds : List D} {p : Addr} (I : Rel K β F Hf ρ σ H) (h : RepA K β F ρ σ r (.ref p)) (hd : r.d = .tup ds) (inj : ∀ F' Hf' ρ' σ' H' us vs, Rel K β F' Hf' ρ' σ' H' → SqT K H' p us → SqT K H' p vs → us = vs) : ItOk K β r (.ref p) ds (Itt K p) := by
  refine ⟨?_, fun F' Hf' ρ' σ' H' i I' h' => ?_⟩
  · have g := h.rd I
    rw [hd] at g
    obtain ⟨_, _, _, _, z, _⟩ := g.tup I
    exact z
  · have g := h'.rd I'
    rw [hd] at g
    obtain ⟨q, vs, e, sq, z, rl⟩ := g.tup I'
    cases e
    refine ⟨fun d hi => ?_, fun hi => ⟨vs, sq, by rw [rl.length]; exact hi⟩⟩
    obtain ⟨v, e1, e2⟩ := rl.get hi
    refine ⟨⟨vs, v, sq, e1⟩, fun x H2 hy => ?_⟩
    obtain ⟨rfl, hy⟩ := hy
    have := hy vs sq
    rw [e1] at this; cases this
    exact ⟨F', Ex.refl F', I', e2⟩
theorem itOk_tup' {K : PySem.W.Frag} {F Hf H : Hp} {ρ : WEnv} {σ : L2.St} {r : R} {ds : List D} {p : Addr} (I : Rel K β F Hf ρ σ H) (h : RepA K β F ρ σ r (.ref p)) (hd : r.d = .tup ds) : ItOk K β r (.ref p) ds (Itt K p) := by
  refine ⟨?_, fun F' Hf' ρ' σ' H' i I' h' => ?_⟩
  · have g := h.rd I
    rw [hd] at g
    obtain ⟨_, _, _, _, z, _⟩ := g.tup I
    exact z
  · have g := h'.rd I'
    rw [hd] at g
    obtain ⟨q, vs, e, sq, z, rl⟩ := g.tup I'
    cases e
    refine ⟨fun d hi => ?_, fun hi => ⟨vs, sq, by rw [rl.length]; exact hi⟩⟩
    obtain ⟨v, e1, e2⟩ := rl.get hi
    refine ⟨⟨vs, v, sq, e1⟩, fun x H2 hy => ?_⟩
    obtain ⟨rfl, hy⟩ := hy
    have := hy vs sq
    rw [e1] at this; cases this
    exact ⟨F', Ex.refl F', I', e2⟩
theorem itOk_str {K : PySem.W.Frag} {F Hf H : Hp} {ρ : WEnv} {σ : L2.St} {r : R} {x : List Nat} {v : V} (I : Rel K β F Hf ρ σ H) (h : RepA K β F ρ σ r v) (hd : r.d = .str x) : ItOk K β r v (x.map fun c => .str [c]) (Its (mkS x)) := by
  have g := h.rd I
  rw [hd] at g
  obtain ⟨_, ok⟩ := g.str
  have hz : (mkS x).cps.size = x.length := by simp [mkS]
  refine ⟨by rw [List.length_map]; exact ok.1, fun F' Hf' ρ' σ' H' i I' h' => ⟨fun d hi => ?_, fun hi => ?_⟩⟩
  · rw [List.getElem?_map] at hi
    cases hx : x[i]? with
    | none => rw [hx] at hi; cases hi
    | some c =>
      rw [hx] at hi; cases hi
      have hl := (List.getElem?_eq_some_iff.mp hx).1
      refine ⟨by show i < (mkS x).cps.size; rw [hz]; exact hl, fun y H2 hy => ?_⟩
      obtain ⟨rfl, c', h1, rfl⟩ := hy
      have : (mkS x).cps[i]? = some c := by
        show x.toArray[i]? = some c
        rw [List.getElem?_toArray]; exact hx
      rw [this] at h1; cases h1
      refine ⟨F', Ex.refl F', I', ?_⟩
      rw [Rep]
      refine ⟨rfl, by show 1 ≤ sizeLine; decide, fun z hz => ?_⟩
      rw [List.mem_singleton] at hz
      rw [hz]
      exact ok.2 c (List.mem_of_getElem? hx)
  · show (mkS x).cps.size ≤ i
    rw [hz]
    simpa using hi
theorem pi_val (h : PW X β e we) : PIW X β tg e (wIt we) := by
  refine ⟨fun ρ P P' k q => h.mono ρ _ _ (fun r q => ?_) q, ⟨fun pins s σ H Rr J q => ?_⟩⟩
  · split at q <;> first | exact k _ _ q | exact q
  · obtain ⟨F, Hf, ρ, I, q⟩ := q
    let Q : VK := fun v H1 => (∃ p, v = .ref p ∧ (∃ xs, SqL X.K H1 p xs) ∧ Rr (Itl X.K p) H1) ∨ (∃ p, v = .ref p ∧ (∃ xs, SqT X.K H1 p xs) ∧ Rr (Itt X.K p) H1) ∨ ∃ y, v = .str y ∧ Rr (Its y) H1
    have hw : tO X.K β we σ H Q := by
      refine ⟨F, Hf, ρ, I, h.mono ρ _ _ (fun r q F1 H1 v e1 I1 r1 => ?_) q⟩
      have g := r1.rd I1
      rw [fz_d] at g
      split at q
      · rename_i ds hd
        rw [hd] at g
        obtain ⟨p, vs, rfl, sq, z, rl⟩ := g.lst I1
        exact .inl ⟨p, rfl, ⟨vs, .of sq⟩, q F1 H1 _ _ e1 I1 r1 (itOk_list I1 r1 (by rw [fz_d]; exact hd))⟩
      · rename_i ds hd
        rw [hd] at g
        obtain ⟨p, vs, rfl, sq, z, rl⟩ := g.tup I1
        exact .inr (.inl ⟨p, rfl, ⟨vs, sq⟩, q F1 H1 _ _ e1 I1 r1 (itOk_tup' I1 r1 (by rw [fz_d]; exact hd))⟩)
      · rename_i x hx
        rw [hx] at g
        obtain ⟨rfl, ok⟩ := g.str
        exact .inr (.inr ⟨_, rfl, q F1 H1 _ _ e1 I1 r1 (itOk_str I1 r1 (by rw [fz_d]; exact hx))⟩)
      · exact q.elim
    refine thn (h.opnd.run pins s σ H Q J hw) fun v s1 ⟨x, H1, J1, rx, q1⟩ => ?_
    rcases q1 with ⟨p, rfl, ⟨xs, hq⟩, q1⟩ | ⟨p, rfl, ⟨xs, hq⟩, q1⟩ | ⟨y, rfl, q1⟩
    · cases rx
      obtain ⟨its, rv, pl, hz⟩ := J1.list hq
      exact wpAny_pyIter_list pl.isList (pi_one (tk := s1.toks) J1 _ (turn_list p _) ⟨_, Heap.get?_push_size _ rfl, rfl, rfl⟩ q1)
    · cases rx
      obtain ⟨its, rv, pl, hz⟩ := J1.tuple hq
      exact wpAny_pyIter_tuple (show s1.heap.IsTuple p its.toArray from pl) (pi_one (tk := s1.toks) J1 _ (turn_tuple p _) ⟨_, Heap.get?_push_size _ rfl, rfl, rfl⟩ q1)
    · obtain ⟨t, rfl⟩ := rx
      cases ha : y.cps.all (· < 128)
      · exact wpAny_pyIter_wide ha (pi_one (tk := s1.toks) J1 _ (turn_str _ y t _ (.inr rfl)) ⟨_, Heap.get?_push_size _ rfl, rfl, rfl⟩ q1)
      · exact wpAny_pyIter_ascii ha (pi_one (tk := s1.toks) J1 _ (turn_str _ y t _ (.inl rfl)) ⟨_, Heap.get?_push_size _ rfl, rfl, rfl⟩ q1)
/-- lo, lo + 1, .. -/
def rngL (lo : Int) (n : Nat) : List D := (List.range n).map fun (k : Nat) => D.int (lo + (k : Int))
theorem rep_non {K : PySem.W.Frag} {F : Hp} : Rep K β F .non .non := by rw [Rep]
theorem itOk_rng {K : PySem.W.Frag} (lo : Int) (n : Nat) (h : n ≤ 16777216) : ItOk K β (.val .non) .non (rngL lo n) (Itr lo n) := by
  refine ⟨by rw [rngL, List.length_map, List.length_range, sizeLine_eq]; exact h, fun F' Hf' ρ' σ' H' i I' h' => ⟨fun d hi => ?_, fun hi => ?_⟩⟩
  · rw [rngL, List.getElem?_map] at hi
    by_cases hn : i < n
    · rw [List.getElem?_range hn] at hi
      cases hi
      refine ⟨hn, fun x H2 hy => ?_⟩
      obtain ⟨rfl, rfl⟩ := hy
      exact ⟨F', Ex.refl F', I', by rw [Rep]⟩
    · rw [List.getElem?_eq_none (by rw [List.length_range]; omega)] at hi
      cases hi
  · show n ≤ i
    rw [rngL, List.length_map, List.length_range] at hi
    exact hi
/-- n is a number of turns -/
def rOk (n : Int) : Prop := -4611686018427387904 ≤ n ∧ n ≤ 16777216
def wRng1 (wa : WE) : WI := fun ρ P => wa ρ fun r => match r.d with
  | .int n => rOk n ∧ P (.val .non) (rngL 0 n.toNat)
  | _ => False
theorem pi_rng1 {p : Pos} (h : PW X β a wa) (hm : X.mg "range" = none) (hg : Gl X "range" := by rfl) (hs : starEach [a] X.env = (false, eval a X.env) :: starEach [] X.env := by rfl) : PIW X β tg (.Call (.Name "range" p) [a] [] pos) (wRng1 wa) := by
  refine ⟨fun ρ P P' k q => h.mono ρ _ _ (fun r q => ?_) q, ⟨fun pins s σ H Rr J q => (pi_range1 hg hm (pa_cons h.opnd pa_nil hs) hs).run pins s σ H Rr J ?_⟩⟩
  · split at q
    · exact ⟨q.1, k _ _ q.2⟩
    · exact q
  · obtain ⟨F, Hf, ρ, I, q⟩ := q
    refine ⟨F, Hf, ρ, I, h.mono ρ _ _ (fun r q F1 H1 v e1 I1 r1 => ?_) q⟩
    have g := r1.rd I1
    rw [fz_d] at g
    split at q
    · rename_i n hn
      rw [hn] at g
      obtain ⟨h1, h2⟩ := q.1
      refine ⟨n, by rw [g.int], by omega, by omega, ?_⟩
      exact q.2 F1 H1 .non _ e1 I1 (show Rep X.K β F1 .non .non by rw [Rep]) (itOk_rng 0 n.toNat (by omega))
    · exact q.elim
def wRng2 (wa wb : WE) : WI := fun ρ P => wa ρ fun r => wb ρ fun s => match r.d, s.d with
  | .int m, .int n => (rOk m ∧ rOk n ∧ n - m ≤ 16777216) ∧ P (.val .non) (rngL m (n - m).toNat)
  | _, _ => False
theorem pi_rng2 {p : Pos} {b : Expr} {wb : WE} (h : PW X β a wa) (h' : PW X β b wb) (hm : X.mg "range" = none) (hg : Gl X "range" := by rfl) (hs : starEach [a, b] X.env = (false, eval a X.env) :: starEach [b] X.env := by rfl) (hs2 : starEach [b] X.env = (false, eval b X.env) :: starEach [] X.env := by rfl) :
    PIW X β tg (.Call (.Name "range" p) [a, b] [] pos) (wRng2 wa wb) := by
  refine ⟨fun ρ P P' k q => h.mono ρ _ _ (fun r q => h'.mono ρ _ _ (fun s q => ?_) q) q, ⟨fun pins s σ H Rr J q => (pi_range2 hg hm (pa_cons h.opnd (pa_cons h'.opnd pa_nil hs2) hs) (by rw [hs, hs2]; rfl) (by rw [hs2]; rfl)).run pins s σ H Rr J ?_⟩⟩
  · split at q
    · exact ⟨q.1, k _ _ q.2⟩
    · exact q
  · obtain ⟨F, Hf, ρ, I, q⟩ := q
    refine ⟨F, Hf, ρ, I, h.mono ρ _ _ (fun r q F1 H1 v e1 I1 r1 => ?_) q⟩
    refine ⟨F1, Hf, ρ, I1, h'.mono ρ _ _ (fun t q F2 H2 v2 e2 I2 r2 => ?_) q⟩
    have g := (r1.mono e2).rd I2
    have g2 := r2.rd I2
    rw [fz_d] at g g2
    split at q
    · rename_i m n hm hn
      rw [hm] at g
      rw [hn] at g2
      obtain ⟨⟨h1, h2⟩, ⟨h3, h4⟩, h5⟩ := q.1
      refine ⟨m, n, by rw [g.int, g2.int], ⟨by omega, by omega, by omega, by omega⟩, ?_⟩
      exact q.2 F2 H2 .non _ (e1.trans e2) I2 (show Rep X.K β F2 .non .non by rw [Rep]) (itOk_rng m (n - m).toNat (by omega))
    · exact q.elim
/-- hi, hi - 1, .. -/
def rngD (hi : Int) (n : Nat) : List D := (List.range n).map fun (k : Nat) => D.int (hi - (k : Int))
def wRng3 (wa wb : WE) : WI := fun ρ P => wa ρ fun r => wb ρ fun s => match r.d, s.d with
  | .int m, .int n => (rOk m ∧ rOk n ∧ m - n ≤ 16777216) ∧ P (.val .non) (rngD m (m - n).toNat)
  | _, _ => False
theorem itOk_rngD {K : PySem.W.Frag} (hi : Int) (n : Nat) (h : n ≤ 16777216) : ItOk K β (.val .non) .non (rngD hi n) (Itc hi (-1) n) := by
  refine ⟨by rw [rngD, List.length_map, List.length_range, sizeLine_eq]; exact h, fun F' Hf' ρ' σ' H' i I' h' => ⟨fun d hd => ?_, fun hd => ?_⟩⟩
  · rw [rngD, List.getElem?_map] at hd
    by_cases hn : i < n
    · rw [List.getElem?_range hn] at hd
      cases hd
      refine ⟨hn, fun x H2 hy => ?_⟩
      obtain ⟨rfl, rfl⟩ := hy
      refine ⟨F', Ex.refl F', I', ?_⟩
      rw [Rep]
      congr 1
      omega
    · rw [List.getElem?_eq_none (by rw [List.length_range]; omega)] at hd
      cases hd
  · show n ≤ i
    rw [rngD, List.length_map, List.length_range] at hd
    exact hd
theorem pi_rng3 {p p1 p2 : Pos} {k : Nat} {b : Expr} {wb : WE} (h : PW X β a wa) (h' : PW X β b wb) (hm : X.mg "range" = none) (hg : Gl X "range" := by rfl) (hs : starEach [a, b, .UnaryOp .USub (.Constant (.int 1) k p1) p2] X.env = (false, eval a X.env) :: starEach [b, .UnaryOp .USub (.Constant (.int 1) k p1) p2] X.env := by rfl)
    (hs2 : starEach [b, .UnaryOp .USub (.Constant (.int 1) k p1) p2] X.env = (false, eval b X.env) :: starEach [.UnaryOp .USub (.Constant (.int 1) k p1) p2] X.env := by rfl) : PIW X β tg (.Call (.Name "range" p) [a, b, .UnaryOp .USub (.Constant (.int 1) k p1) p2] [] pos) (wRng3 wa wb) := by
  refine ⟨fun ρ P P' k q => h.mono ρ _ _ (fun r q => h'.mono ρ _ _ (fun s q => ?_) q) q, ⟨fun pins s σ H Rr J q => (pi_range3 hg hm (pa_cons h.opnd (pa_cons h'.opnd (pa_cons (pe_un un_neg pe_int) pa_nil) hs2) hs) hs (by rw [hs2]; rfl)).run pins s σ H Rr J ?_⟩⟩
  · split at q
    · exact ⟨q.1, k _ _ q.2⟩
    · exact q
  · obtain ⟨F, Hf, ρ, I, q⟩ := q
    refine ⟨F, Hf, ρ, I, h.mono ρ _ _ (fun r q F1 H1 v e1 I1 r1 => ?_) q⟩
    refine ⟨F1, Hf, ρ, I1, h'.mono ρ _ _ (fun t q F2 H2 v2 e2 I2 r2 => ?_) q⟩
    have g := (r1.mono e2).rd I2
    have g2 := r2.rd I2
    rw [fz_d] at g g2
    split at q
    · rename_i m n hm hn
      rw [hm] at g
      rw [hn] at g2
      obtain ⟨⟨h1, h2⟩, ⟨h3, h4⟩, h5⟩ := q.1
      refine ⟨1, rfl, m, n, -1, (m - n).toNat, by rw [g.int, g2.int], RgC.neg (by omega) (by omega) (by omega) (by omega), ?_⟩
      exact q.2 F2 H2 .non _ (e1.trans e2) I2 (show Rep X.K β F2 .non .non by rw [Rep]) (itOk_rngD m (m - n).toNat (by omega))
    · exact q.elim

/-! ### stores into a slot's own list -/
variable {i : Nat} {x : Str} {p1 apos cpos : Pos}
def wApp (i : Nat) (we : WE) : SW := fun E ρ => match ρ[i]? with
  | some (.own (.lst ds)) => we ρ fun r => match r.fz with
    | .val d => ds.length < 16777216 ∧ E.nx (ρ.set i (.own (.lst (ds ++ [d]))))
    | _ => False
  | _ => False
theorem ps_app (hx : PE X (.Name x p1) (tVar i)) (he : PW X β e we) (hbase : attributeBase (.Name x p1) "append" X.env (eval (.Name x p1) X.env) = eval (.Name x p1) X.env := by rfl)
    (hfew : ((backTo cpos (starEach [e] X.env)).all (fun x => !x.1) && (backToKw cpos (keywordEach [] X.env)).all (fun x => x.1.isSome)
      && decide (([e] : List Expr).length + ([] : List Keyword).length + (if ([] : List Keyword).isEmpty then 0 else 1) < 30)) = true := by rfl)
    (hline : (apos.endLine == cpos.line) = true := by rfl) (hst : starEach [e] X.env = (false, eval e X.env) :: starEach [] X.env := by rfl) (hplain : (backTo cpos (starEach [] X.env)).any (·.1) = false := by rfl)
    (hs : swapsWith (.Call (.Attribute (.Name x p1) "append" apos) [e] [] cpos) none pos.line X.env = pure false := by rfl) :
    PSW X β (.Expr (.Call (.Attribute (.Name x p1) "append" apos) [e] [] cpos) pos) (wApp i we) := by
  refine ⟨fun A B ρ l q => ?_, imp_S (L2.ps_expr (pe_bm PySem.F.plainAttrs_list PySem.F.slot_list_append PySem.F.type_list_append mt_append hx (pa_cons he.opnd pa_nil hst) hbase hfew hline hst hplain) hs) fun E σ H q => ?_⟩
  · unfold wApp at q ⊢
    split at q
    · refine he.mono ρ _ _ (fun r q => ?_) q
      split at q
      · exact ⟨q.1, l.nx _ q.2⟩
      · exact q
    · exact q
  · obtain ⟨F, Hf, ρ, WD, I, q, k⟩ := q
    unfold wApp at q
    split at q
    · rename_i ds hd
      obtain ⟨b, q1, q2, q3, q4, q5⟩ := I.own i _ hd
      obtain ⟨vs0, g0, _, _⟩ := q5
      refine ⟨.ref b, q1, .inl ⟨rfl, vs0, .of g0⟩, F, Hf, ρ, I, he.mono ρ _ _ (fun r q F1 H1 v e1 I1 r1 => ?_) q⟩
      split at q
      · rename_i d hr
        rw [hr] at r1
        obtain ⟨b', o1, o2, o3, o4, vs, g1, g2, g3⟩ := I1.own i _ hd
        rw [q1] at o1; cases o1
        refine ⟨b, vs, v, rfl, rfl, g1, by rw [g3.length, sizeLine_eq]; exact q.1, ?_⟩
        refine k.nx F1 _ σ _ e1 (I1.mutate (d' := .lst (ds ++ [d])) hd q1 ⟨_, upd_same, ?_, g3.append (RepL.cons r1 RepL.nil)⟩) q.2
        rw [List.length_append, sizeLine_eq, List.length_singleton]
        exact q.1
      · exact q.elim
    · exact q.elim
def wExt (i : Nat) (we : WE) : SW := fun E ρ => match ρ[i]? with
  | some (.own (.lst ds)) => we ρ fun r => match r.fz with
    | .val (.lst es) => ds.length + es.length ≤ 16777216 ∧ E.nx (ρ.set i (.own (.lst (ds ++ es))))
    | _ => False
  | _ => False
theorem ps_ext (hx : PE X (.Name x p1) (tVar i)) (he : PW X β e we) (hbase : attributeBase (.Name x p1) "extend" X.env (eval (.Name x p1) X.env) = eval (.Name x p1) X.env := by rfl)
    (hfew : ((backTo cpos (starEach [e] X.env)).all (fun x => !x.1) && (backToKw cpos (keywordEach [] X.env)).all (fun x => x.1.isSome)
      && decide (([e] : List Expr).length + ([] : List Keyword).length + (if ([] : List Keyword).isEmpty then 0 else 1) < 30)) = true := by rfl)
    (hline : (apos.endLine == cpos.line) = true := by rfl) (hst : starEach [e] X.env = (false, eval e X.env) :: starEach [] X.env := by rfl) (hplain : (backTo cpos (starEach [] X.env)).any (·.1) = false := by rfl)
    (hs : swapsWith (.Call (.Attribute (.Name x p1) "extend" apos) [e] [] cpos) none pos.line X.env = pure false := by rfl) :
    PSW X β (.Expr (.Call (.Attribute (.Name x p1) "extend" apos) [e] [] cpos) pos) (wExt i we) := by
  refine ⟨fun A B ρ l q => ?_, imp_S (L2.ps_expr (pe_bm PySem.F.plainAttrs_list PySem.F.slot_list_extend PySem.F.type_list_extend mt_extend hx (pa_cons he.opnd pa_nil hst) hbase hfew hline hst hplain) hs) fun E σ H q => ?_⟩
  · unfold wExt at q ⊢
    split at q
    · refine he.mono ρ _ _ (fun r q => ?_) q
      split at q
      · exact ⟨q.1, l.nx _ q.2⟩
      · exact q
    · exact q
  · obtain ⟨F, Hf, ρ, WD, I, q, k⟩ := q
    unfold wExt at q
    split at q
    · rename_i ds hd
      obtain ⟨b, q1, q2, q3, q4, q5⟩ := I.own i _ hd
      obtain ⟨vs0, g0, _, _⟩ := q5
      refine ⟨.ref b, q1, .inl ⟨rfl, vs0, .of g0⟩, F, Hf, ρ, I, he.mono ρ _ _ (fun r q F1 H1 v e1 I1 r1 => ?_) q⟩
      split at q
      · rename_i es hr
        rw [hr] at r1
        obtain ⟨b', o1, o2, o3, o4, vs, g1, g2, g3⟩ := I1.own i _ hd
        rw [q1] at o1; cases o1
        have r1 : Rep X.K β F1 (.lst es) v := r1
        rw [Rep] at r1
        obtain ⟨c, us, rfl, h1, h2, h3⟩ := r1
        refine ⟨b, c, vs, us, rfl, rfl, g1, I1.fex _ _ h1, by rw [g3.length, h3.length, sizeLine_eq]; exact q.1, ?_⟩
        refine k.nx F1 _ σ _ e1 (I1.mutate (d' := .lst (ds ++ es)) hd q1 ⟨_, upd_same, ?_, g3.append h3⟩) q.2
        rw [List.length_append, sizeLine_eq]
        exact q.1
      · exact q.elim
    · exact q.elim
def wSetI (i : Nat) (we wk : WE) : SW := fun E ρ => match ρ[i]? with
  | some (.own (.lst ds)) => we ρ fun r => wk ρ fun s => match r.fz, s.d with
    | .val d, .int j => match ixN ds.length j with
      | some n => E.nx (ρ.set i (.own (.lst (ds.set n d))))
      | none => False
    | _, _ => False
  | _ => False
theorem ps_setI {k : Expr} {tpos : Pos} (hx : PE X (.Name x p1) (tVar i)) (he : PW X β e we) (hk : PW X β k wk)
    (ha : ∀ v, assign (.Subscript (.Name x p1) k tpos) X.env v = (do
      let ov ← holding [v] (eval (.Name x p1) X.env)
      let iv ← holding [v, ov] (eval k X.env)
      standAt tpos
      holding [v, ov, iv] (setItem ov iv v)
      release [v, ov, iv] []) := by intro _; rfl)
    (hs : swapsWithSole [.Subscript (.Name x p1) k tpos] e pos.line X.env = pure false := by rfl) (hw : swappedStores [.Subscript (.Name x p1) k tpos] e X.env = pure none := by rfl)
    (h1 : (assignEach [.Subscript (.Name x p1) k tpos] X.env).map (·.2) = [assign (.Subscript (.Name x p1) k tpos) X.env] := by rfl) :
    PSW X β (.Assign [.Subscript (.Name x p1) k tpos] e pos) (wSetI i we wk) := by
  refine ⟨fun A B ρ l q => ?_, imp_S (L2.ps_asg he.opnd (pg_sub hx hk.opnd set_list ha) hs hw h1) fun E σ H q => ?_⟩
  · unfold wSetI at q ⊢
    split at q
    · refine he.mono ρ _ _ (fun r q => hk.mono ρ _ _ (fun s q => ?_) q) q
      split at q
      · split at q
        · exact l.nx _ q
        · exact q
      · exact q
    · exact q
  · obtain ⟨F, Hf, ρ, WD, I, q, kk⟩ := q
    unfold wSetI at q
    split at q
    · rename_i ds hd
      refine ⟨F, Hf, ρ, I, he.mono ρ _ _ (fun r q F1 H1 v e1 I1 r1 => ?_) q⟩
      obtain ⟨b, q1, q2, q3, q4, q5⟩ := I1.own i _ hd
      refine ⟨.ref b, q1, F1, Hf, ρ, I1, hk.mono ρ _ _ (fun s q F2 H2 w e2 I2 r2 => ?_) q⟩
      have g2 := r2.rd I2
      rw [fz_d] at g2
      split at q
      · rename_i d j hr hj
        rw [hr] at r1
        rw [hj] at g2
        split at q
        · rename_i n hn
          obtain ⟨b', o1, o2, o3, o4, vs, g1, gz, g3⟩ := I2.own i _ hd
          rw [q1] at o1; cases o1
          refine ⟨b, vs, j, n, rfl, g2.int, g1, by rw [g3.length]; exact hn, ?_⟩
          refine kk.nx F2 _ σ _ (e1.trans e2) (I2.mutate (d' := .lst (ds.set n d)) hd q1 ⟨_, upd_same, ?_, g3.set n (Rep.mono e2 r1)⟩) q
          rw [List.length_set]; exact gz
        · exact q.elim
      · exact q.elim
    · exact q.elim
/-- name op= e -/
def wAug (i : Nat) (o : OD) (we : WE) : SW := fun E ρ => match ρ[i]? with
  | some (.val d) => we ρ fun r => o d r.d fun t => match t.slot with
    | some s => E.nx (ρ.set i s)
    | none => False
  | _ => False
theorem ps_aug {op : Operator} {o : OD} {pos' : Pos} (hN : X.N.Nodup) (hi : X.N[i]? = some x) (hx : Loc X.env.scope x) (ho : OpD X β (inplaceOp op) o) (he : PW X β e we) (hf : X.fn x = true ∨ X.env.scope.names.lookup x = some .local := by first | exact .inl rfl | exact .inr rfl | assumption) :
    PSW X β (.AugAssign (.Name x pos') op e pos) (wAug i o we) := by
  obtain ⟨rr, hr, hq⟩ := ho.ex
  refine ⟨fun A B ρ l q => ?_, imp_S (L2.ps_aug hN hi hx he.opnd hr hf) fun E σ H q => ?_⟩
  · unfold wAug at q ⊢
    split at q
    · refine he.mono ρ _ _ (fun r q => ho.mono _ _ _ _ (fun t q => ?_) q) q
      split at q
      · exact l.nx _ q
      · exact q
    · exact q
  · obtain ⟨F, Hf, ρ, WD, I, q, k⟩ := q
    unfold wAug at q
    split at q
    · rename_i d hd
      obtain ⟨v, e1, r⟩ := I.val i d hd
      refine ⟨v, e1, F, Hf, ρ, I, he.mono ρ _ _ (fun s q F1 H1 y e2 I1 r1 => ?_) q⟩
      have g := r1.rd I1
      rw [fz_d] at g
      refine hq F1 Hf ρ σ H1 _ _ v y _ I1 (.inl (r.mono e2)) g (ho.mono _ _ _ _ (fun t q F2 H2 z e3 I2 r2 => ?_) q)
      split at q
      · rename_i sl hs
        exact k.nx F2 _ _ H2 (e2.trans e3) (I2.setR i r2 hs) q
      · exact q.elim
    · exact q.elim
end
end WL
set_option Elab.async false
set_option linter.all false
set_option autoImplicit false
set_option maxRecDepth 100000
namespace WL
open PySem PySem.Spec L2

/-! ### a def by its body -/
def startW (n : Nat) (ds : List D) : WEnv := ds.map Slot.val ++ List.replicate (n - ds.length) Slot.un
section
variable {P : Program} {w : World} {K : PySem.W.Frag} {mg : Str → Option Value} {base : Heap} {β : Bx}
open Classical in
theorem rel_start {F H : Hp} {ds : List D} {vs : List V} {N : List Str} (e1 : Ex F H) (bf : ∀ a, β.foot a → F a = none) (bi : β.inv H) (rl : RepL K β F ds vs) :
    Rel K β F (fun a => if F a = none ∧ ¬ β.foot a then H a else none) (startW N.length ds) (L2.start N vs) H := by
  have hl := rl.length
  have nov : ∀ (i : Nat) d, (startW N.length ds)[i]? ≠ some (Slot.own d) := fun i d h => by
    unfold startW at h
    rw [List.getElem?_append] at h
    split at h
    · rw [List.getElem?_map] at h
      cases hx : ds[i]? with
      | none => rw [hx] at h; cases h
      | some y => rw [hx] at h; cases h
    · rw [List.getElem?_replicate] at h
      split at h <;> cases h
  refine ⟨e1, fun a o h => ?_, bi, fun a ha => ⟨bf a ha, ?_⟩, ?_, fun i d h => ?_, fun i d h => absurd h (nov i d), fun i j di dj a h => absurd h (nov i di)⟩
  · split at h
    · rename_i hc; exact ⟨h, hc.1⟩
    · cases h
  · rw [if_neg fun z => z.2 ha]
  · unfold startW L2.start
    simp [hl]
  · unfold startW at h
    unfold L2.start
    rw [List.getElem?_append] at h ⊢
    rw [List.length_map] at h ⊢
    rw [hl]
    split at h
    · rename_i hi
      rw [if_pos hi]
      rw [List.getElem?_map] at h ⊢
      cases hx : ds[i]? with
      | none => rw [hx] at h; cases h
      | some y =>
        rw [hx] at h; cases h
        obtain ⟨v, q1, q2⟩ := rl.get hx
        exact ⟨v, by rw [q1]; rfl, q2⟩
    · rw [List.getElem?_replicate] at h
      split at h <;> cases h
open Classical in
theorem fnW_of {x qual : Str} {st : Stmt} {f : Addr} {fd : FuncData} {N ps : List Str} {k : Nat} {g : Sx} {wb : SW} (Fu : Fun K x qual st f fd) (S : FnScope N ps (defScope st))
    (hb : ∀ (cdv : Value) (A : Around) (outer : List PySem.Env) (s : Shared) (H : Hp) (E : XK), Room k (A.deeper (PyProof.Rows.envOfC qual (defScope st) s.heap.objs.size f cdv)) → PBW (cxOf CX0 P w K mg base N qual (defScope st) f cdv A outer s H E).nox β (defBody st) wb)
    (hs : ∀ ds R, ds.length = ps.length → g.f ds R → wb { nx := fun _ => R .non, rt := R } (startW N.length ds)) : FnW P w K mg base β (k + 1) f fd ps g := by
  refine Fu.ok S (fun vs H Q E h => ?_) (fun cdv A outer s H vs Q E hr h => ⟨_, (hb cdv A outer s H E hr).run, ?_⟩)
  · obtain ⟨F, ds, _, _, _, rl, hl, _⟩ := h
    rw [rl.length, hl]
  · obtain ⟨F, ds, e1, bf, bi, rl, hl, q⟩ := h
    have I := rel_start (N := N) e1 bf bi rl
    refine ⟨F, _, _, _, I, hs ds _ hl q, ?_⟩
    have fin : ∀ F' ρ σ H' d v, Ex F F' → Rel K β F' (fun a => if F a = none ∧ ¬ β.foot a then H a else none) ρ σ H' → Rep K β F' d v →
        (∀ F' H' v, Ex F F' → Ex F' H' → FNew F F' H → ExB β H H' → β.inv H' → (∀ a, β.foot a → F' a = none) → Rep K β F' d v → Q v H') → Q v H' := fun F' ρ σ H' d v e I' r q => by
      refine q F' H' v e I'.fex (fun a o h => ?_) (fun a o nf h => ?_) I'.bx (fun a ha => (I'.bxF a ha).1) r
      · cases hF : F a with
        | some o' => rw [e a o' hF] at h; cases h; exact .inl rfl
        | none =>
          right
          cases hH : H a with
          | none => rfl
          | some o' =>
            exfalso
            by_cases nf : β.foot a
            · rw [(I'.bxF a nf).1] at h; cases h
            · have := (I'.hex a o' (by show (if F a = none ∧ ¬ β.foot a then H a else none) = some o'; rw [if_pos ⟨hF, nf⟩]; exact hH)).2
              rw [h] at this; cases this
      · cases hF : F a with
        | some o' =>
          have := e1 a o' hF
          rw [h] at this; cases this
          exact I'.fex a _ (e a _ hF)
        | none => exact (I'.hex a o (by show (if F a = none ∧ ¬ β.foot a then H a else none) = some o; rw [if_pos ⟨hF, nf⟩]; exact h)).1
    refine ⟨fun F' ρ σ H' e I' h => ?_, fun F' ρ σ H' d v e I' r h => fin F' ρ σ H' d v e I' r h, fun _ _ _ _ _ _ h => h.elim, fun _ _ _ _ _ _ h => h.elim⟩
    exact fin F' ρ σ H' .non .non e I' (by rw [Rep]) h
end

section
variable {X : Cx} {β : Bx} {a e : Expr} {wa we : WE} {pos : Pos}
/-- a text of the module -/
theorem pw_gstr {x : Str} {z : Str} {t : Tok} {l : List Nat} (hm : X.mg x = some (.str z t)) (h : z.cps.toList = l) (ok : okS l) (hg : Gl X x := by rfl) (hd : (x == ("__debug__" : Str)) = false := by decide) : PW X β (.Name x pos) (wC (.str l)) :=
  pw_c (pe_glob (v := .str z) hg hm ⟨t, rfl⟩ hd) fun F => by
    rw [Rep]
    exact ⟨by rw [← h], ok⟩
theorem pw_gint {x : Str} {i : Int} {t : Tok} (hm : X.mg x = some (.int i t)) (hg : Gl X x := by rfl) (hd : (x == ("__debug__" : Str)) = false := by decide) : PW X β (.Name x pos) (wC (.int i)) :=
  pw_c (pe_glob (v := .int i) hg hm ⟨t, rfl⟩ hd) fun F => by rw [Rep]

/-! xs.index(y), whole numbers -/
def fstIx (n : Int) : List Int → Nat → Option Nat
  | [], _ => none
  | m :: ms, i => if m = n then some i else fstIx n ms (i + 1)
theorem fstIx_some : ∀ {ms : List Int} {n : Int} {i j : Nat}, fstIx n ms i = some j → i ≤ j ∧ ms[j - i]? = some n ∧ ∀ k, k < j - i → ms[k]? ≠ some n
  | [], _, _, _, h => by cases h
  | m :: ms, n, i, j, h => by
    rw [fstIx] at h
    split at h
    · rename_i e
      cases h
      exact ⟨Nat.le_refl _, by rw [Nat.sub_self, e]; rfl, fun k hk => by omega⟩
    · rename_i e
      obtain ⟨h1, h2, h3⟩ := fstIx_some h
      have e2 : j - i = (j - (i + 1)) + 1 := by omega
      refine ⟨by omega, by rw [e2]; exact h2, fun k hk => ?_⟩
      cases k with
      | zero => intro z; exact e (Option.some.inj z)
      | succ k => exact h3 k (by omega)
def oIndex : MD := fun d ds P => match d, ds with
  | .lst xs, [.int n] => match intsOf xs with
    | some ns => match fstIx n ns 0 with
      | some j => P (.val (.int j))
      | none => False
    | none => False
  | _, _ => False
theorem m_index : MeD X β "list.index" oIndex := by
  refine ⟨fun d ds P P' k q => ?_, _, mt_index, fun F Hf ρ σ H d ds x xs Q I r rs q => ?_⟩
  · unfold oIndex at q ⊢
    split at q
    · split at q
      · split at q
        · exact k _ q
        · exact q
      · exact q
    · exact q
  · unfold oIndex at q
    split at q
    · obtain ⟨a, vs, rfl, sa, za, la⟩ := r.lst I
      obtain ⟨v, rfl, r2⟩ := rs.one
      split at q
      · rename_i n _ ns hn
        rw [intsOf_eq hn] at la
        have := rep_ints la
        subst this
        split at q
        · rename_i j hj
          obtain ⟨h1, h2, h3⟩ := fstIx_some hj
          rw [Nat.sub_zero] at h2 h3
          refine ⟨a, _, .int n, j, .int n, rfl, by rw [r2.int], .of sa, rfl, ?_, ?_, ?_, fun m z hm hz => ?_, q.int I⟩
          · rw [List.all_eq_true]
            intro y hy
            obtain ⟨i, _, rfl⟩ := List.mem_map.mp hy
            rfl
          · rw [List.getElem?_map, h2]; rfl
          · show (n == n) = true
            simp
          · rw [List.getElem?_map] at hz
            cases hx : ns[m]? with
            | none => rw [hx] at hz; cases hz
            | some i =>
              rw [hx] at hz; cases hz
              show (i == n) = false
              rw [beq_eq_false_iff_ne]
              intro e
              exact h3 m hm (by rw [hx, e])
        · exact q.elim
      · exact q.elim
    · exact q.elim

/-! s[::-1] -/
def wRev (we : WE) : WE := fun ρ P => we ρ fun r => match r.d with
  | .str x => P (.val (.str x.reverse))
  | .lst x => P (.own (.lst x.reverse))
  | .tup x => P (.val (.tup x.reverse))
  | _ => False
theorem RepL.rev {K : PySem.W.Frag} {F : Hp} : ∀ {ds : List D} {vs : List V}, RepL K β F ds vs → RepL K β F ds.reverse vs.reverse := by
  intro ds
  induction ds with
  | nil => intro vs h; rw [RepL] at h; subst h; exact RepL.nil
  | cons d ds ih =>
    intro vs h
    rw [RepL] at h
    obtain ⟨v, ws, rfl, h1, h2⟩ := h
    rw [List.reverse_cons, List.reverse_cons]
    exact (ih h2).append (RepL.cons h1 RepL.nil)
theorem rev_str (x : List Nat) (u : Tok) : Txt.sliceBy (mkS x) none none (-1, u) = mkS x.reverse := by
  apply TL.ext_tl
  show (Txt.sliceBy (mkS x) none none (-1, u)).cps.toList = x.reverse
  rw [PyProof.Rows.step_rev_list, mkS_len]
  apply List.ext_getElem?
  intro i
  rw [List.getElem?_map]
  by_cases hi : i < x.length
  · rw [List.getElem?_range hi, List.getElem?_reverse hi]
    show some ((mkS x).cps.getD (x.length - 1 - i) 0) = x[x.length - 1 - i]?
    have h2 : x.length - 1 - i < x.length := by omega
    rw [List.getElem?_eq_getElem h2]
    show some (x.toArray.getD (x.length - 1 - i) 0) = _
    rw [Array.getD_eq_getD_getElem?, List.getElem?_toArray, List.getElem?_eq_getElem h2]
    rfl
  · rw [List.getElem?_eq_none (by rw [List.length_range]; omega), List.getElem?_eq_none (by rw [List.length_reverse]; omega)]
    rfl
theorem pw_rev {k : Nat} {p1 p2 p3 : Pos} (he : PW X β e we) : PW X β (.Subscript e (.Slice none none (some (.UnaryOp .USub (.Constant (.int 1) k p1) p2)) p3) pos) (wRev we) := by
  refine ⟨fun ρ P P' k q => he.mono ρ _ _ (fun r q => ?_) q, ⟨fun pins s σ H Q J h => ?_⟩⟩
  · split at q <;> first | exact k _ q | exact q
  · obtain ⟨F, Hf, ρ, I, q⟩ := h
    let Q1 : VK := fun v H1 => (∃ x, v = .str (mkS x) ∧ okS x ∧ Q (.str (mkS x.reverse)) H1) ∨ ∃ p xs, v = .ref p ∧ H1 p = some (.lst xs) ∧ ∀ l, H1 l = none → Q (.ref l) (upd H1 l (.lst xs.reverse))
    let Q2 : VK := fun v H1 => Q1 v H1 ∨ ∃ p xs, v = .ref p ∧ SqT X.K H1 p xs ∧ ∀ l its, H1 l = none → Q (.ref l) (newTup H1 l its xs.reverse)
    have hw : tO X.K β we σ H Q2 := by
      refine ⟨F, Hf, ρ, I, he.mono ρ _ _ (fun r q F1 H1 v e1 I1 r1 => ?_) q⟩
      have g := r1.rd I1
      rw [fz_d] at g
      split at q
      · rename_i x hx
        rw [hx] at g
        obtain ⟨rfl, ok⟩ := g.str
        refine .inl (.inl ⟨x, rfl, ok, q F1 H1 _ e1 I1 (show Rep X.K β F1 (.str x.reverse) _ from ?_)⟩)
        rw [Rep]
        exact ⟨rfl, by rw [List.length_reverse]; exact ok.1, fun c hc => ok.2 c (List.mem_reverse.mp hc)⟩
      · rename_i ds hd
        rw [hd] at g
        obtain ⟨p, vs, rfl, sq, z, rl⟩ := g.lst I1
        refine .inl (.inr ⟨p, vs, rfl, sq, fun l hl => ?_⟩)
        obtain ⟨I2, r2⟩ := I1.newL hl (by rw [List.length_reverse]; exact z) rl.rev
        exact q F1 _ _ e1 I2 r2
      · rename_i ds hd
        rw [hd] at g
        obtain ⟨p, vs, rfl, sq, z, rl⟩ := g.tup I1
        refine .inr ⟨p, vs, rfl, sq, fun l its hl => ?_⟩
        obtain ⟨F2, e2, I2, r2⟩ := I1.newT (its := its) hl (by rw [List.length_reverse]; exact z) rl.rev
        exact q F2 _ _ (e1.trans e2) I2 r2
      · exact q.elim
    refine PyProof.Rows.Subscript_ (thn (he.opnd.run pins s σ H _ J hw) fun v s1 ⟨x, H1, J1, rx, q1⟩ => ?_)
    have hst : PO X (some (.UnaryOp .USub (.Constant (.int 1) k p1) p2)) (tPart (tUn (rU fun i => .int (-i)) (tC (.int 1)))) := po_some (pe_un un_neg pe_int)
    refine wpAny_Slice (thn (po_none.run pins s1 σ H1 (fun o H2 => o = none ∧ H2 = H1) J1 ⟨rfl, rfl⟩) fun vl s2 ⟨l, H2, J2, pl, el, e2⟩ => ?_)
    subst el e2
    refine thn (po_none.run pins s2 σ H2 (fun o H3 => o = none ∧ H3 = H2) J2 ⟨rfl, rfl⟩) fun vu s3 ⟨u, H3, J3, pu, eu, e3⟩ => ?_
    subst eu e3
    refine thn (hst.run pins s3 σ H3 (fun o H4 => o = some (-1) ∧ H4 = H3) J3 ⟨1, rfl, -1, rfl, rfl, rfl⟩) fun vs s4 ⟨o, H4, J4, ps, eo, e4⟩ => ?_
    subst eo e4
    have J5 : Inv X pins σ H4 { s4 with heap := s4.heap.push { cls := .type "slice", data := .fields #[vl, vu, vs] } } := J4.kept (t' := s4.toks) fun b ob q => Heap.get?_push_of_some _ q
    rcases q1 with (⟨y, rfl, ok, q1⟩ | ⟨p, xs, rfl, hp, q1⟩) | ⟨p, xs, rfl, hp, q1⟩
    · obtain ⟨t, rfl⟩ := rx
      cases pl
      cases pu
      cases ps with
      | int _ tk =>
        refine PyProof.Rows.tail_any (ops := [.str (mkS y) t, .ref s4.heap.objs.size]) (typeIs_str _ _ _) PySem.F.slot_str_getitem.lookup ?_ (by with_unfolding_all rfl)
        refine wpAny_getItem_str_slice (l := none) (u := none) (st := some (-1, tk)) ⟨_, Heap.get?_push_size _ rfl, rfl, rfl⟩ rfl ?_
        have e5 := rev_str y tk
        have hm : (sliceMade (mkS y) t none none (some (-1, tk))) = .str (mkS y.reverse) := by
          rw [← e5]
          rfl
        rw [hm]
        exact ⟨by rw [mkS_len, List.length_reverse]; exact ok.1, .str _, H4, J5.tok _, ⟨_, rfl⟩, q1⟩
    · cases rx
      obtain ⟨its, r, ht, hz⟩ := J5.list (SqL.of hp)
      refine PyProof.Rows.tail_any (ops := [.ref p, .ref s4.heap.objs.size]) ht.isList.typeIs (PySem.slot_list_getitem.lookup) ?_ (by with_unfolding_all rfl)
      refine wpAny_getItem_list_slice ht.isList (Heap.IsSliceOf.new _ vl vu vs) pl pu ps (by decide) ?_ (by rw [List.size_toArray, ← r.length]; exact hz)
      rw [PySem.W.krv_pick]
      refine ⟨.ref _, _, J5.laid (t' := s4.toks) (o := .lst xs.reverse) (fun b ob q => Heap.get?_push_of_some _ q) (Nat.le_refl _) ?_, rfl, q1 _ (J5.hok.fresh (Nat.le_refl _))⟩
      exact ⟨by rw [List.length_reverse]; exact hz, _, 0, r.reverse, Heap.get?_push_size _ rfl⟩
    · cases rx
      cases pl
      cases pu
      cases ps with
      | int _ tk =>
        obtain ⟨its, r, hT, hz⟩ := J5.tuple hp
        refine PyProof.Rows.tail_any (ops := [.ref p, .ref s4.heap.objs.size]) hT.typeIs PyProof.Rows.slot_tuple_getitem.lookup ?_ (by with_unfolding_all rfl)
        obtain ⟨J6, hf⟩ := lay_tup J5 r.reverse (by rw [List.length_reverse]; exact hz)
        exact getItem_tupRev hT (Heap.IsSliceOf.new _ _ _ _) ⟨.ref _, _, J6, rfl, q1 _ _ hf⟩ (by rw [← r.length]; exact hz)
end
end WL
set_option Elab.async false
set_option linter.all false
set_option autoImplicit false
set_option maxRecDepth 100000
namespace WL
open PySem PySem.Spec L2

theorem okS_dec {l : List Nat} (h : (l.all (fun c => decide (c < 128)) && decide (l.length ≤ 1000)) = true) : okS l := by
  rw [Bool.and_eq_true, List.all_eq_true] at h
  refine ⟨Nat.le_trans (of_decide_eq_true h.2) (by decide), fun c hc => of_decide_eq_true (h.1 c hc)⟩
/-- a def of the text that keeps its promise -/
def Cal (P : Program) (w : World) (K : PySem.W.Frag) (mg : Str → Option Value) (base : Heap) (C : Bx → Prop) (x : Str) (k : Nat) (ps : List Str) (s : Sx) : Prop :=
  ∃ f fd, mg x = some (.ref f) ∧ PySem.W.keepIn K (.ref f) = true ∧ Binds K fd ps [] ∧ ∀ β, C β → FnW P w K mg base β k f fd ps s
abbrev AnyB : Bx → Prop := fun _ => True
section
variable {X : Cx} {β : Bx} {C : Bx → Prop} {k : Nat} {ps : List Str} {g : Sx} {x : Str} {p pos : Pos} {e : Expr} {es : List Expr} {ws : WAs}
theorem pw_callC (c : Cal X.prog X.w X.K X.mg X.base C x k ps g) (hβ : C β) (hr : Room k X.A) (hs : PWL X β (e :: es) ws) (hg : Gl X x := by rfl) (hdb : (x == ("__debug__" : Str)) = false := by decide)
    (he : starEach (e :: es) X.env = (false, eval e X.env) :: starEach es X.env := by rfl) (hpl : (backTo pos (starEach es X.env)).any (·.1) = false := by rfl) : PW X β (.Call (.Name x p) (e :: es) [] pos) (wCall g ps.length ws) := by
  obtain ⟨f, fd, hm, hk, hb, F⟩ := c
  exact pw_call (F β hβ) hr hg hm hk hb hs hdb he hpl
theorem pw_callC0 (c : Cal X.prog X.w X.K X.mg X.base C x k ps g) (hβ : C β) (hr : Room k X.A) (hg : Gl X x := by rfl) (hdb : (x == ("__debug__" : Str)) = false := by decide) : PW X β (.Call (.Name x p) [] [] pos) (wCall g ps.length wNil) := by
  obtain ⟨f, fd, hm, hk, hb, F⟩ := c
  exact pw_call0 (F β hβ) hr hg hm hk hb hdb
end
section
variable {P : Program} {w : World} {K : PySem.W.Frag} {mg : Str → Option Value} {base : Heap}
theorem cal_of {x qual : Str} {st : Stmt} {f : Addr} {fd : FuncData} {N ps : List Str} {k : Nat} {g : Sx} {wb : SW} {C : Bx → Prop} (Fu : Fun K x qual st f fd) (hm : mg x = some (.ref f)) (S : FnScope N ps (defScope st))
    (hbi : ∀ (kV doc pm : Value) (an : Option Addr) (cdv ct : Value) (us : List Value), us.length = ps.length → bindArgs (PySem.W.fnOf x qual (defArgs st) (defBody st) (defScope st) .none kV doc pm an cdv ct) ⟨us, []⟩ = pure (ps.zip us))
    (hb : ∀ β, C β → ∀ (cdv : Value) (A : Around) (outer : List PySem.Env) (s : Shared) (H : Hp) (E : XK), Room k (A.deeper (PyProof.Rows.envOfC qual (defScope st) s.heap.objs.size f cdv)) → PBW (cxOf CX0 P w K mg base N qual (defScope st) f cdv A outer s H E).nox β (defBody st) wb)
    (hs : ∀ ds R, ds.length = ps.length → g.f ds R → wb { nx := fun _ => R .non, rt := R } (startW N.length ds)) : Cal P w K mg base C x (k + 1) ps g :=
  ⟨f, fd, hm, Fu.kp, Fu.binds hbi, fun β hβ => fnW_of Fu S (hb β hβ) hs⟩
theorem Cal.mono {C C' : Bx → Prop} {x : Str} {k k' : Nat} {ps : List Str} {g : Sx} (c : Cal P w K mg base C x k ps g) (h : k ≤ k') (hC : ∀ β, C' β → C β) : Cal P w K mg base C' x k' ps g := by
  obtain ⟨f, fd, h1, h2, h3, h4⟩ := c
  exact ⟨f, fd, h1, h2, h3, fun β hβ => (h4 β (hC β hβ)).mono h⟩
end

/-! ### the box of the laws that draw: cells, what is left of a number, the last number -/
def boxB (b c : Addr) : Bx where
  at_ := b
  foot := fun a => a = b ∨ a = c
  inv := fun H => ∃ (ns : List Int) (x y : Int), H b = some (.lst [.ref c, .int x, .int y]) ∧ H c = some (.lst (ns.map V.int)) ∧ 0 ≤ x ∧ 0 ≤ y ∧ b ≠ c
  loc := fun H H' h ⟨ns, x, y, h1, h2, h3⟩ => ⟨ns, x, y, by rw [h b (.inl rfl)]; exact h1, by rw [h c (.inr rfl)]; exact h2, h3⟩
  there := fun H ⟨ns, x, y, h1, h2, h3⟩ a ha z => by
    rcases ha with rfl | rfl
    · rw [h1] at z; cases z
    · rw [h2] at z; cases z
def IsBox (β : Bx) : Prop := ∃ b c, β = boxB b c
/-- what the raw promises of the box's own defs say -/
def keepB (b c : Addr) (H H' : Hp) : Prop := ∀ a o, a ≠ b → a ≠ c → H a = some o → H' a = some o
def spBox (K : PySem.W.Frag) : Sp := fun vs H Q _ => ∃ (a : Addr) (ns : List Int), vs = [.ref a] ∧ SqL K H a (ns.map V.int) ∧
  ∀ H' b c, Same H H' → H b = none → H c = none → (boxB b c).inv H' → Q (.ref b) H'
def spLoad : Sp := fun vs H Q _ => ∃ b c, vs = [.ref b] ∧ (boxB b c).inv H ∧ ∀ H' i, keepB b c H H' → (boxB b c).inv H' → 0 ≤ i → Q (.int i) H'
def spDraw : Sp := fun vs H Q _ => ∃ b c n, vs = [.ref b, .int n] ∧ 0 < n ∧ n < 1073741824 ∧ (boxB b c).inv H ∧ ∀ H' i, keepB b c H H' → (boxB b c).inv H' → 0 ≤ i → i < n → Q (.int i) H'
/-- a draw, over values -/
def sDraw : Sx := .rel (fun ds => ∃ n : Int, ds = [.box, .int n] ∧ 0 < n ∧ n < 1073741824) (fun ds d => ∃ n i : Int, ds = [.box, .int n] ∧ 0 ≤ i ∧ i < n ∧ d = .int i)
section
variable {P : Program} {w : World} {K : PySem.W.Frag} {mg : Str → Option Value} {base : Heap}
theorem cal_draw {k : Nat} {f : Addr} {fd : FuncData} {x : Str} (hm : mg x = some (.ref f)) (hk : PySem.W.keepIn K (.ref f) = true) (hb : Binds K fd ["box", "many"] []) (G : FnOk P w K mg base CX0 k f fd ["box", "many"] spDraw) : Cal P w K mg base IsBox x k ["box", "many"] sDraw := by
  refine ⟨f, fd, hm, hk, hb, fun β hβ => ?_⟩
  obtain ⟨b, c, rfl⟩ := hβ
  refine G.imp fun vs H Q E h => ?_
  obtain ⟨F, ds, e1, bf, bi, rl, hl, ⟨n, rfl, h0, h1⟩, q⟩ := h
  rw [RepL] at rl
  obtain ⟨v, ws, rfl, r1, rl⟩ := rl
  rw [RepL] at rl
  obtain ⟨u, ws, rfl, r2, rl⟩ := rl
  rw [RepL] at rl
  subst rl
  rw [Rep] at r1
  rw [Rep] at r2
  subst r1 r2
  refine ⟨b, c, n, rfl, h0, h1, bi, fun H' i kb bi' i0 i1 => ?_⟩
  refine q (.int i) ⟨n, i, rfl, i0, i1, rfl⟩ F H' _ (Ex.refl F) (fun a o h => ?_) (fun a o h => .inl h) (fun a o nf h => kb a o (fun z => nf (.inl z)) (fun z => nf (.inr z)) h) bi' bf (by rw [Rep])
  refine kb a o (fun z => ?_) (fun z => ?_) (e1 a o h)
  · rw [bf a (.inl z)] at h; cases h
  · rw [bf a (.inr z)] at h; cases h
end

theorem pb_as {X : Cx} {β : Bx} {st : List Stmt} {w w' : SW} (h : PBW X β st w) (e : w = w') : PBW X β st w' := e ▸ h
/-! ### the law's own body: the box is made, the rest draws from it -/
def spLaw (K : PySem.W.Frag) : Sp := fun vs H Q _ => ∃ (a : Addr) (ns : List Int), vs = [.ref a] ∧ SqL K H a (ns.map V.int) ∧ ns.length ≤ 63 ∧ ∀ H', Q (.bl true) H'
def tSx (K : PySem.W.Frag) (C : Bx → Prop) (w : SW) : TS := fun E σ H => ∃ β, C β ∧ tS K β w E σ H
theorem pss_x {X : Cx} {C : Bx → Prop} {st : List Stmt} {w : SW} (h : ∀ β, C β → PBW X β st w) : PSs X st (tSx X.K C w) := ⟨fun pins s σ H E I ⟨β, hβ, q⟩ => (h β hβ).run.run pins s σ H E I q⟩
open Classical in
theorem box_go {K : PySem.W.Frag} {σ : L2.St} {H : Hp} {Q : VK} {E0 : XK} {w : SW} {a : Addr} {ns : List Int} {n : Nat} (hσ : σ.length = n) (h1 : 1 < n) (ha : SqL K H a (ns.map V.int)) (hq : ∀ H', Q (.bl true) H')
    (hw : w { nx := fun _ => False, rt := fun d => d = .bl true } ((List.replicate n Slot.un).set 1 (.val .box))) :
    spBox K [.ref a] H (fun v H1 => tSx K IsBox w { nx := fun _ H' => Q .non H', rt := Q } (σ.set 1 (some v)) H1) E0 := by
  refine ⟨a, ns, rfl, ha, fun H' b c sm hb hc inv => ?_⟩
  refine ⟨boxB b c, ⟨b, c, rfl⟩, (fun _ => none : Hp), (fun _ => none : Hp), _, _, ?_, hw, EndsOk.mk (fun _ _ _ _ _ _ h => h.elim) (fun F' ρ σ' H'' d v _ _ r h => ?_) (fun _ _ _ _ _ _ h => h.elim) (fun _ _ _ _ _ _ h => h.elim)⟩
  · refine ⟨fun _ _ h => (nomatch h), fun _ _ h => (nomatch h), inv, fun _ _ => ⟨rfl, rfl⟩, ?_, fun i d h => ?_, fun i d h => ?_, fun i j di dj _ h => ?_⟩
    · rw [List.length_set, List.length_set, List.length_replicate, hσ]
    · rcases set_get h with ⟨rfl, e, hl⟩ | ⟨ne, h⟩
      · cases e
        exact ⟨.ref b, List.getElem?_set_self (by rw [hσ]; exact h1), by rw [Rep]; rfl⟩
      · rw [List.getElem?_replicate] at h
        split at h <;> cases h
    · rcases set_get h with ⟨rfl, e, hl⟩ | ⟨ne, h⟩
      · cases e
      · rw [List.getElem?_replicate] at h
        split at h <;> cases h
    · rcases set_get h with ⟨rfl, e, hl⟩ | ⟨ne, h⟩
      · cases e
      · rw [List.getElem?_replicate] at h
        split at h <;> cases h
  · cases h
    rw [Rep] at r
    subst r
    exact hq H''
end WL
set_option Elab.async false
set_option linter.all false
set_option autoImplicit false
set_option maxRecDepth 100000
namespace WL
open PySem PySem.Spec L2
section
variable {X : Cx} {β : Bx}
/-! ### max, min of a tuple of whole numbers -/
theorem dpAll_ints {K : PySem.W.Frag} {H : Hp} : ∀ ns : List Int, DpAll K H (ns.map V.int) (ns.map PyData.int)
  | [] => .nil
  | n :: ns => .cons (.int n) (dpAll_ints ns)
theorem depth_ints : ∀ ns : List Int, PyData.depthAll (ns.map PyData.int) = 0
  | [] => rfl
  | n :: ns => by rw [List.map_cons, PyData.depthAll, depth_ints ns]; rfl
theorem alike_ints (ns : List Int) : PySem.W.AlikeAll (ns.map PyData.int) := by
  refine ⟨fun x hx y hy => ?_, fun x hx e => ?_⟩
  · obtain ⟨i, _, rfl⟩ := List.mem_map.mp hx
    obtain ⟨j, _, rfl⟩ := List.mem_map.mp hy
    rfl
  · obtain ⟨i, _, rfl⟩ := List.mem_map.mp hx
    cases e
theorem cr_maxT (hc : X.calm = true) (hu : X.A.units + 64 < cLine) : CallR X (.builtin "max") (fun vs H Q => ∃ (a : Addr) (n : Int) (ns : List Int), vs = [V.ref a] ∧ SqT X.K H a ((n :: ns).map V.int) ∧ Q (.int (ns.foldl max n)) H) := by
  intro pins s σ H vs us Q I r h
  obtain ⟨a, n, ns, rfl, hs, q⟩ := h
  obtain ⟨its, rv, pl, hz⟩ := I.tuple hs
  rw [Vals.ref1 r]
  obtain ⟨as, hr⟩ := Dp.readsAll I ((n :: ns).map PyData.int) ((n :: ns).map V.int) its (dpAll_ints (n :: ns)) rv
  refine PySem.W.max_tuple_data (vs := its.toArray) (x := .int n) (xs := ns.map PyData.int) (I.ok.hd hc) pl hr (alike_ints (n :: ns)) (by have := depth_ints (n :: ns); rw [List.map_cons] at this; rw [this]; omega) fun i v h' tk bs _ hv k => ?_
  rw [PySem.W.maxD_ints] at hv
  cases hv
  exact ⟨.int _, H, I.kept k, ⟨_, rfl⟩, q⟩
theorem cr_minT (hc : X.calm = true) (hu : X.A.units + 64 < cLine) : CallR X (.builtin "min") (fun vs H Q => ∃ (a : Addr) (n : Int) (ns : List Int), vs = [V.ref a] ∧ SqT X.K H a ((n :: ns).map V.int) ∧ Q (.int (ns.foldl min n)) H) := by
  intro pins s σ H vs us Q I r h
  obtain ⟨a, n, ns, rfl, hs, q⟩ := h
  obtain ⟨its, rv, pl, hz⟩ := I.tuple hs
  rw [Vals.ref1 r]
  obtain ⟨as, hr⟩ := Dp.readsAll I ((n :: ns).map PyData.int) ((n :: ns).map V.int) its (dpAll_ints (n :: ns)) rv
  refine PySem.W.min_tuple_data (vs := its.toArray) (x := .int n) (xs := ns.map PyData.int) (I.ok.hd hc) pl hr (alike_ints (n :: ns)) (by have := depth_ints (n :: ns); rw [List.map_cons] at this; rw [this]; omega) fun i v h' tk bs _ hv k => ?_
  rw [PySem.W.minD_ints] at hv
  cases hv
  exact ⟨.int _, H, I.kept k, ⟨_, rfl⟩, q⟩
/-- of a list or a tuple of whole numbers -/
def oIntsA (f : List Int → Option D) : CD := fun ds P => match ds with
  | [.tup xs] => match intsOf xs with
    | some ns => match f ns with
      | some d => P (.val d)
      | none => False
    | none => False
  | _ => oInts f ds P
theorem oIntsA_mono {f : List Int → Option D} (ds : List D) (P P' : R → Prop) (k : ∀ r, P r → P' r) (q : oIntsA f ds P) : oIntsA f ds P' := by
  unfold oIntsA at q ⊢
  split at q
  · split at q
    · split at q
      · exact k _ q
      · exact q
    · exact q
  · exact oInts_mono _ _ _ k q
theorem oIntsA_go {f : List Int → Option D} {K : PySem.W.Frag} {F Hf H : Hp} {ρ : WEnv} {σ : L2.St} {Q : VK} {ds : List D} {xs : List V} (I : Rel K β F Hf ρ σ H) (r : RepOs K β F H ds xs) (q : oIntsA f ds (Kt K β F Hf ρ σ Q)) :
    ∃ a ns d, xs = [.ref a] ∧ (SqL K H a (ns.map V.int) ∨ SqT K H a (ns.map V.int)) ∧ f ns = some d ∧ Kt K β F Hf ρ σ Q (.val d) := by
  unfold oIntsA at q
  split at q
  · obtain ⟨v, rfl, r1⟩ := r.one
    obtain ⟨a, vs, rfl, sa, za, la⟩ := r1.tup I
    split at q
    · rename_i ns hn
      split at q
      · rename_i d hd
        rw [intsOf_eq hn] at la
        have := rep_ints la
        subst this
        exact ⟨a, ns, d, rfl, .inr sa, hd, q⟩
      · exact q.elim
    · exact q.elim
  · obtain ⟨a, ns, d, h1, h2, h3, h4⟩ := oInts_go I r q
    exact ⟨a, ns, d, h1, .inl h2, h3, h4⟩
abbrev oMaxA : CD := oIntsA fun ns => optInt (maxI ns)
abbrev oMinA : CD := oIntsA fun ns => optInt (minI ns)
theorem c_maxA (hc : X.calm = true) (hu : X.A.units + 64 < cLine) : CaD X β (.builtin "max") oMaxA := by
  refine ⟨oIntsA_mono, _, (cr_max hc).or (cr_maxT hc hu), fun F Hf ρ σ H ds xs Q I r q => ?_⟩
  obtain ⟨a, ns, d, rfl, h1, h2, h3⟩ := oIntsA_go I r q
  cases ns with
  | nil => cases h2
  | cons n ns =>
    rcases h1 with h1 | h1
    · refine .inl ⟨a, n :: ns, rfl, h1, Nat.succ_pos _, fun m hm hl => ?_⟩
      rw [maxI_of hm hl] at h2
      cases h2
      exact h3.int I
    · refine .inr ⟨a, n, ns, rfl, h1, ?_⟩
      cases h2
      exact h3.int I
theorem c_minA (hc : X.calm = true) (hu : X.A.units + 64 < cLine) : CaD X β (.builtin "min") oMinA := by
  refine ⟨oIntsA_mono, _, (cr_min hc).or (cr_minT hc hu), fun F Hf ρ σ H ds xs Q I r q => ?_⟩
  obtain ⟨a, ns, d, rfl, h1, h2, h3⟩ := oIntsA_go I r q
  cases ns with
  | nil => cases h2
  | cons n ns =>
    rcases h1 with h1 | h1
    · refine .inl ⟨a, n :: ns, rfl, h1, Nat.succ_pos _, fun m hm hl => ?_⟩
      rw [minI_of hm hl] at h2
      cases h2
      exact h3.int I
    · refine .inr ⟨a, n, ns, rfl, h1, ?_⟩
      cases h2
      exact h3.int I

/-! ### t.index(y), whole numbers -/
theorem mt_tupIndexI : MtR X "tuple.index" (fun x xs H Q => ∃ p, ∃ ns : List Int, ∃ n j, x = .ref p ∧ xs = [.int n] ∧ SqT X.K H p (ns.map V.int) ∧ ns[j]? = some n ∧ (∀ m, m < j → ns[m]? ≠ some n) ∧ Q (.int (j : Nat)) H) := by
  intro pins s σ H x xs v us Q I rx rs h
  obtain ⟨p, ns, n, j, rfl, rfl, hq, hy, hno, q⟩ := h
  cases rx
  obtain ⟨u, rfl, t, rfl⟩ := vals1 rs
  obtain ⟨its, r, ⟨⟨cls, dd, dt, sl⟩, ho, hc, z, hd⟩, _⟩ := I.tuple hq
  have hc : cls = .type "tuple" := hc
  have hd : dt = .seq its.toArray z := hd
  subst hc hd
  have hlen := r.length
  rw [List.length_map] at hlen
  have at1 : ∀ (m : Nat) (hm : m < its.toArray.size), ∃ i t', ns[m]? = some i ∧ its.toArray[m] = Value.int i t' := fun m hm => by
    rw [List.size_toArray] at hm
    obtain ⟨w, hw, t', hw'⟩ := r.get (i := m) (x := .int (ns[m]'(by omega))) (by rw [List.getElem?_map, List.getElem?_eq_getElem (by omega)]; rfl)
    refine ⟨_, t', List.getElem?_eq_getElem (by omega), ?_⟩
    rw [List.getElem?_eq_getElem hm] at hw
    rw [List.getElem_toArray, Option.some.inj hw, hw']
  have hj : j < its.toArray.size := by rw [List.size_toArray, ← hlen]; exact (List.getElem?_eq_some_iff.mp hy).1
  refine call_meets PySem.F.slot_tuple_index ⟨_, ho, rfl⟩ PySem.F.entry_tuple_index (PySem.F.args_tuple_index_2 _ _)
    (TI.tuple_indexAt p its.toArray z dd sl (.int n t) (eqU (.int n)) j hj ?_ fun m hm hmj => ?_) ⟨ho, fun w hw => mem_eqAt (x := .int n) ⟨t, rfl⟩ rfl r ?_ w (by simpa using hw), ⟨.int (j : Nat), H, I.tok _, ⟨_, rfl⟩, q⟩⟩
  · obtain ⟨i, t', h1, h2⟩ := at1 j hj
    rw [hy] at h1
    rw [h2, ← Option.some.inj h1]
    exact beq_self_eq_true n
  · obtain ⟨i, t', h1, h2⟩ := at1 m hm
    rw [h2]
    exact beq_eq_false_iff_ne.mpr fun e => hno m hmj (by rw [h1, e])
  · rw [List.all_eq_true]
    intro y hy
    obtain ⟨i, _, rfl⟩ := List.mem_map.mp hy
    rfl
def oIndexT : MD := fun d ds P => match d, ds with
  | .tup xs, [.int n] => match intsOf xs with
    | some ns => match fstIx n ns 0 with
      | some j => P (.val (.int j))
      | none => False
    | none => False
  | _, _ => False
theorem m_indexT : MeD X β "tuple.index" oIndexT := by
  refine ⟨fun d ds P P' k q => ?_, _, mt_tupIndexI, fun F Hf ρ σ H d ds x xs Q I r rs q => ?_⟩
  · unfold oIndexT at q ⊢
    split at q
    · split at q
      · split at q
        · exact k _ q
        · exact q
      · exact q
    · exact q
  · unfold oIndexT at q
    split at q
    · obtain ⟨a, vs, rfl, sa, za, la⟩ := r.tup I
      obtain ⟨v, rfl, r2⟩ := rs.one
      split at q
      · rename_i n _ ns hn
        rw [intsOf_eq hn] at la
        have := rep_ints la
        subst this
        split at q
        · rename_i j hj
          obtain ⟨h1, h2, h3⟩ := fstIx_some hj
          exact ⟨a, ns, n, j, rfl, by rw [r2.int], sa, h2, h3, q.int I⟩
        · exact q.elim
      · exact q.elim
    · exact q.elim
end
end WL
set_option Elab.async false
set_option linter.all false
set_option autoImplicit false
set_option maxRecDepth 100000
namespace WL
open PySem PySem.Spec L2

/-! ### meaning: what a def over values says, from outside -/
/-- arguments of a kind, under a condition, one answer -/
def Sx.of {α : Type} (args : α → List D) (pre : α → Prop) (g : α → D) : Sx := ⟨fun ds P => ∃ a, ds = args a ∧ pre a ∧ P (g a), fun ds P P' k ⟨a, h1, h2, h3⟩ => ⟨a, h1, h2, k _ h3⟩⟩
/-- .. some answer of a kind -/
def Sx.some {α : Type} (args : α → List D) (pre : α → Prop) (post : α → D → Prop) : Sx := ⟨fun ds P => ∃ a, ds = args a ∧ pre a ∧ ∀ d, post a d → P d, fun ds P P' k ⟨a, h1, h2, h3⟩ => ⟨a, h1, h2, fun d h => k d (h3 d h)⟩⟩

section
variable {t : Tgt} {body : SW} {E : WEnds} {ρ : WEnv} {wt : WT} {we : WE}
theorem forL_ind {ds : List D} (Inv : Nat → WEnv → Prop) (h0 : Inv 0 ρ)
    (hs : ∀ i d ρ (K : WEnv → Prop), ds[i]? = some d → Inv i ρ → (∀ ρ', Inv (i + 1) ρ' → K ρ') → ∃ ρ', bindT t d ρ = some ρ' ∧ body { nx := K, ct := K, bk := E.nx, rt := E.rt } ρ') (hd : ∀ ρ, Inv ds.length ρ → E.nx ρ) : wForL t body E ds ρ := by
  have key : ∀ (k i : Nat) (ρ : WEnv), i + k = ds.length → Inv i ρ → wForL t body E (ds.drop i) ρ := by
    intro k
    induction k with
    | zero =>
      intro i ρ h1 h2
      have : i = ds.length := by omega
      subst this
      rw [List.drop_length, wForL]
      exact hd ρ h2
    | succ k ih =>
      intro i ρ h1 h2
      have hi : i < ds.length := by omega
      rw [List.drop_eq_getElem_cons hi, wForL]
      obtain ⟨ρ', e, q⟩ := hs i ds[i] ρ _ (List.getElem?_eq_getElem hi) h2 (fun ρ' h => ih (i + 1) ρ' (by omega) h)
      rw [e]
      exact q
  have := key ds.length 0 ρ (by omega) h0
  rwa [List.drop_zero] at this
theorem rngL_get (lo : Int) (n i : Nat) : (rngL lo n)[i]? = if i < n then some (.int (lo + (i : Int))) else none := by
  rw [rngL, List.getElem?_map]
  split
  · rename_i h
    rw [List.getElem?_range h]; rfl
  · rename_i h
    rw [List.getElem?_eq_none (by rw [List.length_range]; omega)]; rfl
theorem rngL_len (lo : Int) (n : Nat) : (rngL lo n).length = n := by rw [rngL, List.length_map, List.length_range]
theorem rngD_get (lo : Int) (n i : Nat) : (rngD lo n)[i]? = if i < n then some (.int (lo - (i : Int))) else none := by
  rw [rngD, List.getElem?_map]
  split
  · rename_i h
    rw [List.getElem?_range h]; rfl
  · rename_i h
    rw [List.getElem?_eq_none (by rw [List.length_range]; omega)]; rfl
theorem rngD_len (lo : Int) (n : Nat) : (rngD lo n).length = n := by rw [rngD, List.length_map, List.length_range]
theorem forR {j : Nat} {lo : Int} {n : Nat} (Inv : Nat → WEnv → Prop) (h0 : Inv 0 ρ)
    (hs : ∀ (i : Nat) ρ (K : WEnv → Prop), i < n → Inv i ρ → (∀ ρ', Inv (i + 1) ρ' → K ρ') → body { nx := K, ct := K, bk := E.nx, rt := E.rt } (ρ.set j (.val (.int (lo + (i : Int)))))) (hd : ∀ ρ, Inv n ρ → E.nx ρ) : wForL (.one j) body E (rngL lo n) ρ := by
  refine forL_ind Inv h0 (fun i d ρ K hi hI hK => ?_) (fun ρ h => hd ρ (by rwa [rngL_len] at h))
  rw [rngL_get] at hi
  split at hi
  · rename_i h
    cases hi
    exact ⟨_, rfl, hs i ρ K h hI hK⟩
  · cases hi
theorem forD {j : Nat} {lo : Int} {n : Nat} (Inv : Nat → WEnv → Prop) (h0 : Inv 0 ρ)
    (hs : ∀ (i : Nat) ρ (K : WEnv → Prop), i < n → Inv i ρ → (∀ ρ', Inv (i + 1) ρ' → K ρ') → body { nx := K, ct := K, bk := E.nx, rt := E.rt } (ρ.set j (.val (.int (lo - (i : Int)))))) (hd : ∀ ρ, Inv n ρ → E.nx ρ) : wForL (.one j) body E (rngD lo n) ρ := by
  refine forL_ind Inv h0 (fun i d ρ K hi hI hK => ?_) (fun ρ h => hd ρ (by rwa [rngD_len] at h))
  rw [rngD_get] at hi
  split at hi
  · rename_i h
    cases hi
    exact ⟨_, rfl, hs i ρ K h hI hK⟩
  · cases hi
/-- over the images of a list -/
theorem forM {α : Type} {f : α → D} {l : List α} (Inv : Nat → WEnv → Prop) (h0 : Inv 0 ρ)
    (hs : ∀ (i : Nat) a ρ (K : WEnv → Prop), l[i]? = some a → Inv i ρ → (∀ ρ', Inv (i + 1) ρ' → K ρ') → ∃ ρ', bindT t (f a) ρ = some ρ' ∧ body { nx := K, ct := K, bk := E.nx, rt := E.rt } ρ') (hd : ∀ ρ, Inv l.length ρ → E.nx ρ) : wForL t body E (l.map f) ρ := by
  refine forL_ind Inv h0 (fun i d ρ K hi hI hK => ?_) (fun ρ h => hd ρ (by rwa [List.length_map] at h))
  rw [List.getElem?_map] at hi
  cases h : l[i]? with
  | none => rw [h] at hi; cases hi
  | some a =>
    rw [h] at hi; cases hi
    exact hs i a ρ K h hI hK
theorem while_ind (Inv : WEnv → Prop) (μ : WEnv → Nat) (h0 : Inv ρ)
    (hs : ∀ ρ (K : WEnv → Prop), Inv ρ → (∀ ρ', Inv ρ' → μ ρ' < μ ρ → K ρ') → wt ρ fun b => ifP b (body { nx := K, ct := K, bk := E.nx, rt := E.rt } ρ) (E.nx ρ)) : wWhile wt body E ρ := by
  have key : ∀ (n : Nat) (ρ : WEnv), Inv ρ → μ ρ < n → wWhileN wt body E n ρ := by
    intro n
    induction n with
    | zero => intro ρ _ h; omega
    | succ n ih =>
      intro ρ h1 h2
      rw [wWhileN]
      exact hs ρ _ h1 fun ρ' h3 h4 => ih ρ' h3 (by omega)
  exact ⟨μ ρ + 1, key _ ρ h0 (Nat.lt_succ_self _)⟩

/-! comprehensions -/
theorem lc_gen {ds : List D} {f : Nat → D} {p : Nat → Bool} : ∀ (k i : Nat) (acc : List D) {Q : List D → Prop}, i + k = ds.length →
    (∀ i d, ds[i]? = some d → ∃ ρ', bindT t d ρ = some ρ' ∧ (∀ Q : Bool → Prop, Q (p i) → wt ρ' Q) ∧ (p i = true → ∀ Q : R → Prop, (∀ r, r.fz = .val (f i) → Q r) → we ρ' Q)) →
    Q (acc ++ (((List.range k).map (i + ·)).filter p).map f) → wLcL t wt we ρ (ds.drop i) acc Q := by
  intro k
  induction k with
  | zero =>
    intro i acc Q h1 hs q
    rw [List.drop_eq_nil_of_le (by omega), wLcL]
    simpa using q
  | succ k ih =>
    intro i acc Q h1 hs q
    have hi : i < ds.length := by omega
    rw [List.drop_eq_getElem_cons hi, wLcL]
    obtain ⟨ρ', e, ht, he⟩ := hs i ds[i] (List.getElem?_eq_getElem hi)
    rw [e]
    have er : (List.range (k + 1)).map (i + ·) = i :: (List.range k).map (i + 1 + ·) := by
      rw [List.range_succ_eq_map, List.map_cons, List.map_map]
      congr 1
      apply List.map_congr_left
      intro a _
      show i + (a + 1) = i + 1 + a
      omega
    rw [er] at q
    refine ht _ ⟨fun hp => he hp _ fun r hr => ?_, fun hp => ?_⟩
    · rw [hr]
      refine ih (i + 1) _ (by omega) hs ?_
      rw [List.filter_cons, if_pos hp, List.map_cons] at q
      rw [List.append_assoc, List.singleton_append]
      exact q
    · refine ih (i + 1) _ (by omega) hs ?_
      rw [List.filter_cons, if_neg (by rw [hp]; exact Bool.false_ne_true)] at q
      exact q
/-- over a range, with a test -/
theorem lc_rngF {j : Nat} {lo : Int} {n : Nat} {Q : List D → Prop} (f : Nat → D) (p : Nat → Bool)
    (hs : ∀ i : Nat, i < n → (∀ Q : Bool → Prop, Q (p i) → wt (ρ.set j (.val (.int (lo + (i : Int))))) Q) ∧ (p i = true → ∀ Q : R → Prop, (∀ r, r.fz = .val (f i) → Q r) → we (ρ.set j (.val (.int (lo + (i : Int))))) Q))
    (q : Q (((List.range n).filter p).map f)) : wLcL (.one j) wt we ρ (rngL lo n) [] Q := by
  have := lc_gen (t := .one j) (ds := rngL lo n) (ρ := ρ) (wt := wt) (we := we) (f := f) (p := p) n 0 [] (Q := Q) (by rw [rngL_len]; omega) (fun i d hi => ?_) (by simpa using q)
  · rwa [List.drop_zero] at this
  · rw [rngL_get] at hi
    split at hi
    · rename_i h
      cases hi
      exact ⟨_, rfl, hs i h⟩
    · cases hi
theorem lc_rng {j : Nat} {lo : Int} {n : Nat} {Q : List D → Prop} (f : Nat → D)
    (hs : ∀ i : Nat, i < n → ∀ Q : R → Prop, (∀ r, r.fz = .val (f i) → Q r) → we (ρ.set j (.val (.int (lo + (i : Int))))) Q)
    (q : Q ((List.range n).map f)) : wLcL (.one j) wYes we ρ (rngL lo n) [] Q :=
  lc_rngF f (fun _ => true) (fun i hi => ⟨fun Q q => q, fun _ => hs i hi⟩) (by rw [List.filter_eq_self.mpr fun _ _ => rfl]; exact q)
/-- over the images of a list -/
theorem lc_mapF {α : Type} {g : α → D} {l : List α} {Q : List D → Prop} (f : α → D) (p : α → Bool)
    (hs : ∀ a ∈ l, ∃ ρ', bindT t (g a) ρ = some ρ' ∧ (∀ Q : Bool → Prop, Q (p a) → wt ρ' Q) ∧ (p a = true → ∀ Q : R → Prop, (∀ r, r.fz = .val (f a) → Q r) → we ρ' Q))
    (q : Q ((l.filter p).map f)) : wLcL t wt we ρ (l.map g) [] Q := by
  have key : ∀ (m : List α) (acc : List D), (∀ a ∈ m, a ∈ l) → Q (acc ++ (m.filter p).map f) → wLcL t wt we ρ (m.map g) acc Q := by
    intro m
    induction m with
    | nil => intro acc _ q; rw [List.map_nil, wLcL]; simpa using q
    | cons a m ih =>
      intro acc hm q
      rw [List.map_cons, wLcL]
      obtain ⟨ρ', e, ht, he⟩ := hs a (hm a List.mem_cons_self)
      rw [e]
      refine ht _ ⟨fun hp => he hp _ fun r hr => ?_, fun hp => ?_⟩
      · rw [hr]
        refine ih _ (fun b hb => hm b (List.mem_cons_of_mem _ hb)) ?_
        rw [List.filter_cons, if_pos hp, List.map_cons] at q
        rw [List.append_assoc, List.singleton_append]
        exact q
      · refine ih _ (fun b hb => hm b (List.mem_cons_of_mem _ hb)) ?_
        rw [List.filter_cons, if_neg (by rw [hp]; exact Bool.false_ne_true)] at q
        exact q
  exact key l [] (fun _ h => h) (by simpa using q)
theorem lc_map {α : Type} {g : α → D} {l : List α} {Q : List D → Prop} (f : α → D)
    (hs : ∀ a ∈ l, ∃ ρ', bindT t (g a) ρ = some ρ' ∧ ∀ Q : R → Prop, (∀ r, r.fz = .val (f a) → Q r) → we ρ' Q)
    (q : Q (l.map f)) : wLcL t wYes we ρ (l.map g) [] Q :=
  lc_mapF f (fun _ => true) (fun a ha => let ⟨ρ', e, h⟩ := hs a ha; ⟨ρ', e, fun Q q => q, fun _ => h⟩) (by rw [List.filter_eq_self.mpr fun _ _ => rfl]; exact q)
/-- draws: over a range, each item of a kind -/
theorem lc_some {j : Nat} {lo : Int} {n : Nat} {Q : List D → Prop} {α : Type} (g : α → D) (ok : α → Prop)
    (hs : ∀ i : Nat, i < n → ∀ Q : R → Prop, (∀ a r, ok a → r.fz = .val (g a) → Q r) → we (ρ.set j (.val (.int (lo + (i : Int))))) Q)
    (q : ∀ l : List α, l.length = n → (∀ a ∈ l, ok a) → Q (l.map g)) : wLcL (.one j) wYes we ρ (rngL lo n) [] Q := by
  have key : ∀ (k i : Nat) (acc : List α), i + k = n → acc.length = i → (∀ a ∈ acc, ok a) → wLcL (.one j) wYes we ρ ((rngL lo n).drop i) (acc.map g) Q := by
    intro k
    induction k with
    | zero =>
      intro i acc h1 h2 h3
      rw [List.drop_eq_nil_of_le (by rw [rngL_len]; omega), wLcL]
      exact q acc (by omega) h3
    | succ k ih =>
      intro i acc h1 h2 h3
      have hi : i < (rngL lo n).length := by rw [rngL_len]; omega
      rw [List.drop_eq_getElem_cons hi, wLcL]
      have hg : (rngL lo n)[i] = .int (lo + (i : Int)) := by
        have := rngL_get lo n i
        rw [List.getElem?_eq_getElem hi, if_pos (by omega)] at this
        exact Option.some.inj this
      rw [hg]
      show wYes _ _
      refine ⟨fun _ => hs i (by omega) _ fun a r ha hr => ?_, fun h => nomatch h⟩
      rw [hr]
      have := ih (i + 1) (acc ++ [a]) (by omega) (by rw [List.length_append, h2]; rfl) (fun b hb => by
        rcases List.mem_append.mp hb with hb | hb
        · exact h3 b hb
        · rw [List.mem_singleton] at hb; rw [hb]; exact ha)
      rwa [List.map_append] at this
  have := key n 0 [] (by omega) rfl (fun _ h => nomatch h)
  rwa [List.drop_zero] at this
end

/-! items and slices by whole numbers -/
theorem atI_i {α : Type} {xs : List α} {i : Int} {v : α} (h0 : 0 ≤ i) (h : xs[i.toNat]? = some v) : atI xs i = some v := by
  have := atI_nat h
  rwa [Int.toNat_of_nonneg h0] at this
theorem cut_lo {α : Type} (xs : List α) {i : Int} (h : 0 ≤ i) : cutL xs (some i) none = xs.drop i.toNat := by
  unfold cutL
  have : i = ((i.toNat : Nat) : Int) := (Int.toNat_of_nonneg h).symm
  rw [this, HT.sIx_nat, HT.sIx_none, Int.toNat_natCast]
  by_cases hi : i.toNat ≤ xs.length
  · rw [Nat.min_eq_left hi, List.take_of_length_le (by rw [List.length_drop]; omega)]
  · rw [List.drop_eq_nil_of_le (show xs.length ≤ i.toNat by omega), List.drop_eq_nil_of_le (by omega)]; simp
theorem cut_hi {α : Type} (xs : List α) {j : Int} (h : 0 ≤ j) : cutL xs none (some j) = xs.take j.toNat := by
  unfold cutL
  have : j = ((j.toNat : Nat) : Int) := (Int.toNat_of_nonneg h).symm
  rw [this, HT.sIx_nat, HT.sIx_none, List.drop_zero, Nat.sub_zero, Int.toNat_natCast]
  by_cases hi : j.toNat ≤ xs.length
  · rw [Nat.min_eq_left hi]
  · rw [Nat.min_eq_right (by omega), List.take_of_length_le (Nat.le_refl _), List.take_of_length_le (by omega)]
theorem cut_lh {α : Type} (xs : List α) {i j : Int} (h : 0 ≤ i) (h' : 0 ≤ j) : cutL xs (some i) (some j) = (xs.drop i.toNat).take (j.toNat - i.toNat) := by
  unfold cutL
  have e1 : i = ((i.toNat : Nat) : Int) := (Int.toNat_of_nonneg h).symm
  have e2 : j = ((j.toNat : Nat) : Int) := (Int.toNat_of_nonneg h').symm
  rw [e1, e2, HT.sIx_nat, HT.sIx_nat, Int.toNat_natCast, Int.toNat_natCast]
  by_cases hi : i.toNat ≤ xs.length
  · rw [Nat.min_eq_left hi]
    by_cases hj : j.toNat ≤ xs.length
    · rw [Nat.min_eq_left hj]
    · rw [Nat.min_eq_right (by omega), List.take_of_length_le (by rw [List.length_drop]; omega), List.take_of_length_le (by rw [List.length_drop]; omega)]
  · rw [List.drop_eq_nil_of_le (show xs.length ≤ min i.toNat xs.length by omega), List.drop_eq_nil_of_le (show xs.length ≤ i.toNat by omega)]; simp
end WL
set_option Elab.async false
set_option linter.all false
set_option autoImplicit false
set_option maxRecDepth 100000
namespace WL
open PySem PySem.Spec L2

/-! ### the law's sameness -/
mutual
def sameD : D → D → Bool
  | .non, .non => true
  | .bl a, .bl b => a == b
  | .int a, .int b => a == b
  | .str a, .str b => a == b
  | .tup a, .tup b => sameL a b
  | .lst a, .lst b => sameL a b
  | _, _ => false
def sameL : List D → List D → Bool
  | [], [] => true
  | a :: as, b :: bs => sameD a b && sameL as bs
  | _, _ => false
end
theorem sameL_all : ∀ (as bs : List D), as.length = bs.length → sameL as bs = ((List.range as.length).map fun k => sameD (as.getD k .non) (bs.getD k .non)).all fun b => b
  | [], [], _ => rfl
  | [], _ :: _, h => by simp at h
  | _ :: _, [], h => by simp at h
  | a :: as, b :: bs, h => by
    rw [sameL, sameL_all as bs (by simpa using h), List.length_cons, List.range_succ_eq_map, List.map_cons, List.all_cons, List.map_map]
    rfl
theorem sameL_len : ∀ (as bs : List D), sameL as bs = true → as.length = bs.length
  | [], [], _ => rfl
  | [], _ :: _, h => by simp [sameL] at h
  | _ :: _, [], h => by simp [sameL] at h
  | a :: as, b :: bs, h => by
    rw [sameL, Bool.and_eq_true] at h
    rw [List.length_cons, List.length_cons, sameL_len as bs h.2]
theorem shpL_get {n : Nat} : ∀ {ds : List D} {k : Nat} {d : D}, shpL n ds = true → ds[k]? = some d → shpN n d = true
  | [], _, _, _, h => by simp at h
  | e :: ds, 0, d, h, g => by
    rw [shpL, Bool.and_eq_true] at h
    simp at g; rw [← g]; exact h.1
  | e :: ds, k + 1, d, h, g => by
    rw [shpL, Bool.and_eq_true] at h
    exact shpL_get h.2 (by simpa using g)
theorem shpL_of {n : Nat} : ∀ {ds : List D}, (∀ d ∈ ds, shpN n d = true) → shpL n ds = true
  | [], _ => rfl
  | d :: ds, h => by
    rw [shpL, h d List.mem_cons_self, shpL_of fun e he => h e (List.mem_cons_of_mem _ he)]; rfl
theorem shpL_map {n : Nat} {α : Type} {f : α → D} {l : List α} (h : ∀ a ∈ l, shpN n (f a) = true) : shpL n (l.map f) = true := shpL_of fun d hd => by
  obtain ⟨a, ha, rfl⟩ := List.mem_map.mp hd
  exact h a ha
mutual
/-- plain, at most n deep, no longer than may be walked -/
def fitN : Nat → D → Bool
  | _, .non => true
  | _, .bl _ => true
  | _, .int _ => true
  | _, .str _ => true
  | 0, _ => false
  | n + 1, .tup xs => decide (xs.length ≤ 16777216) && fitL n xs
  | n + 1, .lst xs => decide (xs.length ≤ 16777216) && fitL n xs
  | _, _ => false
def fitL : Nat → List D → Bool
  | _, [] => true
  | n, d :: ds => fitN n d && fitL n ds
end
theorem fitL_get {n : Nat} : ∀ {ds : List D} {k : Nat} {d : D}, fitL n ds = true → ds[k]? = some d → fitN n d = true
  | [], _, _, _, h => by simp at h
  | e :: ds, 0, d, h, g => by
    rw [fitL, Bool.and_eq_true] at h
    simp at g; rw [← g]; exact h.1
  | e :: ds, k + 1, d, h, g => by
    rw [fitL, Bool.and_eq_true] at h
    exact fitL_get h.2 (by simpa using g)
theorem fitL_of {n : Nat} : ∀ {ds : List D}, (∀ d ∈ ds, fitN n d = true) → fitL n ds = true
  | [], _ => rfl
  | d :: ds, h => by
    rw [fitL, h d List.mem_cons_self, fitL_of fun e he => h e (List.mem_cons_of_mem _ he)]; rfl
theorem fitL_map {n : Nat} {α : Type} {f : α → D} {l : List α} (h : ∀ a ∈ l, fitN n (f a) = true) : fitL n (l.map f) = true := fitL_of fun d hd => by
  obtain ⟨a, ha, rfl⟩ := List.mem_map.mp hd
  exact h a ha
theorem fit_tup {n : Nat} {xs : List D} (h : xs.length ≤ 16777216) (g : ∀ d ∈ xs, fitN n d = true) : fitN (n + 1) (.tup xs) = true := by
  rw [fitN, decide_eq_true h, fitL_of g]; rfl
mutual
theorem fit_refl : ∀ (n : Nat) (d : D), fitN n d = true → sameD d d = true
  | _, .non, _ => rfl
  | _, .bl a, _ => by simp [sameD]
  | _, .int a, _ => by simp [sameD]
  | _, .str a, _ => by simp [sameD]
  | 0, .tup a, h => by simp [fitN] at h
  | 0, .lst a, h => by simp [fitN] at h
  | n + 1, .tup a, h => by
    rw [fitN, Bool.and_eq_true] at h
    rw [sameD]; exact fit_reflL n a h.2
  | n + 1, .lst a, h => by
    rw [fitN, Bool.and_eq_true] at h
    rw [sameD]; exact fit_reflL n a h.2
  | n, .dct _ _, h => by cases n <;> simp [fitN] at h
  | n, .box, h => by cases n <;> simp [fitN] at h
theorem fit_reflL : ∀ (n : Nat) (ds : List D), fitL n ds = true → sameL ds ds = true
  | _, [], _ => rfl
  | n, d :: ds, h => by
    rw [fitL, Bool.and_eq_true] at h
    rw [sameL, fit_refl n d h.1, fit_reflL n ds h.2]; rfl
end
def pairD (p : D × D) : List D := [p.1, p.2]
def sSame (n : Nat) : Sx := .of pairD (fun p => ∃ m, n = m + 1 ∧ fitN m p.1 = true ∧ fitN m p.2 = true) (fun p => .bl (sameD p.1 p.2))
/-- what promises nothing is kept by any def -/
theorem cal_bot {P : Program} {w : World} {K : PySem.W.Frag} {mg : Str → Option Value} {base : Heap} {C : Bx → Prop} {x : Str} {f : Addr} {fd : FuncData} {k : Nat} {ps : List Str} {g : Sx} (hm : mg x = some (.ref f)) (hk : PySem.W.keepIn K (.ref f) = true) (hb : Binds K fd ps []) (h : ∀ ds P, ¬ g.f ds P) : Cal P w K mg base C x k ps g := by
  refine ⟨f, fd, hm, hk, hb, fun β _ => ⟨fun vs H Q E q => ?_, fun A outer s H args us vs Q E _ _ _ _ q => ?_⟩⟩
  · obtain ⟨_, ds, _, _, _, _, _, q⟩ := q
    exact (h _ _ q).elim
  · obtain ⟨_, ds, _, _, _, _, _, q⟩ := q
    exact (h _ _ q).elim
theorem same_bot : ∀ ds P, ¬ (sSame 0).f ds P := fun ds P ⟨_, _, ⟨m, h, _⟩, _⟩ => by omega
def w_same (s_law_same : Sx) : SW := (wSeq (wIfS (wOr (wAnd (wTest (wIsi .tuple (wName 0))) (wTest (wIsi .tuple (wName 1)))) (wAnd (wTest (wIsi .list (wName 0))) (wTest (wIsi .list (wName 1))))) (wRet (wAndV (wOp oEq (wB oLen (wCons (wName 0) wNil)) (wB oLen (wCons (wName 1) wNil))) (wB oAll (wCons (wLc (wRng1 (wB oLen (wCons (wName 0) wNil))) (.one 2) wYes (wCall s_law_same 2 (wCons (wOp oIx (wName 0) (wName 2)) (wCons (wOp oIx (wName 1) (wName 2)) wNil))) [2]) wNil)))) wSkip)
      (wSeq (wIfS (wOr (wTest (wIsi .bool (wName 0))) (wTest (wIsi .bool (wName 1)))) (wRet (wAndV (wIsi .bool (wName 0)) (wAndV (wIsi .bool (wName 1)) (wOp oEq (wName 0) (wName 1))))) wSkip)
      (wSeq (wIfS (wOr (wAnd (wTest (wIsi .int (wName 0))) (wTest (wIsi .int (wName 1)))) (wAnd (wTest (wIsi .str (wName 0))) (wTest (wIsi .str (wName 1))))) (wRet (wOp oEq (wName 0) (wName 1))) wSkip)
      (wRet (wAndV (wOp oIs (wName 0) (wC .non)) (wOp oIs (wName 1) (wC .non)))))))
theorem ifP_t {A B : Prop} (h : A) : ifP true A B := ⟨fun _ => h, fun e => nomatch e⟩
theorem ifP_f {A B : Prop} (h : B) : ifP false A B := ⟨fun e => (nomatch e), fun _ => h⟩
theorem ifP_b {b : Bool} {A B : Prop} (h1 : b = true → A) (h2 : b = false → B) : ifP b A B := ⟨h1, h2⟩
theorem sem_same_seq (n : Nat) (xs ys : List D) (R : D → Prop) (ρ : WEnv) (a b : D) (hab : (a = .tup xs ∧ b = .tup ys) ∨ (a = .lst xs ∧ b = .lst ys)) (h1 : fitL n xs = true) (h2 : fitL n ys = true) (hz : xs.length ≤ 16777216)
    (h : R (.bl (sameL xs ys))) (k : WEnds) :
    wRet (wAndV (wOp oEq (wB oLen (wCons (wName 0) wNil)) (wB oLen (wCons (wName 1) wNil))) (wB oAll (wCons (wLc (wRng1 (wB oLen (wCons (wName 0) wNil))) (.one 2) wYes (wCall (sSame (n + 1)) 2 (wCons (wOp oIx (wName 0) (wName 2)) (wCons (wOp oIx (wName 1) (wName 2)) wNil))) [2]) wNil))) { k with rt := R } [.val a, .val b, .un] := by
  have go : ∀ Q : List D → Prop, Q ((List.range xs.length).map fun i => .bl (sameD (xs.getD i .non) (ys.getD i .non))) → xs.length = ys.length → wLcL (.one 2) wYes (wCall (sSame (n + 1)) 2 (wCons (wOp oIx (wName 0) (wName 2)) (wCons (wOp oIx (wName 1) (wName 2)) wNil))) [.val a, .val b, .un] (rngL 0 ((xs.length : Int)).toNat) [] Q := by
    intro Q q hl
    rw [Int.toNat_natCast]
    refine lc_rng _ (fun i hi Q hQ => ?_) q
    have e1 : atI xs (0 + (i : Int)) = some xs[i] := by rw [Int.zero_add]; exact atI_nat (List.getElem?_eq_getElem hi)
    have e2 : atI ys (0 + (i : Int)) = some (ys[i]'(by omega)) := by rw [Int.zero_add]; exact atI_nat (List.getElem?_eq_getElem (by omega))
    have g1 : xs.getD i .non = xs[i] := by rw [List.getD_eq_getElem?_getD, List.getElem?_eq_getElem hi]; rfl
    have g2 : ys.getD i .non = ys[i]'(by omega) := by rw [List.getD_eq_getElem?_getD, List.getElem?_eq_getElem (by omega)]; rfl
    have fin : (2 : Nat) = 2 ∧ (sSame (n + 1)).f [xs[i], ys[i]'(by omega)] fun d => Q (.val d) := by
      refine ⟨rfl, (xs[i], ys[i]'(by omega)), rfl, ⟨n, rfl, fitL_get h1 (List.getElem?_eq_getElem hi), fitL_get h2 (List.getElem?_eq_getElem (by omega))⟩, ?_⟩
      have := hQ (.val (.bl (sameD xs[i] (ys[i]'(by omega))))) (by rw [g1, g2])
      exact this
    rcases hab with ⟨rfl, rfl⟩ | ⟨rfl, rfl⟩
    · show (match atI xs (0 + (i : Int)) with | some v => _ | none => False)
      rw [e1]
      show (match atI ys (0 + (i : Int)) with | some v => _ | none => False)
      rw [e2]
      exact fin
    · show (match atI xs (0 + (i : Int)) with | some v => _ | none => False)
      rw [e1]
      show (match atI ys (0 + (i : Int)) with | some v => _ | none => False)
      rw [e2]
      exact fin
  have go2 : ifP ((xs.length : Int) == (ys.length : Int)) (rOk (xs.length : Int) ∧ wLcL (.one 2) wYes (wCall (sSame (n + 1)) 2 (wCons (wOp oIx (wName 0) (wName 2)) (wCons (wOp oIx (wName 1) (wName 2)) wNil))) [.val a, .val b, .un] (rngL 0 ((xs.length : Int)).toNat) [] fun acc => match boolsOf acc with | some ns => R (.bl (ns.all fun b => b)) | none => False) (R (.bl false)) := by
    refine ifP_b (fun e => ?_) (fun e => ?_)
    · have e : xs.length = ys.length := by have := eq_of_beq e; omega
      refine ⟨⟨by omega, by omega⟩, go _ ?_ e⟩
      rw [boolsOf_map]
      show R (.bl (List.all _ _))
      rw [← sameL_all xs ys e]
      exact h
    · have e : xs.length ≠ ys.length := fun z => by rw [z] at e; simp at e
      have : sameL xs ys = false := by
        cases hs : sameL xs ys with
        | false => rfl
        | true => exact absurd (sameL_len xs ys hs) e
      rw [this] at h
      exact h
  rcases hab with ⟨rfl, rfl⟩ | ⟨rfl, rfl⟩
  · exact go2
  · exact go2
theorem sem_same (n : Nat) : ∀ ds R, ds.length = 2 → (sSame (n + 1)).f ds R → w_same (sSame n) { nx := fun _ => R .non, rt := R } (startW 3 ds) := by
  intro ds R _ h
  obtain ⟨⟨a, b⟩, rfl, ⟨m, hm, ha, hb⟩, h⟩ := h
  obtain rfl : n = m := by omega
  have sc : ∀ s : Sx, (∀ xs ys, a = .tup xs → b = .tup ys → False) → (∀ xs ys, a = .lst xs → b = .lst ys → False) → noBox a = true → noBox b = true → (∀ k v, a ≠ .dct k v) → (∀ k v, b ≠ .dct k v) → shpN 64 a = true ∨ True → R (.bl (sameD a b)) → w_same s { nx := fun _ => R .non, rt := R } (startW 3 (pairD (a, b))) := by
    intro s t l na nb da db _ h
    cases a <;> cases b <;> first
      | (exact absurd rfl (da _ _))
      | (exact absurd rfl (db _ _))
      | (cases na; done)
      | (cases nb; done)
      | (exact (t _ _ rfl rfl).elim)
      | (exact (l _ _ rfl rfl).elim)
      | (simp [w_same, wSeq, wIfS, wOr, wAnd, wTest, wIsi, wName, startW, pairD, isTy, noBox, ifP, wSkip, wRet, wAndV, wOp, oEq, oIs, isNon, wC, shpN, peq] ; exact h)
  have nb : ∀ (n : Nat) (d : D), fitN n d = true → noBox d = true ∧ ∀ k v, d ≠ .dct k v := fun n d h => by
    cases d <;> first
      | (cases n <;> simp [fitN] at h; done)
      | (refine ⟨rfl, fun _ _ e => ?_⟩; cases e)
  by_cases h1 : ∃ xs ys, a = .tup xs ∧ b = .tup ys
  · obtain ⟨xs, ys, rfl, rfl⟩ := h1
    cases n with
    | zero => simp [fitN] at ha
    | succ n =>
      have ha : (decide (xs.length ≤ 16777216) && fitL n xs) = true := ha
      have hb : (decide (ys.length ≤ 16777216) && fitL n ys) = true := hb
      rw [Bool.and_eq_true] at ha hb
      exact ifP_t (ifP_t (ifP_t (sem_same_seq n xs ys R [] _ _ (.inl ⟨rfl, rfl⟩) ha.2 hb.2 (of_decide_eq_true ha.1) h ⟨_, fun _ => True, _, _⟩)))
  · by_cases h2 : ∃ xs ys, a = .lst xs ∧ b = .lst ys
    · obtain ⟨xs, ys, rfl, rfl⟩ := h2
      cases n with
      | zero => simp [fitN] at ha
      | succ n =>
        have ha : (decide (xs.length ≤ 16777216) && fitL n xs) = true := ha
        have hb : (decide (ys.length ≤ 16777216) && fitL n ys) = true := hb
        rw [Bool.and_eq_true] at ha hb
        exact ifP_f (ifP_f (ifP_t (ifP_t (sem_same_seq n xs ys R [] _ _ (.inr ⟨rfl, rfl⟩) ha.2 hb.2 (of_decide_eq_true ha.1) h ⟨_, fun _ => True, _, _⟩))))
    · exact sc (sSame n) (fun xs ys e1 e2 => h1 ⟨xs, ys, e1, e2⟩) (fun xs ys e1 e2 => h2 ⟨xs, ys, e1, e2⟩) (nb _ _ ha).1 (nb _ _ hb).1 (nb _ _ ha).2 (nb _ _ hb).2 (.inr trivial) h
end WL
set_option Elab.async false
set_option linter.all false
set_option autoImplicit false
set_option maxRecDepth 100000
namespace WL
open PySem PySem.Spec L2

/-! ### more meaning tools -/
theorem lc_wp {wi : WI} {t : Tgt} {wt : WT} {we : WE} {vs : List Nat} {ρ : WEnv} {P : R → Prop} (h : noOwnAt ρ vs = true) (q : wi ρ fun _ ds => wLcL t wt we (wipeW ρ vs) ds [] fun acc => P (.own (.lst acc))) : wLc wi t wt we vs ρ P := by
  simp only [wLc, h]
  exact q
theorem no_wp {b : Bool} {A : Prop} (h : b = true) (q : A) : match (generalizing := false) b with
  | true => A
  | false => False := by subst h; exact q
theorem opt_wp {α : Type} {o : Option α} {v : α} {f : α → Prop} (h : o = some v) (q : f v) : match (generalizing := false) o with
  | some v => f v
  | none => False := by subst h; exact q
theorem max_wp {ns : List Int} {m : Int} {f : D → Prop} (h : maxI ns = some m) (q : f (.int m)) : match (generalizing := false) optInt (maxI ns) with
  | some d => f d
  | none => False := by rw [h]; exact q
/-- no list of one's own there -/
def freeS : Slot → Bool
  | .own _ => false
  | _ => true
theorem x_max {xs : List D} {ns : List Int} {m : Int} {P : R → Prop} (h1 : intsOf xs = some ns) (h2 : maxI ns = some m) (q : P (.val (.int m))) : oMaxA [.lst xs] P := by
  simp only [oMaxA, oIntsA, oInts, h1, h2, optInt]; exact q
theorem x_maxT {xs : List D} {ns : List Int} {m : Int} {P : R → Prop} (h1 : intsOf xs = some ns) (h2 : maxI ns = some m) (q : P (.val (.int m))) : oMaxA [.tup xs] P := by
  simp only [oMaxA, oIntsA, h1, h2, optInt]; exact q
theorem x_ix {xs : List D} {i : Int} {d : D} {P : R → Prop} (h : atI xs i = some d) (q : P (.val d)) : oIx (.lst xs) (.int i) P := by
  simp only [oIx, h]; exact q
theorem x_ixT {xs : List D} {i : Int} {d : D} {P : R → Prop} (h : atI xs i = some d) (q : P (.val d)) : oIx (.tup xs) (.int i) P := by
  simp only [oIx, h]; exact q
theorem x_ixS {x : List Nat} {i : Int} {c : Nat} {P : R → Prop} (h : atI x i = some c) (q : P (.val (.str [c]))) : oIx (.str x) (.int i) P := by
  simp only [oIx, h]; exact q
theorem x_eq {d e : D} {P : R → Prop} (h : shpN 64 d = true) (h' : shpN 64 e = true) (q : P (.val (.bl (peq d e)))) : oEq d e P := by
  simp only [oEq, h, h', Bool.and_true]; exact q
theorem x_ne {d e : D} {P : R → Prop} (h : shpN 64 d = true) (h' : shpN 64 e = true) (q : P (.val (.bl (!peq d e)))) : oNe d e P := by
  simp only [oNe, h, h', Bool.and_true]; exact q
theorem ixN_i {n : Nat} {i : Int} (h : 0 ≤ i) (h' : i.toNat < n) : ixN n i = some i.toNat := by
  unfold ixN
  rw [if_pos h, if_pos (by omega)]
theorem same_eq {n : Nat} {a b : D} {P : D → Prop} (e : a = b) (h : fitN n a = true) (q : P (.bl true)) : (sSame (n + 1)).f [a, b] P := by
  subst e
  refine ⟨(a, a), rfl, ⟨n, rfl, h, h⟩, ?_⟩
  show P (.bl (sameD a a))
  rw [fit_refl n a h]
  exact q
theorem fit_ints {n : Nat} {α : Type} {f : α → Int} (l : List α) : fitL n (l.map fun a => .int (f a)) = true := fitL_map fun a _ => by cases n <;> rfl

/-! join of single letters -/
theorem join_ones : ∀ l : List Nat, TL.joinL [] (l.map fun c => [c]) = l
  | [] => rfl
  | [_] => rfl
  | a :: b :: l => by
    show [a] ++ ([] ++ TL.joinL [] ((b :: l).map fun c => [c])) = _
    rw [join_ones (b :: l)]; rfl
theorem len_ones : ∀ l : List Nat, ((l.map fun c => [c]).map List.length).sum = l.length
  | [] => rfl
  | a :: l => by
    show 1 + ((l.map fun c => [c]).map List.length).sum = l.length + 1
    rw [len_ones l]; omega
theorem x_join1 {l : List Nat} {P : R → Prop} (hl : l.length ≤ 16777216) (q : P (.val (.str l))) : oJoin (.str []) [.lst (l.map fun c => .str [c])] P := by
  simp only [oJoin, strsOf_map (fun c : Nat => [c]) l]
  refine ⟨?_, ?_⟩
  · rw [len_ones]; show l.length + _ * 0 ≤ _; omega
  · rw [join_ones]; exact q

/-! maxima of Nats -/
def maxN (l : List Nat) : Nat := l.foldl max 0
theorem foldl_maxN : ∀ (l : List Nat) (a : Nat), (l.foldl max a = a ∨ l.foldl max a ∈ l) ∧ a ≤ l.foldl max a ∧ ∀ b ∈ l, b ≤ l.foldl max a
  | [], a => ⟨.inl rfl, Nat.le_refl _, fun _ h => nomatch h⟩
  | b :: l, a => by
    rw [List.foldl_cons]
    obtain ⟨h1, h2, h3⟩ := foldl_maxN l (max a b)
    refine ⟨?_, by omega, fun c hc => ?_⟩
    · rcases h1 with h1 | h1
      · rw [h1]
        by_cases hh : b ≤ a
        · left; omega
        · right; rw [Nat.max_eq_right (by omega)]; exact List.mem_cons_self
      · right; exact List.mem_cons_of_mem _ h1
    · rcases List.mem_cons.mp hc with rfl | hc
      · omega
      · exact h3 c hc
theorem maxN_mem (l : List Nat) : maxN l = 0 ∨ maxN l ∈ l := (foldl_maxN l 0).1
theorem maxN_ge {l : List Nat} {b : Nat} (h : b ∈ l) : b ≤ maxN l := (foldl_maxN l 0).2.2 b h
theorem maxN_eq {l : List Nat} {m : Nat} (h1 : m = 0 ∨ m ∈ l) (h2 : ∀ b ∈ l, b ≤ m) : maxN l = m := by
  apply Nat.le_antisymm
  · rcases maxN_mem l with h | h
    · omega
    · exact h2 _ h
  · rcases h1 with h | h
    · omega
    · exact maxN_ge h
theorem maxN_app (l : List Nat) (b : Nat) : maxN (l ++ [b]) = max (maxN l) b := by
  unfold maxN; rw [List.foldl_append]; rfl
theorem foldl_maxI : ∀ (l : List Nat) (a : Nat), (l.map fun n : Nat => (n : Int)).foldl max (a : Int) = ((l.foldl max a : Nat) : Int)
  | [], _ => rfl
  | b :: l, a => by
    rw [List.map_cons, List.foldl_cons, List.foldl_cons, ← foldl_maxI l (max a b)]
    congr 1; omega
theorem maxI_nat {l : List Nat} (h : l ≠ []) : maxI (l.map fun n : Nat => (n : Int)) = some ((maxN l : Nat) : Int) := by
  cases l with
  | nil => exact absurd rfl h
  | cons b l =>
    show some _ = some _
    rw [foldl_maxI]
    unfold maxN
    rw [List.foldl_cons]
    congr 3
theorem maxI_nat0 (l : List Nat) : maxI (l.map (fun n : Nat => (n : Int)) ++ [0]) = some ((maxN l : Nat) : Int) := by
  have : l.map (fun n : Nat => (n : Int)) ++ [0] = (l ++ [0]).map fun n : Nat => (n : Int) := by rw [List.map_append]; rfl
  rw [this, maxI_nat (by simp), maxN_app]
  congr 2
  omega
theorem intsOf_nat {α : Type} (l : List α) (f : α → Nat) : intsOf (l.map fun a => .int (f a)) = some ((l.map f).map fun n : Nat => (n : Int)) := by
  rw [List.map_map]; exact intsOf_map _ l
theorem intsOf_app : ∀ {xs ys : List D} {ns ms : List Int}, intsOf xs = some ns → intsOf ys = some ms → intsOf (xs ++ ys) = some (ns ++ ms)
  | [], _, _, _, h, h' => by cases h; exact h'
  | d :: xs, ys, ns, ms, h, h' => by
    cases d <;> try (cases h; done)
    rename_i i
    rw [intsOf] at h
    cases e : intsOf xs with
    | none => rw [e] at h; cases h
    | some l =>
      rw [e] at h
      cases h
      rw [List.cons_append, intsOf, intsOf_app e h']; rfl
theorem fstIx_of {n : Int} : ∀ {l : List Int} {i j : Nat}, l[j]? = some n → (∀ k, k < j → l[k]? ≠ some n) → fstIx n l i = some (i + j)
  | [], _, _, h, _ => by simp at h
  | m :: l, i, 0, h, _ => by
    have : m = n := by simpa using h
    rw [fstIx, if_pos this]; rfl
  | m :: l, i, j + 1, h, g => by
    have : m ≠ n := fun e => g 0 (by omega) (by simp [e])
    rw [fstIx, if_neg this, fstIx_of (l := l) (i := i + 1) (j := j) (by simpa using h) (fun k hk => by have := g (k + 1) (by omega); simpa using this)]
    congr 1; omega
end WL
set_option Elab.async false
set_option linter.all false
set_option autoImplicit false
set_option maxRecDepth 100000
namespace WL
open PySem PySem.Spec L2
section
variable {X : Cx} {β : Bx}

/-! ### x in y -/
/-- stands x in y -/
def inS (x y : List Nat) : Bool := (List.range (y.length + 1 - x.length)).any fun i => (y.drop i).take x.length == x
theorem subAt_list (x y : List Nat) (i : Nat) : Builtin.Str.subAt (mkS y) (mkS x) i = ((y.drop i).take x.length == x) := by
  rw [StrLaws.subAt_eq]
  show ((y.toArray.toList.drop i).take (mkS x).length == x.toArray.toList) = _
  rw [mkS_len]
theorem inS_eq (x y : List Nat) : (!(Builtin.Str.occurrences (mkS y) (mkS x) 0 (mkS y).length 1).isEmpty) = inS x y := by
  rw [Bool.eq_iff_iff, StrLaws.found_iff]
  unfold inS
  rw [List.any_eq_true, mkS_len, mkS_len]
  constructor
  · rintro ⟨i, h1, h2⟩
    exact ⟨i, List.mem_range.mpr (by omega), by rw [subAt_list] at h2; exact h2⟩
  · rintro ⟨i, h1, h2⟩
    rw [List.mem_range] at h1
    exact ⟨i, by omega, by rw [subAt_list]; exact h2⟩
theorem any_py {n : Nat} {d : D} (hd : shpN 64 d = true) : ∀ {ds : List D}, (∀ e ∈ ds, shpN 64 e = true) → ((toPyL ds).any fun z => PyData.eqv z (toPy d)) = ds.any fun z => peq z d
  | [], _ => rfl
  | e :: ds, h => by
    rw [toPyL, List.any_cons, List.any_cons, any_py (n := n) hd fun e he => h e (List.mem_cons_of_mem _ he), eqv_py 64 e d (h e List.mem_cons_self) hd]
mutual
theorem shpN_mono : ∀ (n : Nat) (d : D), shpN n d = true → shpN (n + 1) d = true
  | n, .non, _ => by cases n <;> rfl
  | n, .bl _, _ => by cases n <;> rfl
  | n, .int _, _ => by cases n <;> rfl
  | n, .str _, _ => by cases n <;> rfl
  | 0, .tup xs, h => by simp [shpN] at h
  | 0, .lst xs, h => by simp [shpN] at h
  | n + 1, .tup xs, h => by rw [shpN] at h ⊢; exact shpL_mono n xs h
  | n + 1, .lst xs, h => by rw [shpN] at h ⊢; exact shpL_mono n xs h
  | n, .dct _ _, h => by cases n <;> simp [shpN] at h
  | n, .box, h => by cases n <;> simp [shpN] at h
theorem shpL_mono : ∀ (n : Nat) (ds : List D), shpL n ds = true → shpL (n + 1) ds = true
  | _, [], _ => rfl
  | n, d :: ds, h => by
    rw [shpL, Bool.and_eq_true] at h
    rw [shpL, shpN_mono n d h.1, shpL_mono n ds h.2]; rfl
end
theorem shpL_mem {n : Nat} : ∀ {ds : List D}, shpL n ds = true → ∀ d ∈ ds, shpN n d = true
  | [], _, _, h => nomatch h
  | e :: ds, h, d, hd => by
    rw [shpL, Bool.and_eq_true] at h
    rcases List.mem_cons.mp hd with rfl | hd
    · exact h.1
    · exact shpL_mem h.2 d hd
theorem op_inT (hu : X.A.units + 65 < cLine) (neg : Bool) : OpR X (compareOp (if neg then .NotIn else .In)) (fun x y H Q => ∃ d ds, Dp X.K H x d ∧ Dp X.K H y (.tuple ds) ∧ SeqAt.shaped d = true ∧ SeqAt.shaped (.tuple ds) = true ∧ Q (.bl (neg != ds.any fun z => PyData.eqv z d)) H) := by
  rintro pins s σ H x y v u Q I rx ry ⟨d, ds, hd, he, sd, se, q⟩
  obtain ⟨as, r1⟩ := Dp.reads I d x v hd rx
  obtain ⟨bs, r2⟩ := Dp.reads I (.tuple ds) y u he ry
  have hr := PyProof.Rows.room_in_shaped (A := X.A) (xs := ds) sd hu
  cases neg
  · exact SeqAt.in_tuple_reads r2 r1 (SeqAt.canLay_of_shaped se) (SeqAt.canLay_of_shaped sd) hr ⟨.bl _, H, I, rfl, by rwa [show (false != ds.any fun z => PyData.eqv z d) = ds.any fun z => PyData.eqv z d by cases (ds.any fun z => PyData.eqv z d) <;> rfl] at q⟩
  · exact SeqAt.notIn_tuple_reads r2 r1 (SeqAt.canLay_of_shaped se) (SeqAt.canLay_of_shaped sd) hr ⟨.bl _, H, I, rfl, by rwa [show (true != ds.any fun z => PyData.eqv z d) = !ds.any fun z => PyData.eqv z d by cases (ds.any fun z => PyData.eqv z d) <;> rfl] at q⟩
def oInG (neg : Bool) : OD := fun d e P => match d, e with
  | .str x, .str y => P (.val (.bl (neg != inS x y)))
  | d, .lst ds => match shpN 64 d && shpL 63 ds with
    | true => P (.val (.bl (neg != ds.any fun z => peq z d)))
    | false => False
  | d, .tup ds => match shpN 64 d && shpL 63 ds with
    | true => P (.val (.bl (neg != ds.any fun z => peq z d)))
    | false => False
  | _, _ => False
abbrev oIn : OD := oInG false
abbrev oNotIn : OD := oInG true
theorem oInG_mono {neg : Bool} (d e : D) (P P' : R → Prop) (k : ∀ r, P r → P' r) (q : oInG neg d e P) : oInG neg d e P' := by
  unfold oInG at q ⊢
  split at q
  · exact k _ q
  · split at q
    · exact k _ q
    · exact q
  · split at q
    · exact k _ q
    · exact q
  · exact q
theorem d_inG (neg : Bool) {f : Value → Value → Sem Value} {r1 r2 r3 : R2}
    (o1 : OpR X f r1) (o2 : OpR X f r2) (o3 : OpR X f r3)
    (g1 : ∀ (x y : List Nat) H Q, Q (.bl (neg != inS x y)) H → r1 (.str (mkS x)) (.str (mkS y)) H Q)
    (g2 : ∀ x y d ds H Q, Dp X.K H x d → Dp X.K H y (.list ds) → SeqAt.shaped d = true → SeqAt.shaped (.list ds) = true → Q (.bl (neg != ds.any fun z => PyData.eqv z d)) H → r2 x y H Q)
    (g3 : ∀ x y d ds H Q, Dp X.K H x d → Dp X.K H y (.tuple ds) → SeqAt.shaped d = true → SeqAt.shaped (.tuple ds) = true → Q (.bl (neg != ds.any fun z => PyData.eqv z d)) H → r3 x y H Q) : OpD X β f (oInG neg) := by
  refine ⟨oInG_mono, _, o1.or (o2.or o3), fun F Hf ρ σ H d e x y Q I r s q => ?_⟩
  unfold oInG at q
  split at q
  · obtain ⟨rfl, _⟩ := r.str
    obtain ⟨rfl, _⟩ := s.str
    exact .inl (g1 _ _ _ _ (q.bl I))
  · rename_i ds
    split at q
    · rename_i hs
      rw [Bool.and_eq_true] at hs
      have h2 : shpN 64 (.lst ds) = true := hs.2
      obtain ⟨p1, p2⟩ := r.py I hs.1
      obtain ⟨p3, p4⟩ := s.py I h2
      refine .inr (.inl (g2 _ _ _ (toPyL ds) _ _ p1 p3 p2 p4 ?_))
      rw [any_py (n := 0) hs.1 fun e he => shpN_mono 63 e (shpL_mem hs.2 e he)]
      exact q.bl I
    · exact q.elim
  · rename_i ds
    split at q
    · rename_i hs
      rw [Bool.and_eq_true] at hs
      have h2 : shpN 64 (.tup ds) = true := hs.2
      obtain ⟨p1, p2⟩ := r.py I hs.1
      obtain ⟨p3, p4⟩ := s.py I h2
      refine .inr (.inr (g3 _ _ _ (toPyL ds) _ _ p1 p3 p2 p4 ?_))
      rw [any_py (n := 0) hs.1 fun e he => shpN_mono 63 e (shpL_mem hs.2 e he)]
      exact q.bl I
    · exact q.elim
  · exact q.elim
theorem fne (b : Bool) : (false != b) = b := by cases b <;> rfl
theorem tne (b : Bool) : (true != b) = !b := by cases b <;> rfl
theorem d_in (hu : X.A.units + 65 < cLine) : OpD X β (compareOp .In) oIn :=
  d_inG false op_in_str (op_inD hu) (op_inT hu false) (fun x y H Q q => ⟨_, _, rfl, rfl, by rw [inS_eq]; rwa [fne] at q⟩) (fun x y d ds H Q h1 h2 h3 h4 q => ⟨d, ds, h1, h2, h3, h4, by rwa [fne] at q⟩) (fun x y d ds H Q h1 h2 h3 h4 q => ⟨d, ds, h1, h2, h3, h4, q⟩)
theorem d_notIn (hu : X.A.units + 65 < cLine) : OpD X β (compareOp .NotIn) oNotIn :=
  d_inG true op_notin_str (op_notInD hu) (op_inT hu true) (fun x y H Q q => ⟨_, _, rfl, rfl, by rw [inS_eq]; rwa [tne] at q⟩) (fun x y d ds H Q h1 h2 h3 h4 q => ⟨d, ds, h1, h2, h3, h4, by rwa [tne] at q⟩) (fun x y d ds H Q h1 h2 h3 h4 q => ⟨d, ds, h1, h2, h3, h4, q⟩)

/-! ### += -= on whole numbers and texts -/
def oIAdd : OD := fun d e P => match d, e with
  | .int i, .int j => P (.val (.int (i + j)))
  | .str x, .str y => x.length + y.length ≤ 16777216 ∧ P (.val (.str (x ++ y)))
  | _, _ => False
theorem d_iadd : OpD X β (inplaceOp .Add) oIAdd := by
  refine ⟨fun d e P P' k q => ?_, _, iop_add.or iop_add_str, fun F Hf ρ σ H d e x y Q I r s q => ?_⟩
  · unfold oIAdd at q ⊢
    split at q <;> first | exact k _ q | exact ⟨q.1, k _ q.2⟩ | exact q
  · unfold oIAdd at q
    split at q
    · exact .inl ⟨_, _, r.int, s.int, q.int I⟩
    · obtain ⟨rfl, hx⟩ := r.str
      obtain ⟨rfl, hy⟩ := s.str
      refine .inr ⟨_, _, rfl, rfl, ?_, ?_⟩
      · rw [mkS_len, mkS_len, sizeLine_eq]; exact q.1
      · rw [mkS_app]; exact q.2.str I (hx.append hy q.1)
    · exact q.elim
abbrev oISub : OD := oI0 fun i j => i - j
theorem d_isub : OpD X β (inplaceOp .Sub) oISub := oI0_of iop_sub

/-! ### methods of texts -/
def findS (x y : List Nat) : Int := match (List.range (x.length + 1 - y.length)).find? fun i => (x.drop i).take y.length == y with
  | some i => (i : Int)
  | none => -1
theorem findS_eq (x y : List Nat) : Txt.find (mkS x) (mkS y) = findS x y := by
  have key : ∀ i, StrLaws.At (mkS x) (mkS y) (mkS x).length i ↔ i < x.length + 1 - y.length ∧ ((x.drop i).take y.length == y) = true := by
    intro i
    unfold StrLaws.At
    rw [mkS_len, mkS_len, subAt_list]
    constructor
    · rintro ⟨h1, h2⟩; exact ⟨by omega, h2⟩
    · rintro ⟨h1, h2⟩; exact ⟨by omega, h2⟩
  unfold findS
  rcases PyProof.Rows.find_whole (mkS x) (mkS y) with ⟨h1, h2⟩ | ⟨i, h1, h2, h3⟩
  · rw [h1]
    have : (List.range (x.length + 1 - y.length)).find? (fun i => (x.drop i).take y.length == y) = none := by
      rw [List.find?_eq_none]
      intro i hi hc
      exact h2 i ((key i).mpr ⟨List.mem_range.mp hi, hc⟩)
    rw [this]
  · rw [h1]
    have hi := (key i).mp h2
    have : (List.range (x.length + 1 - y.length)).find? (fun i => (x.drop i).take y.length == y) = some i := by
      rw [List.find?_range_eq_some]
      refine ⟨hi.2, List.mem_range.mpr hi.1, fun j hj => ?_⟩
      cases hc : ((x.drop j).take y.length == y) with
      | false => rfl
      | true => exact absurd ((key j).mpr ⟨by omega, hc⟩) (h3 j hj)
    rw [this]
def oFind : MD := fun d ds P => match d, ds with
  | .str x, [.str y] => P (.val (.int (findS x y)))
  | _, _ => False
theorem m_find : MeD X β "str.find" oFind := by
  refine ⟨fun d ds P P' k q => ?_, _, mt_find, fun F Hf ρ σ H d ds x xs Q I r rs q => ?_⟩
  · unfold oFind at q ⊢
    split at q <;> first | exact k _ q | exact q
  · unfold oFind at q
    split at q
    · obtain ⟨v, rfl, r2⟩ := rs.one
      refine ⟨_, _, r.str.1, by rw [r2.str.1], ?_⟩
      rw [findS_eq]
      exact q.int I
    · exact q.elim
def oStarts : MD := fun d ds P => match d, ds with
  | .str x, [.str y] => P (.val (.bl (x.take y.length == y)))
  | _, _ => False
theorem m_startswith : MeD X β "str.startswith" oStarts := by
  refine ⟨fun d ds P P' k q => ?_, _, mt_startswith, fun F Hf ρ σ H d ds x xs Q I r rs q => ?_⟩
  · unfold oStarts at q ⊢
    split at q <;> first | exact k _ q | exact q
  · unfold oStarts at q
    split at q
    · rename_i x y
      obtain ⟨v, rfl, r2⟩ := rs.one
      refine ⟨_, _, r.str.1, by rw [r2.str.1], ?_⟩
      have : Txt.startswith (mkS x) (mkS y) = (x.take y.length == y) := by
        unfold Txt.startswith
        rw [subAt_list, mkS_len, mkS_len, List.drop_zero]
        by_cases h : 0 + y.length ≤ x.length
        · rw [decide_eq_true h, Bool.true_and]
        · rw [decide_eq_false h, Bool.false_and]
          symm
          rw [beq_eq_false_iff_ne]
          intro e
          have := congrArg List.length e
          rw [List.length_take] at this
          omega
      rw [this]
      exact q.bl I
    · exact q.elim
def upC (c : Nat) : Nat := if 97 ≤ c ∧ c ≤ 122 then c - 32 else c
theorem upper_list : ∀ x : List Nat, (∀ c ∈ x, c < 128) → Txt.upper (mkS x) = mkS (x.map upC)
  | [], _ => by rfl
  | c :: x, h => by
    have e : mkS (c :: x) = mkS [c] ++ mkS x := by rw [mkS_app]; rfl
    have e2 : Txt.upper (mkS [c]) = mkS [upC c] := PySem.W.KOpn.upper_one (h c List.mem_cons_self)
    rw [e, PySem.W.KOpn.upper_app, upper_list x fun d hd => h d (List.mem_cons_of_mem _ hd), e2, mkS_app]
    rfl
def oUpper : MD := fun d ds P => match d, ds with
  | .str x, [] => x.length ≤ 5592405 ∧ P (.val (.str (x.map upC)))
  | _, _ => False
theorem m_upper : MeD X β "str.upper" oUpper := by
  refine ⟨fun d ds P P' k q => ?_, _, mt_upper, fun F Hf ρ σ H d ds x xs Q I r rs q => ?_⟩
  · unfold oUpper at q ⊢
    split at q <;> first | exact ⟨q.1, k _ q.2⟩ | exact q
  · unfold oUpper at q
    split at q
    · rename_i x
      obtain ⟨rfl, hx⟩ := r.str
      cases rs
      refine ⟨_, rfl, rfl, by rw [mkS_len]; exact q.1, ?_⟩
      rw [upper_list x hx.2]
      refine q.2.str I ⟨by rw [List.length_map]; exact hx.1, fun c hc => ?_⟩
      obtain ⟨e, he, rfl⟩ := List.mem_map.mp hc
      have := hx.2 e he
      unfold upC
      split <;> omega
    · exact q.elim
/-- s.index(t), t there -/
def oIndexS : MD := fun d ds P => match d, ds with
  | .str x, [.str y] => match (List.range (x.length + 1 - y.length)).find? fun i => (x.drop i).take y.length == y with
    | some i => P (.val (.int (i : Nat)))
    | none => False
  | _, _ => False
theorem m_indexS : MeD X β "str.index" oIndexS := by
  refine ⟨fun d ds P P' k q => ?_, _, mt_sindex, fun F Hf ρ σ H d ds x xs Q I r rs q => ?_⟩
  · unfold oIndexS at q ⊢
    split at q
    · split at q
      · exact k _ q
      · exact q
    · exact q
  · unfold oIndexS at q
    split at q
    · rename_i x y
      obtain ⟨v, rfl, r2⟩ := rs.one
      split at q
      · rename_i i hi
        have hf := findS_eq x y
        unfold findS at hf
        rw [hi] at hf
        unfold Txt.find at hf
        cases ho : Builtin.Str.occurrences (mkS x) (mkS y) 0 (mkS x).length 1 with
        | nil => rw [ho] at hf; simp at hf
        | cons j rest =>
          rw [ho] at hf
          have hj : j = i := by
            have hf : (j : Int) = (i : Int) := hf
            omega
          exact ⟨_, _, j, rest, r.str.1, by rw [r2.str.1], ho, by rw [hj]; exact q.int I⟩
      · exact q.elim
    · exact q.elim
theorem _root_.L2.Room.units65 {k : Nat} {A : Around} (r : L2.Room k A) : A.units + 65 < cLine := by have := r.un; omega
/-! ### tuple(range(n)), list(range(n)) -/
theorem repL_ints {K : PySem.W.Frag} {F : Hp} {α : Type} (f : α → Int) : ∀ l : List α, RepL K β F (l.map fun a => D.int (f a)) (l.map fun a => V.int (f a))
  | [] => RepL.nil
  | a :: l => RepL.cons (by rw [Rep]) (repL_ints f l)
def wTupRng (wa : WE) : WE := fun ρ P => wa ρ fun r => match r.d with
  | .int n => rOk n ∧ P (.val (.tup (rngL 0 n.toNat)))
  | _ => False
def wLstRng (wa : WE) : WE := fun ρ P => wa ρ fun r => match r.d with
  | .int n => rOk n ∧ P (.own (.lst (rngL 0 n.toNat)))
  | _ => False
theorem rg_ok {n : Int} (h : rOk n) : RgOk 0 n := ⟨by omega, by omega, by have := h.1; omega, by have := h.2; omega, by have := h.2; omega⟩
theorem rg_rep {K : PySem.W.Frag} {F : Hp} (n : Int) : RepL K β F (rngL 0 n.toNat) (rgV 0 n) := by
  have : rgV 0 n = (List.range n.toNat).map fun i : Nat => V.int (0 + (i : Int)) := by unfold rgV; rw [Int.sub_zero]
  rw [this]
  exact repL_ints _ _
section
variable {a : Expr} {wa : WE} {p p2 pos pos2 : Pos}
def tTupRgD (te : L2.St → Hp → (Int → Int → Hp → Prop) → Prop) : TE := fun σ H Q => te σ H fun a b H1 => RgOk a b ∧ ∀ q its, H1 q = none → Q (.ref q) (newTup H1 q its (rgV a b))
theorem pe_tupRgD {e : Expr} {te : L2.St → Hp → (Int → Int → Hp → Prop) → Prop} (hc : X.calm = true) (hg : Gl X "tuple") (hm : X.mg "tuple" = none) (he : PRg X e te) (na : starEach [e] X.env = (false, eval e X.env) :: starEach [] X.env) : PE X (.Call (.Name "tuple" p) [e] [] pos) (tTupRgD te) := by
  refine ⟨fun pins s σ H Q I h => PyProof.Rows.Call_ (ld_blt I hg hm PyProof.Rows.boot_tuple (PyProof.Rows.callWith_type1 (PyProof.Rows.args_cons (thn (he pins s σ H _ I h) ?_) na) na))⟩
  rintro x s1 ⟨r, a, b, t, u, v, H1, rfl, hr, I1, ⟨b1, b2, b3, b4, b5⟩, q⟩
  refine PyProof.Rows.args_nil ?_
  refine call_tuple_range (n := (b - a).toNat) (I1.ok.hd hc) hr (small_one b1 b2 b3 b4) (PyProof.Rows.rangeSize_nat a b) b5 fun h' tk acc hk hi => ?_
  have J : Inv X pins σ H1 { s1 with heap := h', toks := tk } := I1.kept hk
  obtain ⟨J2, hf⟩ := lay_tup J (vals_rg hi) (by rw [rgV_length, sizeLine_eq]; omega)
  refine ⟨.ref _, _, ?_, rfl, q _ acc.toList hf⟩
  have e : tupO acc.toList = { cls := .type "tuple", data := .seq acc } := by unfold tupO; rw [Array.toArray_toList]
  rw [← e]
  exact J2
theorem pw_tupRng (h : PW X β a wa) (hm : X.mg "tuple" = none) (hm2 : X.mg "range" = none) (hc : X.calm = true := by rfl) (hg : Gl X "tuple" := by rfl) (hg2 : Gl X "range" := by rfl)
    (hs : starEach [a] X.env = (false, eval a X.env) :: starEach [] X.env := by rfl) (hs2 : starEach [.Call (.Name "range" p2) [a] [] pos2] X.env = (false, eval (.Call (.Name "range" p2) [a] [] pos2) X.env) :: starEach [] X.env := by rfl) :
    PW X β (.Call (.Name "tuple" p) [.Call (.Name "range" p2) [a] [] pos2] [] pos) (wTupRng wa) := by
  refine ⟨fun ρ P P' k q => h.mono ρ _ _ (fun r q => ?_) q, imp_E (pe_tupRgD hc hg hm (prg_1 hg2 hm2 h.opnd hs) hs2) fun σ H Q q => ?_⟩
  · split at q
    · exact ⟨q.1, k _ q.2⟩
    · exact q
  · obtain ⟨F, Hf, ρ, I, q⟩ := q
    refine ⟨F, Hf, ρ, I, h.mono ρ _ _ (fun r q F1 H1 v e1 I1 r1 => ?_) q⟩
    have g := r1.rd I1
    rw [fz_d] at g
    split at q
    · rename_i n hn
      rw [hn] at g
      refine ⟨n, g.int, rg_ok q.1, fun l its hl => ?_⟩
      obtain ⟨F2, e2, I2, r2⟩ := I1.newT (its := its) hl (by rw [rngL, List.length_map, List.length_range, sizeLine_eq]; have := q.1.2; omega) (rg_rep n)
      exact q.2 F2 _ _ (e1.trans e2) I2 r2
    · exact q.elim
theorem pw_lstRng (h : PW X β a wa) (hm : X.mg "list" = none) (hm2 : X.mg "range" = none) (hc : X.calm = true := by rfl) (hg : Gl X "list" := by rfl) (hg2 : Gl X "range" := by rfl)
    (hs : starEach [a] X.env = (false, eval a X.env) :: starEach [] X.env := by rfl) (hs2 : starEach [.Call (.Name "range" p2) [a] [] pos2] X.env = (false, eval (.Call (.Name "range" p2) [a] [] pos2) X.env) :: starEach [] X.env := by rfl) :
    PW X β (.Call (.Name "list" p) [.Call (.Name "range" p2) [a] [] pos2] [] pos) (wLstRng wa) := by
  refine ⟨fun ρ P P' k q => h.mono ρ _ _ (fun r q => ?_) q, imp_E (pe_listRg hc hg hm (prg_1 hg2 hm2 h.opnd hs) hs2) fun σ H Q q => ?_⟩
  · split at q
    · exact ⟨q.1, k _ q.2⟩
    · exact q
  · obtain ⟨F, Hf, ρ, I, q⟩ := q
    refine ⟨F, Hf, ρ, I, h.mono ρ _ _ (fun r q F1 H1 v e1 I1 r1 => ?_) q⟩
    have g := r1.rd I1
    rw [fz_d] at g
    split at q
    · rename_i n hn
      rw [hn] at g
      refine ⟨n, g.int, rg_ok q.1, fun l hl => ?_⟩
      obtain ⟨I2, r2⟩ := I1.newL hl (by rw [rngL, List.length_map, List.length_range, sizeLine_eq]; have := q.1.2; omega) (rg_rep n)
      exact q.2 F1 _ _ e1 I2 r2
    · exact q.elim
end

/-! ### a, b, c = x, y, z with plain names -/
theorem Rel.lift {K : PySem.W.Frag} {F Hf H : Hp} {ρ : WEnv} {σ : L2.St} {r : R} {v : V} {s : Slot} (I : Rel K β F Hf ρ σ H) (h : RepR K β F Hf ρ σ H r v) (hs : r.slot = some s) :
    ∃ Hf1, Rel K β F Hf1 ρ σ H ∧ ∀ (i : Nat) (F' : Hp) (ρ' : WEnv) (σ' : L2.St) (H' : Hp), Ex F F' → Rel K β F' Hf1 ρ' σ' H' → Rel K β F' Hf (ρ'.set i s) (σ'.set i (some v)) H' := by
  cases r with
  | val d =>
    cases hs
    exact ⟨Hf, I, fun i F' ρ' σ' H' e J => J.setVal i (Rep.mono e h)⟩
  | own d =>
    cases hs
    obtain ⟨p, rfl, f1, f2, f3, f4, f5⟩ := h
    obtain ⟨o, ho⟩ := f5.some
    refine ⟨upd Hf p o, ⟨I.fex, fun b u hb => ?_, I.bx, fun b hb => ?_, I.len, I.val, fun m dm hm => ?_, I.sep⟩, fun i F' ρ' σ' H' e J => ?_⟩
    · by_cases hbp : b = p
      · rw [hbp, upd_same] at hb
        rw [hbp]
        exact ⟨ho.trans hb, f1⟩
      · rw [upd_ne hbp] at hb; exact I.hex b u hb
    · have : b ≠ p := fun z => f3 (z ▸ hb)
      rw [upd_ne this]; exact I.bxF b hb
    · obtain ⟨b, g1, g2, g3, g4, g5⟩ := I.own m dm hm
      have : b ≠ p := fun z => f4 m dm hm (z ▸ g1)
      exact ⟨b, g1, g2, by rw [upd_ne this]; exact g3, g4, g5⟩
    · have sub : ∀ b u, Hf b = some u → (upd Hf p o) b = some u := fun b u hb => by
        have : b ≠ p := fun z => by rw [z, f2] at hb; cases hb
        rw [upd_ne this]; exact hb
      have non : ∀ b, (upd Hf p o) b = none → Hf b = none := fun b hb => by
        cases h : Hf b with
        | none => rfl
        | some u => rw [sub b u h] at hb; cases hb
      have hp := J.hex p o upd_same
      have J2 : Rel K β F' Hf ρ' σ' H' := by
        refine ⟨J.fex, fun b u hb => J.hex b u (sub b u hb), J.bx, fun b hb => ⟨(J.bxF b hb).1, non b (J.bxF b hb).2⟩, J.len, J.val, fun m dm hm => ?_, J.sep⟩
        obtain ⟨b, g1, g2, g3, g4, g5⟩ := J.own m dm hm
        exact ⟨b, g1, g2, non b g3, g4, g5⟩
      refine J2.setOwn i hp.2 f2 f3 (fun m dm hm hz => ?_) ((f5.at (by rw [ho]; exact hp.1)).mono e)
      obtain ⟨b, g1, g2, g3, g4, g5⟩ := J.own m dm hm
      rw [hz] at g1
      cases g1
      rw [upd_same] at g3
      cases g3
  | bor m d => cases hs
def wPar3 (i j l : Nat) (wa wb wc : WE) : SW := fun E ρ => wa ρ fun r => wb ρ fun s => wc ρ fun t => match r.slot, s.slot, t.slot with
  | some x, some y, some z => E.nx (((ρ.set i x).set j y).set l z)
  | _, _, _ => False
theorem par3_core {K : PySem.W.Frag} {i j l : Nat} {wa wb wc : WE} (hij : i ≠ j) (hil : i ≠ l) (hjl : j ≠ l) (ma : ∀ ρ P P', (∀ r, P r → P' r) → wa ρ P → wa ρ P') (mb : ∀ ρ P P', (∀ r, P r → P' r) → wb ρ P → wb ρ P') (mc : ∀ ρ P P', (∀ r, P r → P' r) → wc ρ P → wc ρ P') (E : Ends) (σ : L2.St) (H : Hp) (q : tS K β (wPar3 i j l wa wb wc) E σ H) :
    tW K β wa σ H fun x H1 => tW K β wb σ H1 fun y H2 => tW K β wc σ H2 fun z H3 => ∀ H4, (H4 = H3 ∨ ∃ p o, H3 p = none ∧ H4 = upd H3 p o) → E.nx (((σ.set i (some x)).set j (some y)).set l (some z)) H4 := by
  obtain ⟨F, Hf, ρ, WD, I, q, k⟩ := q
  refine ⟨F, Hf, ρ, I, ma ρ _ _ (fun r q F1 H1 u e1 I1 r1 => ?_) q⟩
  cases hr : r.slot with
  | none => exact ⟨F1, Hf, ρ, I1, mb ρ _ _ (fun s q F2 H2 v e2 I2 r2 => ⟨F2, Hf, ρ, I2, mc ρ _ _ (fun t q => by rw [hr] at q; exact q.elim) q⟩) q⟩
  | some sr =>
    obtain ⟨Hf1, J1, L1⟩ := Rel.lift I1 r1 hr
    refine ⟨F1, Hf1, ρ, J1, mb ρ _ _ (fun s q F2 H2 v e2 I2 r2 => ?_) q⟩
    cases hs' : s.slot with
    | none => exact ⟨F2, Hf1, ρ, I2, mc ρ _ _ (fun t q => by rw [hr, hs'] at q; exact q.elim) q⟩
    | some ss =>
      obtain ⟨Hf2, J2, L2'⟩ := Rel.lift I2 r2 hs'
      refine ⟨F2, Hf2, ρ, J2, mc ρ _ _ (fun t q F3 H3 w e3 I3 r3 H4 h4 => ?_) q⟩
      cases ht : t.slot with
      | none => rw [hr, hs', ht] at q; exact q.elim
      | some st =>
        rw [hr, hs', ht] at q
        obtain ⟨Hf3, J3, L3⟩ := Rel.lift I3 r3 ht
        have M1 := L3 l F3 _ _ H3 (Ex.refl F3) J3
        have M2 := L2' j F3 _ _ H3 e3 M1
        have M3 := L1 i F3 _ _ H3 (e2.trans e3) M2
        rw [List.set_comm _ _ (Ne.symm hjl), List.set_comm _ _ (Ne.symm hil), List.set_comm _ _ (Ne.symm hij), List.set_comm _ _ (Ne.symm hjl), List.set_comm _ _ (Ne.symm hil), List.set_comm _ _ (Ne.symm hij)] at M3
        rcases h4 with rfl | ⟨p, o, hp, rfl⟩
        · exact k.nx F3 _ _ _ ((e1.trans e2).trans e3) M3 q
        · exact k.nx F3 _ _ _ ((e1.trans e2).trans e3) (M3.grow hp) q
theorem ps_par3 {i j l : Nat} {x y z : Str} {a b c : Expr} {wa wb wc : WE} {px py pz pt pos : Pos} {kt k2 pt2} (hc : X.calm = true) (hN : X.N.Nodup) (hi : X.N[i]? = some x) (hj : X.N[j]? = some y) (hl : X.N[l]? = some z) (hij : i ≠ j) (hil : i ≠ l) (hjl : j ≠ l)
    (hx : X.env.scope.names.lookup x = some .local) (hy : X.env.scope.names.lookup y = some .local) (hz : X.env.scope.names.lookup z = some .local) (ha : PW X β a wa) (hb : PW X β b wb) (hcc : PW X β c wc)
    (hw : swappedStores [.Tuple [.Name x px, .Name y py, .Name z pz] kt pt] (.Tuple [a, b, c] k2 pt2) X.env = pure (some [x, y, z]))
    (hs : swapsWithSole [.Tuple [.Name x px, .Name y py, .Name z pz] kt pt] (.Tuple [a, b, c] k2 pt2) pos.line X.env = pure false := by rfl)
    (h1 : starEach [a, b, c] X.env = (false, eval a X.env) :: starEach [b, c] X.env := by rfl) (h2 : starEach [b, c] X.env = (false, eval b X.env) :: starEach [c] X.env := by rfl) (h3 : starEach [c] X.env = (false, eval c X.env) :: starEach [] X.env := by rfl) :
    PSW X β (.Assign [.Tuple [.Name x px, .Name y py, .Name z pz] kt pt] (.Tuple [a, b, c] k2 pt2) pos) (wPar3 i j l wa wb wc) := by
  refine ⟨fun A B ρ le q => ha.mono ρ _ _ (fun r q => hb.mono ρ _ _ (fun s q => hcc.mono ρ _ _ (fun t q => ?_) q) q) q, imp_S (L2.ps_par3 hc hN hi hj hl hij hil hjl hx hy hz (pa_cons ha.run (pa_cons hb.run (pa_cons hcc.run pa_nil h3) h2) h1) hw hs) fun E σ H q => ?_⟩
  · split at q
    · exact le.nx _ q
    · exact q
  · obtain ⟨F, Hf, ρ, I, q⟩ := par3_core hij hil hjl ha.mono hb.mono hcc.mono E σ H q
    refine ⟨F, Hf, ρ, I, ha.mono ρ _ _ (fun r k F1 H1 u e1 I1 r1 => ?_) q⟩
    obtain ⟨F2, Hf2, ρ2, I2, q2⟩ := k F1 H1 u e1 I1 r1
    refine ⟨F2, Hf2, ρ2, I2, hb.mono ρ2 _ _ (fun s k F3 H3 v e3 I3 r3 => ?_) q2⟩
    obtain ⟨F4, Hf4, ρ4, I4, q4⟩ := k F3 H3 v e3 I3 r3
    exact ⟨F4, Hf4, ρ4, I4, hcc.mono ρ4 _ _ (fun t k F5 H5 w e5 I5 r5 => ⟨u, v, w, rfl, k F5 H5 w e5 I5 r5 H5 (.inl rfl)⟩) q4⟩
/-- .. where a name is a comprehension's, too -/
theorem ps_par3T {i j l : Nat} {x y z : Str} {a b c : Expr} {wa wb wc : WE} {px py pz pt pos : Pos} {kt k2 pt2} (hN : X.N.Nodup) (hi : X.N[i]? = some x) (hj : X.N[j]? = some y) (hl : X.N[l]? = some z) (hij : i ≠ j) (hil : i ≠ l) (hjl : j ≠ l)
    (hx : Loc X.env.scope x) (hy : Loc X.env.scope y) (hz : Loc X.env.scope z) (ha : PW X β a wa) (hb : PW X β b wb) (hcc : PW X β c wc) (hc : X.calm = true := by rfl)
    (hw : swappedStores [.Tuple [.Name x px, .Name y py, .Name z pz] kt pt] (.Tuple [a, b, c] k2 pt2) X.env = pure none := by rfl)
    (hs : swapsWithSole [.Tuple [.Name x px, .Name y py, .Name z pz] kt pt] (.Tuple [a, b, c] k2 pt2) pos.line X.env = pure false := by rfl)
    (h0 : (assignEach [.Tuple [.Name x px, .Name y py, .Name z pz] kt pt] X.env).map (·.2) = [assign (.Tuple [.Name x px, .Name y py, .Name z pz] kt pt) X.env] := by rfl)
    (h1 : starEach [a, b, c] X.env = (false, eval a X.env) :: starEach [b, c] X.env := by rfl) (h2 : starEach [b, c] X.env = (false, eval b X.env) :: starEach [c] X.env := by rfl) (h3 : starEach [c] X.env = (false, eval c X.env) :: starEach [] X.env := by rfl)
    (hn : (assignEach [.Name x px, .Name y py, .Name z pz] X.env).length = 3 := by rfl) (hst : (assignEach [.Name x px, .Name y py, .Name z pz] X.env).findIdx? (·.1) = none := by rfl)
    (g1 : (assignEach [.Name x px, .Name y py, .Name z pz] X.env).map (·.2) = assign (.Name x px) X.env :: (assignEach [.Name y py, .Name z pz] X.env).map (·.2) := by rfl)
    (g2 : (assignEach [.Name y py, .Name z pz] X.env).map (·.2) = assign (.Name y py) X.env :: (assignEach [.Name z pz] X.env).map (·.2) := by rfl)
    (g3 : (assignEach [.Name z pz] X.env).map (·.2) = assign (.Name z pz) X.env :: (assignEach [] X.env).map (·.2) := by rfl)
    (f1 : X.fn x = true ∨ X.env.scope.names.lookup x = some .local := by first | exact .inl rfl | exact .inr rfl) (f2 : X.fn y = true ∨ X.env.scope.names.lookup y = some .local := by first | exact .inl rfl | exact .inr rfl) (f3 : X.fn z = true ∨ X.env.scope.names.lookup z = some .local := by first | exact .inl rfl | exact .inr rfl) :
    PSW X β (.Assign [.Tuple [.Name x px, .Name y py, .Name z pz] kt pt] (.Tuple [a, b, c] k2 pt2) pos) (wPar3 i j l wa wb wc) := by
  have tg : PG X (.Tuple [.Name x px, .Name y py, .Name z pz] kt pt) (gTgt X.K (.tup [i, j, l])) := pg_tup hc (pgs_cons (pg_name hN hi hx f1) (pgs_cons (pg_name hN hj hy f2) (pgs_cons (pg_name hN hl hz f3) pgs_nil g3) g2) g1) hn hst
  refine ⟨fun A B ρ le q => ha.mono ρ _ _ (fun r q => hb.mono ρ _ _ (fun s q => hcc.mono ρ _ _ (fun t q => ?_) q) q) q, imp_S (L2.ps_asg (pe_tup (pa_cons ha.run (pa_cons hb.run (pa_cons hcc.run pa_nil h3) h2) h1)) tg hs hw h0) fun E σ H q => ?_⟩
  · split at q
    · exact le.nx _ q
    · exact q
  · obtain ⟨F, Hf, ρ, I, q⟩ := par3_core hij hil hjl ha.mono hb.mono hcc.mono E σ H q
    refine ⟨F, Hf, ρ, I, ha.mono ρ _ _ (fun r k F1 H1 u e1 I1 r1 => ?_) q⟩
    obtain ⟨F2, Hf2, ρ2, I2, q2⟩ := k F1 H1 u e1 I1 r1
    refine ⟨F2, Hf2, ρ2, I2, hb.mono ρ2 _ _ (fun s k F3 H3 v e3 I3 r3 => ?_) q2⟩
    obtain ⟨F4, Hf4, ρ4, I4, q4⟩ := k F3 H3 v e3 I3 r3
    refine ⟨F4, Hf4, ρ4, I4, hcc.mono ρ4 _ _ (fun t k F5 H5 w e5 I5 r5 => ⟨by show 3 ≤ sizeLine; decide, fun p hp => ?_⟩) q4⟩
    refine ⟨p, [u, v, w], rfl, .inl (.inl upd_same), rfl, u, [v, w], rfl, v, [w], rfl, w, [], rfl, rfl, ?_⟩
    exact k F5 H5 w e5 I5 r5 _ (.inr ⟨p, _, hp, rfl⟩)

/-! ### tuple(s), list(s) of a text -/
theorem sign_vals {x : List Nat} {acc : Array Value} (h : ItemsOf (SignAt (mkS x)) acc (mkS x).cps.size) : Vals (x.map fun c => V.str (mkS [c])) acc.toList := by
  obtain ⟨h1, h2⟩ := h
  have h1 : acc.size = x.length := h1
  refine vals_of_at (by rw [List.length_map, Array.length_toList]; exact h1.symm) fun j y u hy hu => ?_
  rw [Array.getElem?_toList] at hu
  obtain ⟨c, t, hc, rfl⟩ := h2 j u hu
  have hc : x.toArray[j]? = some c := hc
  rw [List.getElem?_toArray] at hc
  rw [List.getElem?_map, hc] at hy
  cases hy
  exact ⟨t, rfl⟩
theorem call_tupleS (hc : X.calm = true) : CallR X (.type "tuple") (fun xs H Q => ∃ x : List Nat, xs = [.str (mkS x)] ∧ x.length ≤ sizeLine ∧ ∀ l its, H l = none → Q (.ref l) (newTup H l its (x.map fun c => V.str (mkS [c])))) := by
  rintro pins s σ H xs us Q I r ⟨x, rfl, hz, q⟩
  obtain ⟨u, rfl, t, rfl⟩ := vals1 r
  refine call_tuple_str (I.ok.hd hc) (mkS x) t (fun h' tk acc hk hi => ?_) hz
  have J : Inv X pins σ H { s with heap := h', toks := tk } := I.kept hk
  obtain ⟨J2, hf⟩ := lay_tup J (sign_vals hi) (by rw [List.length_map]; exact hz)
  refine ⟨.ref _, _, ?_, rfl, q _ acc.toList hf⟩
  have e : tupO acc.toList = { cls := .type "tuple", data := .seq acc } := by unfold tupO; rw [Array.toArray_toList]
  rw [← e]
  exact J2
theorem call_listS (hc : X.calm = true) : CallR X (.type "list") (fun xs H Q => ∃ x : List Nat, xs = [.str (mkS x)] ∧ x.length ≤ sizeLine ∧ ∀ l, H l = none → Q (.ref l) (upd H l (.lst (x.map fun c => V.str (mkS [c]))))) := by
  rintro pins s σ H xs us Q I r ⟨x, rfl, hz, q⟩
  obtain ⟨u, rfl, t, rfl⟩ := vals1 r
  refine call_list_str (I.ok.hd hc) (mkS x) t (fun h' tk acc c hk hS hi => ?_) hz
  have hf := I.hok.fresh (Nat.le_refl s.heap.objs.size)
  refine ⟨.ref _, _, I.laid hk (Nat.le_refl _) (show ObjOk X.prog X.w _ h' _ (.lst (x.map fun c => V.str (mkS [c]))) from ⟨by rw [List.length_map]; exact hz, acc.toList, c, sign_vals hi, by rw [Array.toArray_toList]; exact hS⟩), rfl, q _ hf⟩
theorem repL_signs {K : PySem.W.Frag} {F : Hp} : ∀ {x : List Nat}, (∀ c ∈ x, c < 128) → RepL K β F (x.map fun c => .str [c]) (x.map fun c => V.str (mkS [c]))
  | [], _ => RepL.nil
  | c :: x, h => RepL.cons (by rw [Rep]; exact ⟨rfl, by rw [sizeLine_eq]; show 1 ≤ _; omega, fun d hd => by rw [List.mem_singleton] at hd; rw [hd]; exact h c List.mem_cons_self⟩) (repL_signs fun d hd => h d (List.mem_cons_of_mem _ hd))
def oTupleA : CD := fun ds P => match ds with
  | [.str x] => P (.val (.tup (x.map fun c => .str [c])))
  | _ => oTuple ds P
def oListA : CD := fun ds P => match ds with
  | [.str x] => P (.own (.lst (x.map fun c => .str [c])))
  | _ => oList ds P
theorem c_tupleA (hc : X.calm = true) : CaD X β (.type "tuple") oTupleA := by
  obtain ⟨m0, rr, h1, h2⟩ := c_tuple (X := X) (β := β)
  refine ⟨fun ds P P' k q => ?_, _, h1.or (call_tupleS hc), fun F Hf ρ σ H ds xs Q I r q => ?_⟩
  · unfold oTupleA at q ⊢
    split at q
    · exact k _ q
    · exact m0 _ _ _ k q
  · unfold oTupleA at q
    split at q
    · obtain ⟨v, rfl, r1⟩ := r.one
      obtain ⟨rfl, hx⟩ := r1.str
      exact .inr ⟨_, rfl, hx.1, fun l its hl => q.newT I hl (by rw [List.length_map]; exact hx.1) (repL_signs hx.2)⟩
    · exact .inl (h2 F Hf ρ σ H ds xs Q I r q)
theorem c_listA (hc : X.calm = true) : CaD X β (.type "list") oListA := by
  obtain ⟨m0, rr, h1, h2⟩ := c_list (X := X) (β := β)
  refine ⟨fun ds P P' k q => ?_, _, h1.or (call_listS hc), fun F Hf ρ σ H ds xs Q I r q => ?_⟩
  · unfold oListA at q ⊢
    split at q
    · exact k _ q
    · exact m0 _ _ _ k q
  · unfold oListA at q
    split at q
    · obtain ⟨v, rfl, r1⟩ := r.one
      obtain ⟨rfl, hx⟩ := r1.str
      exact .inr ⟨_, rfl, hx.1, fun l hl => q.newL I hl (by rw [List.length_map]; exact hx.1) (repL_signs hx.2)⟩
    · exact .inl (h2 F Hf ρ σ H ds xs Q I r q)
end
end WL
set_option Elab.async false
set_option linter.all false
set_option autoImplicit false
set_option maxRecDepth 100000
namespace WL
open PySem PySem.Spec L2

/-! ### plain values that may be drawn, and the law's bending of them -/
mutual
def pvN (B : Nat) : Nat → D → Bool
  | _, .non => true
  | _, .bl _ => true
  | _, .int _ => true
  | _, .str x => decide (x.length ≤ B)
  | 0, _ => false
  | n + 1, .tup xs => decide (xs.length ≤ B) && pvL B n xs
  | _, _ => false
def pvL (B : Nat) : Nat → List D → Bool
  | _, [] => true
  | n, d :: ds => pvN B n d && pvL B n ds
end
theorem pvL_of {B n : Nat} : ∀ {ds : List D}, (∀ d ∈ ds, pvN B n d = true) → pvL B n ds = true
  | [], _ => rfl
  | d :: ds, h => by rw [pvL, h d List.mem_cons_self, pvL_of fun e he => h e (List.mem_cons_of_mem _ he)]; rfl
theorem pvL_mem {B n : Nat} : ∀ {ds : List D}, pvL B n ds = true → ∀ d ∈ ds, pvN B n d = true
  | [], _, _, h => nomatch h
  | e :: ds, h, d, hd => by
    rw [pvL, Bool.and_eq_true] at h
    rcases List.mem_cons.mp hd with rfl | hd
    · exact h.1
    · exact pvL_mem h.2 d hd
theorem pv_tup {B n : Nat} {xs : List D} (h : xs.length ≤ B) (g : ∀ d ∈ xs, pvN B n d = true) : pvN B (n + 1) (.tup xs) = true := by
  rw [pvN, decide_eq_true h, pvL_of g]; rfl
theorem pv_str {B n : Nat} {x : List Nat} (h : x.length ≤ B) : pvN B n (.str x) = true := by
  cases n <;> exact decide_eq_true h
theorem pv_str' {B n : Nat} {x : List Nat} (h : pvN B n (.str x) = true) : x.length ≤ B := by
  cases n <;> exact of_decide_eq_true h
theorem pv_tup' {B n : Nat} {xs : List D} (h : pvN B n (.tup xs) = true) : ∃ m, n = m + 1 ∧ xs.length ≤ B ∧ ∀ d ∈ xs, pvN B m d = true := by
  cases n with
  | zero => simp [pvN] at h
  | succ m =>
    rw [pvN, Bool.and_eq_true] at h
    exact ⟨m, rfl, of_decide_eq_true h.1, pvL_mem h.2⟩
mutual
theorem pvN_mono {B B' : Nat} (hB : B ≤ B') : ∀ (n : Nat) (d : D) {m : Nat}, n ≤ m → pvN B n d = true → pvN B' m d = true
  | n, .non, m, _, _ => by cases m <;> rfl
  | n, .bl _, m, _, _ => by cases m <;> rfl
  | n, .int _, m, _, _ => by cases m <;> rfl
  | n, .str x, m, _, h => pv_str (Nat.le_trans (pv_str' h) hB)
  | 0, .tup xs, m, _, h => by simp [pvN] at h
  | n + 1, .tup xs, m, hm, h => by
    cases m with
    | zero => omega
    | succ m =>
      rw [pvN, Bool.and_eq_true] at h ⊢
      exact ⟨decide_eq_true (Nat.le_trans (of_decide_eq_true h.1) hB), pvL_mono hB n xs (by omega) h.2⟩
  | n, .lst _, m, _, h => by cases n <;> simp [pvN] at h
  | n, .dct _ _, m, _, h => by cases n <;> simp [pvN] at h
  | n, .box, m, _, h => by cases n <;> simp [pvN] at h
theorem pvL_mono {B B' : Nat} (hB : B ≤ B') : ∀ (n : Nat) (ds : List D) {m : Nat}, n ≤ m → pvL B n ds = true → pvL B' m ds = true
  | _, [], _, _, _ => rfl
  | n, d :: ds, m, hm, h => by
    rw [pvL, Bool.and_eq_true] at h
    rw [pvL, pvN_mono hB n d hm h.1, pvL_mono hB n ds hm h.2]; rfl
end
mutual
theorem pv_fit {B : Nat} (hB : B ≤ 16777216) : ∀ (n : Nat) (d : D), pvN B n d = true → fitN n d = true
  | n, .non, _ => by cases n <;> rfl
  | n, .bl _, _ => by cases n <;> rfl
  | n, .int _, _ => by cases n <;> rfl
  | n, .str x, _ => by cases n <;> rfl
  | 0, .tup xs, h => by simp [pvN] at h
  | n + 1, .tup xs, h => by
    rw [pvN, Bool.and_eq_true] at h
    rw [fitN, Bool.and_eq_true]
    exact ⟨decide_eq_true (Nat.le_trans (of_decide_eq_true h.1) hB), pv_fitL hB n xs h.2⟩
  | n, .lst _, h => by cases n <;> simp [pvN] at h
  | n, .dct _ _, h => by cases n <;> simp [pvN] at h
  | n, .box, h => by cases n <;> simp [pvN] at h
theorem pv_fitL {B : Nat} (hB : B ≤ 16777216) : ∀ (n : Nat) (ds : List D), pvL B n ds = true → fitL n ds = true
  | _, [], _ => rfl
  | n, d :: ds, h => by
    rw [pvL, Bool.and_eq_true] at h
    rw [fitL, pv_fit hB n d h.1, pv_fitL hB n ds h.2]; rfl
end
mutual
theorem pv_shp {B : Nat} : ∀ (n m : Nat) (d : D), n ≤ m → pvN B n d = true → shpN m d = true
  | n, m, .non, _, _ => by cases m <;> rfl
  | n, m, .bl _, _, _ => by cases m <;> rfl
  | n, m, .int _, _, _ => by cases m <;> rfl
  | n, m, .str x, _, _ => by cases m <;> rfl
  | 0, m, .tup xs, _, h => by simp [pvN] at h
  | n + 1, m, .tup xs, hm, h => by
    cases m with
    | zero => omega
    | succ m =>
      rw [pvN, Bool.and_eq_true] at h
      rw [shpN]
      exact pv_shpL n m xs (by omega) h.2
  | n, m, .lst _, _, h => by cases n <;> simp [pvN] at h
  | n, m, .dct _ _, _, h => by cases n <;> simp [pvN] at h
  | n, m, .box, _, h => by cases n <;> simp [pvN] at h
theorem pv_shpL {B : Nat} : ∀ (n m : Nat) (ds : List D), n ≤ m → pvL B n ds = true → shpL m ds = true
  | _, _, [], _, _ => rfl
  | n, m, d :: ds, hm, h => by
    rw [pvL, Bool.and_eq_true] at h
    rw [shpL, pv_shp n m d hm h.1, pv_shpL n m ds hm h.2]; rfl
end
theorem draw_go {n : Int} {P : D → Prop} (h : 0 < n) (h' : n < 1073741824) (q : ∀ i : Int, 0 ≤ i → i < n → P (.int i)) : sDraw.f [.box, .int n] P := by
  refine ⟨⟨n, rfl, h, h'⟩, ?_⟩
  rintro d ⟨m, i, e, h0, h1, rfl⟩
  injection e with _ e
  injection e with e _
  injection e with e
  subst e
  exact q i h0 h1
/-- some item -/
theorem at_mem {α : Type} {xs : List α} {p : Int} (h : 0 ≤ p) (h' : p < xs.length) : ∃ d, d ∈ xs ∧ atI xs p = some d := by
  have hl : p.toNat < xs.length := by omega
  exact ⟨xs[p.toNat], List.getElem_mem hl, atI_i h (List.getElem?_eq_getElem hl)⟩
def boxD (v : D) : List D := [.box, v]
def BV : Nat := 100000
def BW : Nat := 300000
def sBent (n : Nat) : Sx := .some boxD (fun v => ∃ m, n = m + 1 ∧ pvN BV m v = true) fun v d => pvN BW n d = true
theorem bent_bot : ∀ ds P, ¬ (sBent 0).f ds P := fun ds P ⟨_, _, ⟨m, h, _⟩, _⟩ => by omega
def w_bent (s_law_draw : Sx) (s_law_bent : Sx) : SW := (wSeq (wIfS (wAnd (wTest (wIsi .tuple (wName 1))) (wAnd (wTB (wOp oGt (wB oLen (wCons (wName 1) wNil)) (wC (.int 0)))) (wTB (wOp oGt (wCall s_law_draw 2 (wCons (wName 0) (wCons (wC (.int 5)) wNil))) (wC (.int 0)))))) (wSeq (wSet 2 (wCall s_law_draw 2 (wCons (wName 0) (wCons (wB oLen (wCons (wName 1) wNil)) wNil))))
      (wRet (wOp oAdd (wOp oAdd (wSl (wName 1) wNo (wPt (wName 2))) (wTup (wCons (wCall s_law_bent 2 (wCons (wName 0) (wCons (wOp oIx (wName 1) (wName 2)) wNil))) wNil))) (wSl (wName 1) (wPt (wOp oAdd (wName 2) (wC (.int 1)))) wNo)))) wSkip)
      (wSeq (wSet 3 (wCall s_law_draw 2 (wCons (wName 0) (wCons (wC (.int 8)) wNil))))
      (wSeq (wIfS (wTest (wIsi .tuple (wName 1))) (wRet (wOp oIx (wLst (wCons (wOp oAdd (wName 1) (wSl (wName 1) wNo (wPt (wC (.int 1))))) (wCons (wSl (wName 1) (wPt (wC (.int 1))) wNo) (wCons (wRev (wName 1)) (wCons (wOp oAdd (wName 1) (wTup (wCons (wC (.str [97])) wNil))) (wCons (wTup (wCons (wName 1) wNil)) (wCons (wSl (wName 1) wNo (wPt (wUn oNeg (wC (.int 1))))) (wCons (wC .non) (wCons (wOp oAdd (wName 1) (wTup (wCons (wTup wNil) wNil))) wNil))))))))) (wName 3))) wSkip)
      (wSeq (wIfS (wTest (wIsi .str (wName 1))) (wRet (wOp oIx (wLst (wCons (wOp oAdd (wName 1) (wC (.str [97]))) (wCons (wSl (wName 1) (wPt (wC (.int 1))) wNo) (wCons (wRev (wName 1)) (wCons (wSl (wName 1) wNo (wPt (wUn oNeg (wC (.int 1))))) (wCons (wOp oAdd (wName 1) (wName 1)) (wCons (wC .non) (wCons (wTup (wCons (wName 1) wNil)) (wCons (wM "str" oUpper (wName 1) wNil) wNil))))))))) (wName 3))) wSkip)
      (wSeq (wIfS (wAnd (wTest (wIsi .int (wName 1))) (wNotT (wTest (wIsi .bool (wName 1))))) (wRet (wOp oIx (wLst (wCons (wOp oAdd (wName 1) (wC (.int 1))) (wCons (wOp oSub (wName 1) (wC (.int 1))) (wCons (wOp oAdd (wName 1) (wC (.int 1))) (wCons (wOp oEq (wName 1) (wC (.int 1))) (wCons (wC .non) (wCons (wC (.str [97])) (wCons (wUn oNeg (wName 1)) (wCons (wTup (wCons (wName 1) wNil)) wNil))))))))) (wName 3))) wSkip)
      (wRet (wOp oIx (wLst (wCons (wC (.int 0)) (wCons (wC (.int 1)) (wCons (wC .non) (wCons (wC (.bl true)) (wCons (wC (.str [97])) (wCons (wTup wNil) (wCons (wTup (wCons (wC (.str [97])) wNil)) (wCons (wUn oNeg (wC (.int 1))) wNil))))))))) (wName 3))))))))
theorem sem_bent (n : Nat) : ∀ ds R, ds.length = 2 → (sBent (n + 1)).f ds R → w_bent sDraw (sBent n) { nx := fun _ => R .non, rt := R } (startW 4 ds) := by
  intro ds R _ ⟨v, hv, ⟨m, hm, hp⟩, h⟩
  subst hv
  obtain rfl : n = m := by omega
  have h : ∀ d, pvN BW (n + 1) d = true → R d := h
  have pick : ∀ (es : List D) (p : Int), 0 ≤ p → p < es.length → (∀ d ∈ es, pvN BW (n + 1) d = true) → match atI es p with | some v => R v | none => False := by
    intro es p h0 h1 hh
    obtain ⟨d, h2, h3⟩ := at_mem h0 h1
    rw [h3]; exact h d (hh d h2)
  cases v with
  | box => cases n <;> simp [pvN] at hp
  | dct _ _ => cases n <;> simp [pvN] at hp
  | lst _ => cases n <;> simp [pvN] at hp
  | non =>
    refine ifP_f (ifP_f ⟨rfl, draw_go (by omega) (by omega) fun p h0 h1 => ifP_f (ifP_f (ifP_f (ifP_f ?_)))⟩)
    exact pick [.int 0, .int 1, .non, .bl true, .str [97], .tup [], .tup [.str [97]], .int (-1)] p h0 h1 (fun d hd => pvN_mono (B := 300000) (Nat.le_refl _) 1 d (by omega) (by
      simp only [List.mem_cons, List.not_mem_nil, or_false] at hd
      rcases hd with rfl | rfl | rfl | rfl | rfl | rfl | rfl | rfl <;> rfl))
  | bl b =>
    refine ifP_f (ifP_f ⟨rfl, draw_go (by omega) (by omega) fun p h0 h1 => ifP_f (ifP_f (ifP_t (ifP_f ?_)))⟩)
    exact pick [.int 0, .int 1, .non, .bl true, .str [97], .tup [], .tup [.str [97]], .int (-1)] p h0 h1 (fun d hd => pvN_mono (B := 300000) (Nat.le_refl _) 1 d (by omega) (by
      simp only [List.mem_cons, List.not_mem_nil, or_false] at hd
      rcases hd with rfl | rfl | rfl | rfl | rfl | rfl | rfl | rfl <;> rfl))
  | int i =>
    refine ifP_f (ifP_f ⟨rfl, draw_go (by omega) (by omega) fun p h0 h1 => ifP_f (ifP_f (ifP_t (ifP_t ?_)))⟩)
    exact pick [.int (i + 1), .int (i - 1), .int (i + 1), .bl (peq (.int i) (.int 1)), .non, .str [97], .int (-i), .tup [.int i]] p h0 h1 (fun d hd => pvN_mono (B := 300000) (Nat.le_refl _) 1 d (by omega) (by
      simp only [List.mem_cons, List.not_mem_nil, or_false] at hd
      rcases hd with rfl | rfl | rfl | rfl | rfl | rfl | rfl | rfl <;> rfl))
  | str x =>
    have hx : x.length ≤ 100000 := pv_str' hp
    have c1 := cutL_len x (some 1) none
    have c2 := cutL_len x none (some (-1))
    refine ifP_f (ifP_f ⟨rfl, draw_go (by omega) (by omega) fun p h0 h1 => ifP_f (ifP_t ?_)⟩)
    refine ⟨by show x.length + 1 ≤ _; omega, by omega, rfl, by omega, ?_⟩
    refine pick [.str (x ++ [97]), .str (cutL x (some 1) none), .str x.reverse, .str (cutL x none (some (-1))), .str (x ++ x), .non, .tup [.str x], .str (x.map upC)] p h0 h1 (fun d hd => ?_)
    simp only [List.mem_cons, List.not_mem_nil, or_false] at hd
    have hb : BW = 300000 := rfl
    rcases hd with rfl | rfl | rfl | rfl | rfl | rfl | rfl | rfl
    · exact pv_str (by rw [List.length_append, hb]; simp; omega)
    · exact pv_str (by rw [hb]; omega)
    · exact pv_str (by rw [List.length_reverse, hb]; omega)
    · exact pv_str (by rw [hb]; omega)
    · exact pv_str (by rw [List.length_append, hb]; omega)
    · rfl
    · exact pv_tup (by rw [hb]; show 1 ≤ _; omega) fun d hd => by rw [List.mem_singleton] at hd; rw [hd]; exact pv_str (by rw [hb]; omega)
    · exact pv_str (by rw [List.length_map, hb]; omega)
  | tup xs =>
    obtain ⟨m, rfl, hl, hx⟩ := pv_tup' hp
    have hl : xs.length ≤ 100000 := hl
    have hb : BW = 300000 := rfl
    have hxs : ∀ d ∈ xs, pvN BW (m + 1) d = true := fun d hd => pvN_mono (show BV ≤ BW by decide) m d (by omega) (hx d hd)
    have c1 := cutL_len xs none (some 1)
    have c2 := cutL_len xs none (some (-1))
    have c3 := cutL_len xs (some 1) none
    have rest : ∀ E : WEnds, E.rt = R → wSeq (wSet 3 (wCall sDraw 2 (wCons (wName 0) (wCons (wC (.int 8)) wNil)))) (wIfS (wTest (wIsi .tuple (wName 1))) (wRet (wOp oIx (wLst (wCons (wOp oAdd (wName 1) (wSl (wName 1) wNo (wPt (wC (.int 1))))) (wCons (wSl (wName 1) (wPt (wC (.int 1))) wNo) (wCons (wRev (wName 1)) (wCons (wOp oAdd (wName 1) (wTup (wCons (wC (.str [97])) wNil))) (wCons (wTup (wCons (wName 1) wNil)) (wCons (wSl (wName 1) wNo (wPt (wUn oNeg (wC (.int 1))))) (wCons (wC .non) (wCons (wOp oAdd (wName 1) (wTup (wCons (wTup wNil) wNil))) wNil))))))))) (wName 3))) wSkip) E [.val .box, .val (.tup xs), .un, .un] := by
      intro E hE
      refine ⟨rfl, draw_go (by omega) (by omega) fun p h0 h1 => ifP_t ?_⟩
      refine ⟨by omega, by show xs.length + 1 ≤ _; omega, by show xs.length + 1 ≤ _; omega, ?_⟩
      show match atI [.tup (xs ++ cutL xs none (some 1)), .tup (cutL xs (some 1) none), .tup xs.reverse, .tup (xs ++ [.str [97]]), .tup [.tup xs], .tup (cutL xs none (some (-1))), .non, .tup (xs ++ [.tup []])] p with | some v => E.rt v | none => False
      rw [hE]
      refine pick [.tup (xs ++ cutL xs none (some 1)), .tup (cutL xs (some 1) none), .tup xs.reverse, .tup (xs ++ [.str [97]]), .tup [.tup xs], .tup (cutL xs none (some (-1))), .non, .tup (xs ++ [.tup []])] p h0 h1 (fun d hd => ?_)
      simp only [List.mem_cons, List.not_mem_nil, or_false] at hd
      rcases hd with rfl | rfl | rfl | rfl | rfl | rfl | rfl | rfl
      · refine pv_tup (by rw [List.length_append, hb]; omega) fun d hd => ?_
        rcases List.mem_append.mp hd with hd | hd
        · exact hxs d hd
        · exact hxs d (cutL_mem hd)
      · exact pv_tup (by rw [hb]; omega) fun d hd => hxs d (cutL_mem hd)
      · exact pv_tup (by rw [List.length_reverse, hb]; omega) fun d hd => hxs d (List.mem_reverse.mp hd)
      · refine pv_tup (by rw [List.length_append, hb]; simp; omega) fun d hd => ?_
        rcases List.mem_append.mp hd with hd | hd
        · exact hxs d hd
        · rw [List.mem_singleton] at hd; rw [hd]; exact pv_str (by rw [hb]; show 1 ≤ _; omega)
      · refine pv_tup (by rw [hb]; show 1 ≤ _; omega) fun d hd => ?_
        rw [List.mem_singleton] at hd; rw [hd]
        exact pv_tup (by rw [hb]; omega) fun d hd => pvN_mono (show BV ≤ BW by decide) m d (Nat.le_refl _) (hx d hd)
      · exact pv_tup (by rw [hb]; omega) fun d hd => hxs d (cutL_mem hd)
      · rfl
      · refine pv_tup (by rw [List.length_append, hb]; simp; omega) fun d hd => ?_
        rcases List.mem_append.mp hd with hd | hd
        · exact hxs d hd
        · rw [List.mem_singleton] at hd; rw [hd]; exact pv_tup (by rw [hb]; show 0 ≤ _; omega) fun d hd => nomatch hd
    refine ifP_t (ifP_b (fun hz => ⟨rfl, draw_go (by omega) (by omega) fun q hq0 hq1 => ifP_b (fun _ => ?_) (fun _ => ?_)⟩) (fun hz => ifP_f ?_))
    · have hz : (0 : Int) < (xs.length : Int) := of_decide_eq_true hz
      refine ⟨rfl, draw_go hz (by omega) fun j hj0 hj1 => ?_⟩
      obtain ⟨d, hd, ed⟩ := at_mem hj0 hj1
      show match atI xs j with | some v => _ | none => False
      rw [ed]
      refine ⟨rfl, d, rfl, ⟨m, rfl, hx d hd⟩, fun d' hd' => ?_⟩
      have e1 : (cutL xs none (some j)).length = j.toNat := by rw [cut_hi _ hj0, List.length_take]; omega
      have e2 : (cutL xs (some (j + 1)) none).length = xs.length - (j + 1).toNat := by rw [cut_lo _ (by omega), List.length_drop]
      refine ⟨by rw [e1]; show j.toNat + 1 ≤ _; omega, ⟨by rw [List.length_append, e1, e2]; show j.toNat + 1 + _ ≤ _; omega, ?_⟩⟩
      refine h _ (pv_tup (by rw [List.length_append, List.length_append, e1, e2, hb]; show j.toNat + 1 + _ ≤ _; omega) fun e he => ?_)
      rcases List.mem_append.mp he with he | he
      · rcases List.mem_append.mp he with he | he
        · exact hxs e (cutL_mem he)
        · rw [List.mem_singleton] at he; rw [he]; exact hd'
      · exact hxs e (cutL_mem he)
    · exact rest _ rfl
    · exact rest _ rfl
end WL
set_option Elab.async false
set_option linter.all false
set_option autoImplicit false
set_option maxRecDepth 100000
namespace WL
open PySem PySem.Spec L2

/-! ### the law's word of letters, some of which repeat themselves -/
abbrev LETT : List Nat := [97, 98, 99, 100, 101, 102, 103, 104, 105, 106, 107, 108, 109, 110, 111, 112, 113, 114, 115, 116, 117, 118, 119, 120, 121, 122]
def s_letters : Sx := .of (fun _ : Unit => []) (fun _ => True) fun _ => .str LETT
def w_letters : SW := (wRet (wC (.str [97, 98, 99, 100, 101, 102, 103, 104, 105, 106, 107, 108, 109, 110, 111, 112, 113, 114, 115, 116, 117, 118, 119, 120, 121, 122])))
theorem sem_letters : ∀ ds R, ds.length = 0 → s_letters.f ds R → w_letters { nx := fun _ => R .non, rt := R } (startW 0 ds) := by
  intro ds R _ ⟨_, hx, _, h⟩
  subst hx
  exact h
theorem lett_mem {c : Nat} : c ∈ LETT ↔ 97 ≤ c ∧ c ≤ 122 := by
  simp only [List.mem_cons, List.not_mem_nil, or_false]; omega
theorem lc_list {t : Tgt} {we : WE} {ρ : WEnv} {l : List D} {Q : List D → Prop} (f : D → D) (hs : ∀ a ∈ l, ∃ ρ', bindT t a ρ = some ρ' ∧ ∀ Q : R → Prop, (∀ r, r.fz = .val (f a) → Q r) → we ρ' Q)
    (q : Q (l.map f)) : wLcL t wYes we ρ l [] Q := by
  have := lc_map (g := fun d : D => d) (l := l) f hs q
  rwa [List.map_id'] at this
theorem atI_last {α : Type} {xs : List α} {a : α} (h : xs.getLast? = some a) : atI xs (-1) = some a := by
  cases xs with
  | nil => cases h
  | cons b l =>
    unfold atI ixN
    rw [if_neg (by omega), if_pos (by rw [List.length_cons]; omega)]
    show (b :: l)[((-1 : Int) + ((b :: l).length : Int)).toNat]? = _
    rw [← h, List.getLast?_eq_getElem?]
    congr 1
    rw [List.length_cons]
    omega
theorem filter_last (p : Nat → Bool) : ∀ m, (List.range m).filter p ≠ [] → ∃ j, ((List.range m).filter p).getLast? = some j ∧ j < m ∧ p j = true ∧ ∀ j', j < j' → j' < m → p j' = false
  | 0, h => absurd rfl h
  | m + 1, h => by
    rw [List.range_succ, List.filter_append]
    cases hp : p m with
    | true =>
      refine ⟨m, by rw [List.filter_cons, if_pos hp]; simp, by omega, hp, fun j' h1 h2 => by omega⟩
    | false =>
      have e : [m].filter p = [] := by rw [List.filter_cons, if_neg (by rw [hp]; exact Bool.false_ne_true)]; rfl
      rw [e, List.append_nil]
      rw [List.range_succ, List.filter_append, e, List.append_nil] at h
      obtain ⟨j, h1, h2, h3, h4⟩ := filter_last p m h
      refine ⟨j, h1, by omega, h3, fun j' h5 h6 => ?_⟩
      by_cases hq : j' = m
      · rw [hq]; exact hp
      · exact h4 j' h5 (by omega)
def wordA2 (p : Int × Int) : List D := [.box, .int p.1, .int p.2]
def sWord2 : Sx := .some wordA2 (fun p => 0 ≤ p.1 ∧ p.1 ≤ 60 ∧ 1 ≤ p.2 ∧ p.2 ≤ 26) fun p d => ∃ w : List Nat, d = .str w ∧ (w.length : Int) ≤ p.1 ∧ ∀ c ∈ w, 97 ≤ c ∧ c ≤ 122
def w_word2 (s_law_draw : Sx) (s_law_letters : Sx) : SW := (wSeq (wPar 3 4 (wCall s_law_draw 2 (wCons (wName 0) (wCons (wOp oAdd (wName 1) (wC (.int 1))) wNil))) (wCall s_law_draw 2 (wCons (wName 0) (wCons (wC (.int 4)) wNil))))
      (wSeq (wSet 5 (wLc (wRng1 (wName 3)) (.one 8) wYes (wOp oIx (wCall s_law_letters 0 wNil) (wCall s_law_draw 2 (wCons (wName 0) (wCons (wName 2) wNil)))) [8]))
      (wSeq (wIfS (wAnd (wTB (wOp oGt (wName 4) (wC (.int 0)))) (wTB (wOp oGt (wName 3) (wC (.int 0))))) (wSeq (wSet 6 (wOp oAdd (wC (.int 1)) (wCall s_law_draw 2 (wCons (wName 0) (wCons (wB (oInt2 fun i j => min i j) (wCons (wName 3) (wCons (wC (.int 5)) wNil))) wNil)))))
      (wSeq (wSet 5 (wLc (wRng1 (wName 3)) (.one 8) wYes (wOp oIx (wName 5) (wOp oMod (wName 8) (wName 6))) [8]))
      (wSeq (wIfS (wTB (wOp oEq (wName 4) (wC (.int 1)))) (wSetI 5 (wOp oIx (wCall s_law_letters 0 wNil) (wCall s_law_draw 2 (wCons (wName 0) (wCons (wName 2) wNil)))) (wCall s_law_draw 2 (wCons (wName 0) (wCons (wName 3) wNil)))) wSkip)
      (wIfS (wAnd (wTB (wOp oEq (wName 4) (wC (.int 2)))) (wTB (wOp oGt (wName 3) (wC (.int 2))))) (wSeq (wSet 7 (wCall s_law_draw 2 (wCons (wName 0) (wCons (wName 3) wNil))))
      (wSet 5 (wOp oAdd (wSl (wName 5) wNo (wPt (wName 7))) (wSl (wName 5) wNo (wPt (wOp oSub (wName 3) (wName 7))))))) wSkip)))) wSkip)
      (wRet (wM "str" oJoin (wC (.str [])) (wCons (wName 5) wNil))))))
abbrev oneD (c : Nat) : D := .str [c]
theorem sem_word2 : ∀ ds R, ds.length = 3 → sWord2.f ds R → w_word2 sDraw s_letters { nx := fun _ => R .non, rt := R } (startW 9 ds) := by
  intro ds R _ ⟨⟨most, k⟩, hx, ⟨h1, h2, h3, h4⟩, h⟩
  subst hx
  have h1 : 0 ≤ most := h1
  have h2 : most ≤ 60 := h2
  have h3 : 1 ≤ k := h3
  have h4 : k ≤ 26 := h4
  have fin : ∀ (E : WEnds) (l : List Nat) (n pick : Int) (a b : Slot), E.rt = R → (l.length : Int) ≤ most → (∀ c ∈ l, c ∈ LETT) → wRet (wM "str" oJoin (wC (.str [])) (wCons (wName 5) wNil)) E [.val .box, .val (.int most), .val (.int k), .val (.int n), .val (.int pick), .own (.lst (l.map oneD)), a, b, .un] := by
    intro E l n pick a b hE hl hc
    refine ⟨rfl, ?_⟩
    show match strsOf (l.map fun c => .str [c]) with | some ys => _ | none => False
    rw [strsOf_map (fun c : Nat => [c]) l]
    refine ⟨?_, ?_⟩
    · rw [len_ones]; show l.length + _ * 0 ≤ _; omega
    rw [join_ones]
    show E.rt (.str l)
    rw [hE]
    exact h _ ⟨l, rfl, hl, fun c hcc => lett_mem.mp (hc c hcc)⟩
  refine ⟨rfl, draw_go (by omega) (by omega) fun n hn0 hn1 => ⟨rfl, draw_go (by omega) (by omega) fun pick hp0 hp1 => ?_⟩⟩
  refine ⟨⟨by omega, by omega⟩, ?_⟩
  refine lc_some oneD (fun c => c ∈ LETT) (fun i hi Q hQ => ?_) ?_
  · refine ⟨rfl, (), rfl, trivial, rfl, draw_go (by omega) (by omega) fun j hj0 hj1 => ?_⟩
    have hl : j.toNat < LETT.length := by show j.toNat < 26; omega
    show match atI LETT j with | some c => _ | none => False
    rw [atI_i hj0 (List.getElem?_eq_getElem hl)]
    exact hQ _ _ (List.getElem_mem hl) rfl
  · intro l hl hc
    have hl : (l.length : Int) = n := by omega
    refine ifP_b (fun _ => ifP_b (fun z => ?_) (fun _ => fin _ l n pick .un .un rfl (by omega) hc)) (fun _ => ifP_f (fin _ l n pick .un .un rfl (by omega) hc))
    have z : 0 < n := of_decide_eq_true z
    refine ⟨rfl, draw_go (by show 0 < min n 5; omega) (by show min n 5 < 1073741824; omega) fun d hd0 hd1 => ?_⟩
    have hd1 : d < min n 5 := hd1
    refine ⟨⟨by omega, by omega⟩, ?_⟩
    -- the letters in turns
    refine lc_rng (fun i => oneD (l[i % (1 + d).toNat]?.getD 0)) (fun i hi Q hQ => ⟨by show 0 < 1 + d; omega, ?_⟩) ?_
    · have hi : (i : Int) < n := by omega
      have e1 : ((0 + (i : Int)) % (1 + d)) = ((i % (1 + d).toNat : Nat) : Int) := by
        have : (1 + d) = (((1 + d).toNat : Nat) : Int) := by omega
        rw [Int.zero_add, this, Int.toNat_natCast]
        exact (Int.natCast_emod i (1 + d).toNat).symm
      have hm : i % (1 + d).toNat < (1 + d).toNat := Nat.mod_lt _ (by omega)
      have hlt : i % (1 + d).toNat < l.length := by omega
      show match atI (l.map oneD) ((0 + (i : Int)) % (1 + d)) with | some v => _ | none => False
      rw [e1, atI_nat (v := oneD l[i % (1 + d).toNat]) (by rw [List.getElem?_map, List.getElem?_eq_getElem hlt]; rfl)]
      refine hQ _ ?_
      rw [List.getElem?_eq_getElem hlt]
      rfl
    have hL : (List.range n.toNat).map (fun i => oneD (l[i % (1 + d).toNat]?.getD 0)) = ((List.range n.toNat).map fun i => l[i % (1 + d).toNat]?.getD 0).map oneD := by rw [List.map_map]; rfl
    rw [hL]
    have hc2 : ∀ c ∈ (List.range n.toNat).map fun i => l[i % (1 + d).toNat]?.getD 0, c ∈ LETT := by
      intro c hcc
      obtain ⟨i, hi, rfl⟩ := List.mem_map.mp hcc
      have hm : i % (1 + d).toNat < (1 + d).toNat := Nat.mod_lt _ (by omega)
      have hlt : i % (1 + d).toNat < l.length := by omega
      rw [List.getElem?_eq_getElem hlt]
      exact hc _ (List.getElem_mem hlt)
    have hl2 : ((List.range n.toNat).map fun i => l[i % (1 + d).toNat]?.getD 0).length = n.toNat := by rw [List.length_map, List.length_range]
    generalize ((List.range n.toNat).map fun i => l[i % (1 + d).toNat]?.getD 0) = l2 at hc2 hl2
    -- one other, a part twice
    have two : ∀ (E : WEnds) (l3 : List Nat) (ls : List D), ls = l3.map oneD → E.nx = wRet (wM "str" oJoin (wC (.str [])) (wCons (wName 5) wNil)) { nx := fun _ => R .non, rt := R } → l3.length = n.toNat → (∀ c ∈ l3, c ∈ LETT) → wIfS (wAnd (wTB (wOp oEq (wName 4) (wC (.int 2)))) (wTB (wOp oGt (wName 3) (wC (.int 2))))) (wSeq (wSet 7 (wCall sDraw 2 (wCons (wName 0) (wCons (wName 3) wNil))))
      (wSet 5 (wOp oAdd (wSl (wName 5) wNo (wPt (wName 7))) (wSl (wName 5) wNo (wPt (wOp oSub (wName 3) (wName 7))))))) wSkip E [.val .box, .val (.int most), .val (.int k), .val (.int n), .val (.int pick), .own (.lst ls), .val (.int (1 + d)), .un, .un] := by
      intro E l3 ls hls hE hl3 hc3
      subst hls
      have same : E.nx [.val .box, .val (.int most), .val (.int k), .val (.int n), .val (.int pick), .own (.lst (l3.map oneD)), .val (.int (1 + d)), .un, .un] := by
        rw [hE]; exact fin _ l3 n pick _ _ rfl (by omega) hc3
      refine ifP_b (fun _ => ifP_b (fun _ => ?_) (fun _ => same)) (fun _ => ifP_f same)
      refine ⟨rfl, draw_go z (by omega) fun j hj0 hj1 => ?_⟩
      have e1 : cutL (l3.map oneD) none (some j) = (l3.take j.toNat).map oneD := by rw [cut_hi _ hj0, List.map_take]
      have e2 : cutL (l3.map oneD) none (some (n - j)) = (l3.take (n - j).toNat).map oneD := by rw [cut_hi _ (by omega), List.map_take]
      show (cutL (l3.map oneD) none (some j)).length + (cutL (l3.map oneD) none (some (n - j))).length ≤ 16777216 ∧ E.nx [.val .box, .val (.int most), .val (.int k), .val (.int n), .val (.int pick), .own (.lst (cutL (l3.map oneD) none (some j) ++ cutL (l3.map oneD) none (some (n - j)))), .val (.int (1 + d)), .val (.int j), .un]
      rw [e1, e2, ← List.map_append]
      refine ⟨?_, ?_⟩
      · rw [List.length_map, List.length_map, List.length_take, List.length_take]; omega
      · rw [hE]
        refine fin _ (l3.take j.toNat ++ l3.take (n - j).toNat) n pick _ _ rfl ?_ fun c hcc => ?_
        · rw [List.length_append, List.length_take, List.length_take]; omega
        · rcases List.mem_append.mp hcc with hcc | hcc
          · exact hc3 c (List.mem_of_mem_take hcc)
          · exact hc3 c (List.mem_of_mem_take hcc)
    refine ifP_b (fun _ => ?_) (fun _ => two _ l2 _ rfl rfl hl2 hc2)
    refine ⟨rfl, (), rfl, trivial, rfl, draw_go (by omega) (by omega) fun j hj0 hj1 => ?_⟩
    have hlj : j.toNat < LETT.length := by show j.toNat < 26; omega
    show match atI LETT j with | some c => _ | none => False
    rw [atI_i hj0 (List.getElem?_eq_getElem hlj)]
    refine ⟨rfl, draw_go z (by omega) fun q hq0 hq1 => ?_⟩
    show match ixN (l2.map oneD).length q with | some n => _ | none => False
    rw [ixN_i hq0 (by rw [List.length_map]; omega)]
    have e3 : (l2.map oneD).set q.toNat (.str [LETT[j.toNat]]) = (l2.set q.toNat LETT[j.toNat]).map oneD := by rw [List.map_set]
    refine two _ _ _ e3 rfl (by rw [List.length_set]; exact hl2) fun c hcc => ?_
    rcases List.mem_or_eq_of_mem_set hcc with hcc | hcc
    · exact hc2 c hcc
    · rw [hcc]; exact List.getElem_mem hlj
end WL
set_option Elab.async false
set_option linter.all false
set_option autoImplicit false
set_option maxRecDepth 100000
set_option maxHeartbeats 4000000
namespace K57
open PySem PySem.Spec L2 WL
def topS (i : Nat) : Stmt := PySem.Challenge.pw_tworeadings_k57_whole_packings_and_miles.main.body.getD i (.Pass ⟨0, 0, 0, 0⟩)
abbrev k_LETTERS : List Nat := [97, 98, 99, 100, 101, 102, 103, 104, 105, 106, 107, 108, 109, 110, 111, 112, 113, 114, 115, 116, 117, 118, 119, 120, 121, 122]
theorem ok_LETTERS : okS k_LETTERS := okS_dec (by decide)
def w_is_whole : SW := (wRet (wAndV (wIsi .int (wName 0)) (wAndV (wNotV (wIsi .bool (wName 0))) (wOp oGe (wName 0) (wC (.int 0))))))
def w_text_behind : SW := (wSeq (wIfS (wTest (wIsi .str (wName 1))) (wRet (wOp oAdd (wName 0) (wName 1))) wSkip)
      (wSeq (wUnp [2, 3] (wName 1))
      (wSeq (wFor (wRng1 (wName 3)) (.one 4) (wAug 0 oIAdd (wOp oIx (wName 0) (wOp oAdd (wName 2) (wName 4)))))
      (wRet (wName 0)))))
def w_is_item (sis_whole : Sx) : SW := (wSeq (wIfS (wTest (wIsi .str (wName 1))) (wRet (wAndV (wOp oEq (wB oLen (wCons (wName 1) wNil)) (wC (.int 1))) (wAndV (wOp oIn (wName 1) (wC (.str k_LETTERS))) (wOp oGt (wName 2) (wC (.int 0)))))) wSkip)
      (wSeq (wIfS (wOr (wNotT (wTest (wIsi .tuple (wName 1)))) (wOr (wTB (wOp oNe (wB oLen (wCons (wName 1) wNil)) (wC (.int 2)))) (wOr (wNotT (wTest (wCall sis_whole 1 (wCons (wOp oIx (wName 1) (wC (.int 0))) wNil)))) (wNotT (wTest (wCall sis_whole 1 (wCons (wOp oIx (wName 1) (wC (.int 1))) wNil))))))) (wRet (wC (.bl false))) wSkip)
      (wRet (wAndV (wOp oLt (wOp oIx (wName 1) (wC (.int 0))) (wB oLen (wCons (wName 0) wNil))) (wChain oLe oLe (wC (.int 1)) (wOp oIx (wName 1) (wC (.int 1))) (wName 2))))))
def w_is_packing (sis_item : Sx) (stext_behind : Sx) : SW := (wSeq (wIfS (wNotT (wTest (wIsi .tuple (wName 1)))) (wRet (wC (.bl false))) wSkip)
      (wSeq (wSet 2 (wC (.str [])))
      (wSeq (wFor (wIt (wName 1)) (.one 3) (wSeq (wIfS (wNotT (wTest (wCall sis_item 3 (wCons (wName 2) (wCons (wName 3) (wCons (wOp oSub (wB oLen (wCons (wName 0) wNil)) (wB oLen (wCons (wName 2) wNil))) wNil)))))) (wRet (wC (.bl false))) wSkip)
      (wSet 2 (wCall stext_behind 2 (wCons (wName 2) (wCons (wName 3) wNil))))))
      (wRet (wOp oEq (wName 2) (wName 0))))))
def w_unpacked (stext_behind : Sx) : SW := (wSeq (wSet 1 (wC (.str [])))
      (wSeq (wFor (wIt (wName 0)) (.one 2) (wSet 1 (wCall stext_behind 2 (wCons (wName 1) (wCons (wName 2) wNil)))))
      (wRet (wName 1))))
def w_first_place : SW := (wRet (wM "str" oFind (wName 0) (wCons (wSl (wName 0) (wPt (wName 1)) (wPt (wName 2))) wNil)))
def w_are_milestones (sis_whole : Sx) (sfirst_place : Sx) : SW := (wSeq (wIfS (wOr (wNotT (wTest (wIsi .tuple (wName 1)))) (wOr (wTB (wOp oEq (wName 1) (wTup wNil))) (wNotT (wTest (wB oAll (wCons (wLc (wIt (wName 1)) (.one 3) wYes (wCall sis_whole 1 (wCons (wName 3) wNil)) [3]) wNil)))))) (wRet (wC (.bl false))) wSkip)
      (wSeq (wIfS (wOr (wTB (wOp oNe (wOp oIx (wName 1) (wC (.int 0))) (wC (.int 0)))) (wTB (wOp oGe (wOp oIx (wName 1) (wUn oNeg (wC (.int 1)))) (wB oLen (wCons (wName 0) wNil))))) (wRet (wC (.bl false))) wSkip)
      (wSeq (wFor (wRng1 (wOp oSub (wB oLen (wCons (wName 1) wNil)) (wC (.int 1)))) (.one 2) (wIfS (wOr (wTB (wOp oGe (wOp oIx (wName 1) (wName 2)) (wOp oIx (wName 1) (wOp oAdd (wName 2) (wC (.int 1)))))) (wTB (wOp oLt (wCall sfirst_place 3 (wCons (wName 0) (wCons (wOp oIx (wName 1) (wName 2)) (wCons (wOp oAdd (wOp oIx (wName 1) (wOp oAdd (wName 2) (wC (.int 1)))) (wC (.int 1))) wNil)))) (wOp oIx (wName 1) (wName 2))))) (wRet (wC (.bl false))) wSkip))
      (wRet (wC (.bl true))))))
def w_next_end (sfirst_place : Sx) : SW := (wSeq (wSet 2 (wName 1))
      (wSeq (wWhile (wAnd (wTB (wOp oLt (wName 2) (wB oLen (wCons (wName 0) wNil)))) (wTB (wOp oLt (wCall sfirst_place 3 (wCons (wName 0) (wCons (wName 1) (wCons (wOp oAdd (wName 2) (wC (.int 1))) wNil)))) (wName 1)))) (wAug 2 oIAdd (wC (.int 1))))
      (wRet (wName 2))))
def w_pack (snext_end : Sx) (sfirst_place : Sx) : SW := (wSeq (wPar 1 2 (wLst wNil) (wC (.int 0)))
      (wSeq (wWhile (wTB (wOp oLt (wName 2) (wB oLen (wCons (wName 0) wNil)))) (wSeq (wSet 3 (wCall snext_end 2 (wCons (wName 0) (wCons (wName 2) wNil))))
      (wIfS (wTB (wOp oEq (wName 3) (wName 2))) (wSeq (wApp 1 (wOp oIx (wName 0) (wName 2)))
      (wAug 2 oIAdd (wC (.int 1)))) (wSeq (wApp 1 (wTup (wCons (wCall sfirst_place 3 (wCons (wName 0) (wCons (wName 2) (wCons (wName 3) wNil)))) (wCons (wOp oSub (wName 3) (wName 2)) wNil))))
      (wSet 2 (wName 3))))))
      (wRet (wB oTupleA (wCons (wName 1) wNil)))))
def w_milestones (snext_end : Sx) : SW := (wSeq (wPar 1 2 (wLst wNil) (wC (.int 0)))
      (wSeq (wWhile (wTB (wOp oLt (wName 2) (wB oLen (wCons (wName 0) wNil)))) (wSeq (wApp 1 (wName 2))
      (wSet 2 (wB (oInt2 fun i j => max i j) (wCons (wOp oAdd (wName 2) (wC (.int 1))) (wCons (wCall snext_end 2 (wCons (wName 0) (wCons (wName 2) wNil))) wNil))))))
      (wRet (wB oTupleA (wCons (wName 1) wNil)))))
def w__law_same (s_law_same : Sx) : SW := (wSeq (wIfS (wOr (wAnd (wTest (wIsi .tuple (wName 0))) (wTest (wIsi .tuple (wName 1)))) (wAnd (wTest (wIsi .list (wName 0))) (wTest (wIsi .list (wName 1))))) (wRet (wAndV (wOp oEq (wB oLen (wCons (wName 0) wNil)) (wB oLen (wCons (wName 1) wNil))) (wB oAll (wCons (wLc (wRng1 (wB oLen (wCons (wName 0) wNil))) (.one 2) wYes (wCall s_law_same 2 (wCons (wOp oIx (wName 0) (wName 2)) (wCons (wOp oIx (wName 1) (wName 2)) wNil))) [2]) wNil)))) wSkip)
      (wSeq (wIfS (wOr (wTest (wIsi .bool (wName 0))) (wTest (wIsi .bool (wName 1)))) (wRet (wAndV (wIsi .bool (wName 0)) (wAndV (wIsi .bool (wName 1)) (wOp oEq (wName 0) (wName 1))))) wSkip)
      (wSeq (wIfS (wOr (wAnd (wTest (wIsi .int (wName 0))) (wTest (wIsi .int (wName 1)))) (wAnd (wTest (wIsi .str (wName 0))) (wTest (wIsi .str (wName 1))))) (wRet (wOp oEq (wName 0) (wName 1))) wSkip)
      (wRet (wAndV (wOp oIs (wName 0) (wC .non)) (wOp oIs (wName 1) (wC .non)))))))
def w__law_word (s_law_draw : Sx) (s_law_letters : Sx) : SW := (wSeq (wPar 3 4 (wCall s_law_draw 2 (wCons (wName 0) (wCons (wOp oAdd (wName 1) (wC (.int 1))) wNil))) (wCall s_law_draw 2 (wCons (wName 0) (wCons (wC (.int 4)) wNil))))
      (wSeq (wSet 5 (wLc (wRng1 (wName 3)) (.one 8) wYes (wOp oIx (wCall s_law_letters 0 wNil) (wCall s_law_draw 2 (wCons (wName 0) (wCons (wName 2) wNil)))) [8]))
      (wSeq (wIfS (wAnd (wTB (wOp oGt (wName 4) (wC (.int 0)))) (wTB (wOp oGt (wName 3) (wC (.int 0))))) (wSeq (wSet 6 (wOp oAdd (wC (.int 1)) (wCall s_law_draw 2 (wCons (wName 0) (wCons (wB (oInt2 fun i j => min i j) (wCons (wName 3) (wCons (wC (.int 5)) wNil))) wNil)))))
      (wSeq (wSet 5 (wLc (wRng1 (wName 3)) (.one 8) wYes (wOp oIx (wName 5) (wOp oMod (wName 8) (wName 6))) [8]))
      (wSeq (wIfS (wTB (wOp oEq (wName 4) (wC (.int 1)))) (wSetI 5 (wOp oIx (wCall s_law_letters 0 wNil) (wCall s_law_draw 2 (wCons (wName 0) (wCons (wName 2) wNil)))) (wCall s_law_draw 2 (wCons (wName 0) (wCons (wName 3) wNil)))) wSkip)
      (wIfS (wAnd (wTB (wOp oEq (wName 4) (wC (.int 2)))) (wTB (wOp oGt (wName 3) (wC (.int 2))))) (wSeq (wSet 7 (wCall s_law_draw 2 (wCons (wName 0) (wCons (wName 3) wNil))))
      (wSet 5 (wOp oAdd (wSl (wName 5) wNo (wPt (wName 7))) (wSl (wName 5) wNo (wPt (wOp oSub (wName 3) (wName 7))))))) wSkip)))) wSkip)
      (wRet (wM "str" oJoin (wC (.str [])) (wCons (wName 5) wNil))))))
def w__law_letters : SW := (wRet (wC (.str [97, 98, 99, 100, 101, 102, 103, 104, 105, 106, 107, 108, 109, 110, 111, 112, 113, 114, 115, 116, 117, 118, 119, 120, 121, 122])))
def w__law_bent (s_law_draw : Sx) (s_law_bent : Sx) : SW := (wSeq (wIfS (wAnd (wTest (wIsi .tuple (wName 1))) (wAnd (wTB (wOp oGt (wB oLen (wCons (wName 1) wNil)) (wC (.int 0)))) (wTB (wOp oGt (wCall s_law_draw 2 (wCons (wName 0) (wCons (wC (.int 5)) wNil))) (wC (.int 0)))))) (wSeq (wSet 2 (wCall s_law_draw 2 (wCons (wName 0) (wCons (wB oLen (wCons (wName 1) wNil)) wNil))))
      (wRet (wOp oAdd (wOp oAdd (wSl (wName 1) wNo (wPt (wName 2))) (wTup (wCons (wCall s_law_bent 2 (wCons (wName 0) (wCons (wOp oIx (wName 1) (wName 2)) wNil))) wNil))) (wSl (wName 1) (wPt (wOp oAdd (wName 2) (wC (.int 1)))) wNo)))) wSkip)
      (wSeq (wSet 3 (wCall s_law_draw 2 (wCons (wName 0) (wCons (wC (.int 8)) wNil))))
      (wSeq (wIfS (wTest (wIsi .tuple (wName 1))) (wRet (wOp oIx (wLst (wCons (wOp oAdd (wName 1) (wSl (wName 1) wNo (wPt (wC (.int 1))))) (wCons (wSl (wName 1) (wPt (wC (.int 1))) wNo) (wCons (wRev (wName 1)) (wCons (wOp oAdd (wName 1) (wTup (wCons (wC (.str [97])) wNil))) (wCons (wTup (wCons (wName 1) wNil)) (wCons (wSl (wName 1) wNo (wPt (wUn oNeg (wC (.int 1))))) (wCons (wC .non) (wCons (wOp oAdd (wName 1) (wTup (wCons (wTup wNil) wNil))) wNil))))))))) (wName 3))) wSkip)
      (wSeq (wIfS (wTest (wIsi .str (wName 1))) (wRet (wOp oIx (wLst (wCons (wOp oAdd (wName 1) (wC (.str [97]))) (wCons (wSl (wName 1) (wPt (wC (.int 1))) wNo) (wCons (wRev (wName 1)) (wCons (wSl (wName 1) wNo (wPt (wUn oNeg (wC (.int 1))))) (wCons (wOp oAdd (wName 1) (wName 1)) (wCons (wC .non) (wCons (wTup (wCons (wName 1) wNil)) (wCons (wM "str" oUpper (wName 1) wNil) wNil))))))))) (wName 3))) wSkip)
      (wSeq (wIfS (wAnd (wTest (wIsi .int (wName 1))) (wNotT (wTest (wIsi .bool (wName 1))))) (wRet (wOp oIx (wLst (wCons (wOp oAdd (wName 1) (wC (.int 1))) (wCons (wOp oSub (wName 1) (wC (.int 1))) (wCons (wOp oAdd (wName 1) (wC (.int 1))) (wCons (wOp oEq (wName 1) (wC (.int 1))) (wCons (wC .non) (wCons (wC (.str [97])) (wCons (wUn oNeg (wName 1)) (wCons (wTup (wCons (wName 1) wNil)) wNil))))))))) (wName 3))) wSkip)
      (wRet (wOp oIx (wLst (wCons (wC (.int 0)) (wCons (wC (.int 1)) (wCons (wC .non) (wCons (wC (.bl true)) (wCons (wC (.str [97])) (wCons (wTup wNil) (wCons (wTup (wCons (wC (.str [97])) wNil)) (wCons (wUn oNeg (wC (.int 1))) wNil))))))))) (wName 3))))))))
def w__law_whole : SW := (wRet (wAndV (wIsi .int (wName 0)) (wAndV (wNotV (wIsi .bool (wName 0))) (wOp oGe (wName 0) (wC (.int 0))))))
def w__law_given (s_law_letters : Sx) (s_law_whole : Sx) : SW := (wSeq (wIfS (wNotT (wTest (wIsi .tuple (wName 1)))) (wRet (wC .non)) wSkip)
      (wSeq (wSet 2 (wC (.str [])))
      (wSeq (wFor (wIt (wName 1)) (.one 3) (wIfS (wTest (wIsi .str (wName 3))) (wSeq (wIfS (wOr (wTB (wOp oNe (wB oLen (wCons (wName 3) wNil)) (wC (.int 1)))) (wTB (wOp oNotIn (wName 3) (wCall s_law_letters 0 wNil)))) (wRet (wC .non)) wSkip)
      (wSet 2 (wOp oAdd (wName 2) (wName 3)))) (wIfS (wAnd (wTest (wIsi .tuple (wName 3))) (wAnd (wTB (wOp oEq (wB oLen (wCons (wName 3) wNil)) (wC (.int 2)))) (wAnd (wTest (wCall s_law_whole 1 (wCons (wOp oIx (wName 3) (wC (.int 0))) wNil))) (wAnd (wTest (wCall s_law_whole 1 (wCons (wOp oIx (wName 3) (wC (.int 1))) wNil))) (wAnd (wTB (wOp oLt (wOp oIx (wName 3) (wC (.int 0))) (wB oLen (wCons (wName 2) wNil)))) (wAnd (wTB (wOp oGt (wOp oIx (wName 3) (wC (.int 1))) (wC (.int 0)))) (wTB (wOp oLe (wOp oAdd (wB oLen (wCons (wName 2) wNil)) (wOp oIx (wName 3) (wC (.int 1)))) (wB oLen (wCons (wName 0) wNil)))))))))) (wFor (wRng1 (wOp oIx (wName 3) (wC (.int 1)))) (.one 4) (wSet 2 (wOp oAdd (wName 2) (wOp oIx (wName 2) (wOp oAdd (wOp oIx (wName 3) (wC (.int 0))) (wName 4)))))) (wRet (wC .non)))))
      (wRet (wName 2)))))
def w__law_stands_before : SW := (wSeq (wSet 3 (wLc (wRng1 (wName 1)) (.one 4) (wTB (wOp oEq (wSl (wName 0) (wPt (wName 4)) (wPt (wOp oSub (wOp oAdd (wName 4) (wName 2)) (wName 1)))) (wSl (wName 0) (wPt (wName 1)) (wPt (wName 2))))) (wName 4) [4]))
      (wRet (wIf (wTB (wOp oGt (wB oLen (wCons (wName 3) wNil)) (wC (.int 0)))) (wOp oIx (wName 3) (wC (.int 0))) (wUn oNeg (wC (.int 1))))))
def w__law_greedy (s_law_stands_before : Sx) : SW := (wSeq (wPar3 1 2 3 (wLst wNil) (wC (.int 0)) (wLst wNil))
      (wSeq (wFor (wRng1 (wB oLen (wCons (wName 0) wNil))) (.one 4) (wIfS (wTB (wOp oLt (wName 2) (wB oLen (wCons (wName 0) wNil)))) (wSeq (wFz 2 (wSet 5 (wLc (wRng2 (wOp oAdd (wName 2) (wC (.int 1))) (wOp oAdd (wB oLen (wCons (wName 0) wNil)) (wC (.int 1)))) (.one 6) (wTB (wOp oGe (wCall s_law_stands_before 3 (wCons (wName 0) (wCons (wName 2) (wCons (wName 6) wNil)))) (wC (.int 0)))) (wName 6) [6])))
      (wSeq (wFz 2 (wApp 3 (wName 2)))
      (wIfS (wTB (wOp oEq (wB oLen (wCons (wName 5) wNil)) (wC (.int 0)))) (wSeq (wApp 1 (wOp oIx (wName 0) (wName 2)))
      (wSet 2 (wOp oAdd (wName 2) (wC (.int 1))))) (wSeq (wFz 2 (wApp 1 (wTup (wCons (wCall s_law_stands_before 3 (wCons (wName 0) (wCons (wName 2) (wCons (wOp oIx (wName 5) (wUn oNeg (wC (.int 1)))) wNil)))) (wCons (wOp oSub (wOp oIx (wName 5) (wUn oNeg (wC (.int 1)))) (wName 2)) wNil)))))
      (wSet 2 (wOp oIx (wName 5) (wUn oNeg (wC (.int 1))))))))) wSkip))
      (wRet (wTup (wCons (wB oTupleA (wCons (wName 1) wNil)) (wCons (wB oTupleA (wCons (wName 3) wNil)) wNil))))))
def w__law_fewest (s_law_stands_before : Sx) : SW := (wSeq (wSet 1 (wLst (wCons (wC (.int 0)) wNil)))
      (wSeq (wFor (wRng2 (wC (.int 1)) (wOp oAdd (wB oLen (wCons (wName 0) wNil)) (wC (.int 1)))) (.one 2) (wApp 1 (wOp oAdd (wC (.int 1)) (wB oMinA (wCons (wLc (wRng1 (wName 2)) (.one 3) (wOr (wTB (wOp oEq (wName 3) (wOp oSub (wName 2) (wC (.int 1))))) (wTB (wOp oGe (wCall s_law_stands_before 3 (wCons (wName 0) (wCons (wName 3) (wCons (wName 2) wNil)))) (wC (.int 0))))) (wOp oIx (wName 1) (wName 3)) [3]) wNil)))))
      (wRet (wOp oIx (wName 1) (wUn oNeg (wC (.int 1)))))))
def w__law_drawn (s_law_draw : Sx) : SW := (wSeq (wPar 2 3 (wLst wNil) (wC (.int 0)))
      (wSeq (wFor (wRng1 (wB oLen (wCons (wName 1) wNil))) (.one 4) (wIfS (wTB (wOp oLt (wName 3) (wB oLen (wCons (wName 1) wNil)))) (wSeq (wSet 5 (wOp oAdd (wOp oAdd (wName 3) (wC (.int 1))) (wCall s_law_draw 2 (wCons (wName 0) (wCons (wB (oInt2 fun i j => min i j) (wCons (wC (.int 4)) (wCons (wOp oSub (wB oLen (wCons (wName 1) wNil)) (wName 3)) wNil))) wNil)))))
      (wSeq (wSet 6 (wLc (wRng1 (wName 3)) (.one 7) (wTB (wOp oEq (wSl (wName 1) (wPt (wName 7)) (wPt (wOp oSub (wOp oAdd (wName 7) (wName 5)) (wName 3)))) (wSl (wName 1) (wPt (wName 3)) (wPt (wName 5))))) (wName 7) [7]))
      (wIfS (wOr (wTB (wOp oEq (wB oLen (wCons (wName 6) wNil)) (wC (.int 0)))) (wTB (wOp oEq (wCall s_law_draw 2 (wCons (wName 0) (wCons (wC (.int 4)) wNil))) (wC (.int 0))))) (wSeq (wApp 2 (wOp oIx (wName 1) (wName 3)))
      (wSet 3 (wOp oAdd (wName 3) (wC (.int 1))))) (wSeq (wApp 2 (wTup (wCons (wOp oIx (wName 6) (wCall s_law_draw 2 (wCons (wName 0) (wCons (wB oLen (wCons (wName 6) wNil)) wNil)))) (wCons (wOp oSub (wName 5) (wName 3)) wNil))))
      (wFz 5 (wSet 3 (wName 5))))))) wSkip))
      (wRet (wB oTupleA (wCons (wName 2) wNil)))))
def w__law_miles (s_law_whole : Sx) (s_law_stands_before : Sx) : SW := (wSeq (wIfS (wOr (wNotT (wTest (wIsi .tuple (wName 1)))) (wOr (wTB (wOp oEq (wB oLen (wCons (wName 1) wNil)) (wC (.int 0)))) (wOr (wNotT (wTest (wB oAll (wCons (wLc (wIt (wName 1)) (.one 2) wYes (wAndV (wCall s_law_whole 1 (wCons (wName 2) wNil)) (wOp oLt (wName 2) (wB oLen (wCons (wName 0) wNil)))) [2]) wNil)))) (wTB (wOp oNe (wOp oIx (wName 1) (wC (.int 0))) (wC (.int 0))))))) (wRet (wC (.bl false))) wSkip)
      (wRet (wB oAll (wCons (wLc (wRng1 (wOp oSub (wB oLen (wCons (wName 1) wNil)) (wC (.int 1)))) (.one 3) wYes (wAndV (wOp oLt (wOp oIx (wName 1) (wName 3)) (wOp oIx (wName 1) (wOp oAdd (wName 3) (wC (.int 1))))) (wOp oLt (wCall s_law_stands_before 3 (wCons (wName 0) (wCons (wOp oIx (wName 1) (wName 3)) (wCons (wOp oAdd (wOp oIx (wName 1) (wOp oAdd (wName 3) (wC (.int 1)))) (wC (.int 1))) wNil)))) (wC (.int 0)))) [3]) wNil))))
def w__law_fine (s_law_greedy : Sx) (s_law_same : Sx) (spack : Sx) (smilestones : Sx) (sunpacked : Sx) (s_law_fewest : Sx) (s_law_drawn : Sx) (s_law_draw : Sx) (s_law_bent : Sx) (s_law_given : Sx) (sis_packing : Sx) (s_law_miles : Sx) (sare_milestones : Sx) : SW := (wSeq (wUnp [2, 3] (wCall s_law_greedy 1 (wCons (wName 1) wNil)))
      (wSeq (wIfS (wOr (wNotT (wTest (wCall s_law_same 2 (wCons (wCall spack 1 (wCons (wName 1) wNil)) (wCons (wName 2) wNil))))) (wOr (wNotT (wTest (wCall s_law_same 2 (wCons (wCall smilestones 1 (wCons (wName 1) wNil)) (wCons (wName 3) wNil))))) (wOr (wNotT (wTest (wCall s_law_same 2 (wCons (wCall sunpacked 1 (wCons (wName 2) wNil)) (wCons (wName 1) wNil))))) (wTB (wOp oNe (wB oLen (wCons (wName 2) wNil)) (wCall s_law_fewest 1 (wCons (wName 1) wNil))))))) (wRet (wC (.bl false))) wSkip)
      (wSeq (wSet 4 (wOp oAdd (wLst (wCons (wName 2) (wCons (wRev (wName 2)) (wCons (wSl (wName 2) (wPt (wC (.int 1))) wNo) (wCons (wOp oAdd (wName 2) (wSl (wName 2) (wPt (wUn oNeg (wC (.int 1)))) wNo)) (wCons (wSl (wName 2) wNo (wPt (wUn oNeg (wC (.int 1))))) (wCons (wB oTupleA (wCons (wName 1) wNil)) (wCons (wTup (wCons (wName 1) wNil)) (wCons (wTup wNil) (wCons (wC .non) (wCons (wC (.int 1)) (wCons (wName 1) (wCons (wTup (wCons (wTup (wCons (wC (.int 0)) (wCons (wC (.int 1)) wNil))) wNil)) (wCons (wTup (wCons (wC (.str [])) wNil)) (wCons (wTup (wCons (wC (.str [65])) wNil)) wNil))))))))))))))) (wLc (wRng1 (wC (.int 3))) (.one 9) wYes (wCall s_law_drawn 2 (wCons (wName 0) (wCons (wName 1) wNil))) [9])))
      (wSeq (wIfS (wTB (wOp oGt (wB oLen (wCons (wName 2) wNil)) (wC (.int 0)))) (wSeq (wSet 5 (wCall s_law_draw 2 (wCons (wName 0) (wCons (wB oLen (wCons (wName 2) wNil)) wNil))))
      (wSet 4 (wOp oAdd (wName 4) (wLc (wIt (wTup (wCons (wC (.str [97])) (wCons (wTup (wCons (wC (.int 0)) (wCons (wC (.int 1)) wNil))) (wCons (wTup (wCons (wC (.int 0)) (wCons (wC (.int 0)) wNil))) (wCons (wTup (wCons (wUn oNeg (wC (.int 1))) (wCons (wC (.int 1)) wNil))) (wCons (wTup (wCons (wC (.int 0)) (wCons (wOp oAdd (wB oLen (wCons (wName 1) wNil)) (wC (.int 1))) wNil))) (wCons (wTup (wCons (wB oLen (wCons (wName 1) wNil)) (wCons (wC (.int 1)) wNil))) (wCons (wTup (wCons (wC (.bl true)) (wCons (wC (.int 1)) wNil))) (wCons (wTup (wCons (wC (.int 0)) (wCons (wC (.int 1)) (wCons (wC (.int 1)) wNil)))) wNil)))))))))) (.one 10) wYes (wOp oAdd (wOp oAdd (wSl (wName 2) wNo (wPt (wName 5))) (wTup (wCons (wName 10) wNil))) (wSl (wName 2) (wPt (wOp oAdd (wName 5) (wC (.int 1)))) wNo)) [10])))) wSkip)
      (wSeq (wFor (wIt (wOp oAdd (wName 4) (wLc (wRng1 (wC (.int 8))) (.one 9) wYes (wCall s_law_bent 2 (wCons (wName 0) (wCons (wOp oIx (wName 4) (wCall s_law_draw 2 (wCons (wName 0) (wCons (wB oLen (wCons (wName 4) wNil)) wNil)))) wNil))) [9]))) (.one 6) (wSeq (wSet 7 (wCall s_law_given 2 (wCons (wName 1) (wCons (wName 6) wNil))))
      (wSeq (wSet 8 (wAndV (wOp oIsNot (wName 7) (wC .non)) (wOp oEq (wName 7) (wName 1))))
      (wIfS (wOr (wNotT (wTest (wCall s_law_same 2 (wCons (wCall sis_packing 2 (wCons (wName 1) (wCons (wName 6) wNil))) (wCons (wName 8) wNil))))) (wAnd (wTest (wName 8)) (wOr (wTB (wOp oLt (wB oLen (wCons (wName 6) wNil)) (wB oLen (wCons (wName 2) wNil)))) (wNotT (wTest (wCall s_law_same 2 (wCons (wCall sunpacked 1 (wCons (wName 6) wNil)) (wCons (wName 1) wNil)))))))) (wRet (wC (.bl false))) wSkip))))
      (wSeq (wIfS (wTB (wOp oEq (wName 1) (wC (.str [])))) (wRet (wC (.bl true))) wSkip)
      (wSeq (wSet 4 (wLst (wCons (wName 3) (wCons (wSl (wName 3) (wPt (wC (.int 1))) wNo) (wCons (wRev (wName 3)) (wCons (wOp oAdd (wName 3) (wTup (wCons (wOp oSub (wB oLen (wCons (wName 1) wNil)) (wC (.int 1))) wNil))) (wCons (wOp oAdd (wName 3) (wTup (wCons (wB oLen (wCons (wName 1) wNil)) wNil))) (wCons (wTup (wCons (wC (.int 0)) wNil)) (wCons (wTup (wCons (wC (.int 1)) wNil)) (wCons (wTup wNil) (wCons (wTupRng (wB oLen (wCons (wName 1) wNil))) wNil)))))))))))
      (wSeq (wSet 4 (wOp oAdd (wName 4) (wLst (wCons (wC .non) (wCons (wC (.int 0)) (wCons (wC (.str [109, 105, 108, 101, 115])) (wCons (wTup (wCons (wC (.int 0)) (wCons (wC (.bl true)) wNil))) (wCons (wOp oAdd (wTup (wCons (wC (.bl false)) wNil)) (wSl (wName 3) (wPt (wC (.int 1))) wNo)) (wCons (wOp oAdd (wSl (wName 3) wNo (wPt (wC (.int 1)))) (wSl (wName 3) (wPt (wC (.int 2))) wNo)) wNil)))))))))
      (wSeq (wSet 4 (wOp oAdd (wName 4) (wLc (wRng1 (wC (.int 5))) (.one 9) wYes (wOp oAdd (wTup (wCons (wC (.int 0)) wNil)) (wB oTupleA (wCons (wLc (wRng2 (wC (.int 1)) (wB oLen (wCons (wName 1) wNil))) (.one 11) (wTB (wOp oEq (wCall s_law_draw 2 (wCons (wName 0) (wCons (wC (.int 3)) wNil))) (wC (.int 0)))) (wName 11) [11]) wNil))) [9])))
      (wSeq (wFor (wIt (wOp oAdd (wName 4) (wLc (wRng1 (wC (.int 5))) (.one 9) wYes (wCall s_law_bent 2 (wCons (wName 0) (wCons (wName 3) wNil))) [9]))) (.one 6) (wSeq (wSet 8 (wCall s_law_miles 2 (wCons (wName 1) (wCons (wName 6) wNil))))
      (wIfS (wOr (wNotT (wTest (wCall s_law_same 2 (wCons (wCall sare_milestones 2 (wCons (wName 1) (wCons (wName 6) wNil))) (wCons (wName 8) wNil))))) (wAnd (wTest (wName 8)) (wTB (wOp oGt (wB oLen (wCons (wName 6) wNil)) (wB oLen (wCons (wName 2) wNil)))))) (wRet (wC (.bl false))) wSkip)))
      (wRet (wC (.bl true)))))))))))))
def w_law (s_law_word : Sx) (s_law_draw : Sx) (s_law_fine : Sx) : SW := (wSeq (wSet 2 (wLc (wRng1 (wC (.int 3))) (.one 3) wYes (wCall s_law_word 3 (wCons (wName 1) (wCons (wC (.int 12)) (wCons (wOp oAdd (wC (.int 1)) (wCall s_law_draw 2 (wCons (wName 1) (wCons (wC (.int 4)) wNil)))) wNil)))) [3]))
      (wSeq (wIfS (wTB (wOp oEq (wCall s_law_draw 2 (wCons (wName 1) (wCons (wC (.int 4)) wNil))) (wC (.int 0)))) (wApp 2 (wCall s_law_word 3 (wCons (wName 1) (wCons (wC (.int 60)) (wCons (wOp oAdd (wC (.int 1)) (wCall s_law_draw 2 (wCons (wName 1) (wCons (wC (.int 3)) wNil)))) wNil))))) wSkip)
      (wRet (wB oAll (wCons (wLc (wIt (wName 2)) (.one 4) wYes (wCall s_law_fine 2 (wCons (wName 1) (wCons (wName 4) wNil))) [4]) wNil)))))
abbrev st_is_whole : Stmt := topS 2
theorem sc_is_whole : FnScope ["value"] ["value"] (defScope st_is_whole) := ⟨rfl, rfl, rfl, by decide +kernel, rfl, by decide +kernel, by decide +kernel⟩
theorem ok_is_whole {P : Program} {w : World} {K : PySem.W.Frag} {mg : Str → Option Value} {base : Heap} {f : Addr} {fd : FuncData} {g : Sx} (F : Fun K "is_whole" "is_whole" st_is_whole f fd) (hm : mg "is_whole" = some (.ref f)) (zisinstance : mg "isinstance" = none) (zint : mg "int" = none) (zbool : mg "bool" = none)
    (hs : ∀ ds R, ds.length = 1 → g.f ds R → w_is_whole { nx := fun _ => R .non, rt := R } (startW 1 ds)) : Cal P w K mg base AnyB "is_whole" 1 ["value"] g :=
  cal_of F hm sc_is_whole (fun _ _ _ _ _ _ us hl => match us, hl with | [_], _ => rfl) (fun β hβ cdv A outer s H E hr => have nd := sc_is_whole.nd; (pb_one (ps_ret (pw_andV (pw_isi .int (pw_name 0 (pv 0)) zisinstance zint (by decide +kernel)) (pw_andV (pw_notV (pw_isi .bool (pw_name 0 (pv 0)) zisinstance zbool (by decide +kernel))) (pw_one (pw_cmp d_ge (pw_name 0 (pv 0)) pw_int))))))) hs
abbrev st_text_behind : Stmt := topS 3
theorem sc_text_behind : FnScope ["text", "item", "place", "length", "k"] ["text", "item"] (defScope st_text_behind) := ⟨rfl, rfl, rfl, by decide +kernel, rfl, by decide +kernel, by decide +kernel⟩
theorem ok_text_behind {P : Program} {w : World} {K : PySem.W.Frag} {mg : Str → Option Value} {base : Heap} {f : Addr} {fd : FuncData} {g : Sx} (F : Fun K "text_behind" "text_behind" st_text_behind f fd) (hm : mg "text_behind" = some (.ref f)) (zisinstance : mg "isinstance" = none) (zstr : mg "str" = none) (zrange : mg "range" = none)
    (hs : ∀ ds R, ds.length = 2 → g.f ds R → w_text_behind { nx := fun _ => R .non, rt := R } (startW 5 ds)) : Cal P w K mg base AnyB "text_behind" 1 ["text", "item"] g :=
  cal_of F hm sc_text_behind (fun _ _ _ _ _ _ us hl => match us, hl with | [_, _], _ => rfl) (fun β hβ cdv A outer s H E hr => have nd := sc_text_behind.nd; (pb_cons (ps_if (pwt_of (pw_isi .str (pw_name 1 (pv 1)) zisinstance zstr (by decide +kernel))) (pb_one (ps_ret (pw_bin d_add (pw_name 0 (pv 0)) (pw_name 1 (pv 1))))) pb_nil)
      (pb_cons (ps_unp (js := [2, 3]) (pg_tup rfl (pgs_cons (pg_name (i := 2) nd rfl (by first | exact Or.inl rfl | exact Or.inr rfl)) (pgs_cons (pg_name (i := 3) nd rfl (by first | exact Or.inl rfl | exact Or.inr rfl)) pgs_nil))) (pw_name 1 (pv 1)))
      (pb_cons (ps_for (t := (.one 4)) (pi_rng1 (pw_name 3 (pv 3)) zrange) (pg_name (i := 4) nd rfl (by first | exact Or.inl rfl | exact Or.inr rfl)) (pb_one (ps_aug (i := 0) nd rfl (by first | exact Or.inl rfl | exact Or.inr rfl) d_iadd (pw_ix d_ix (pw_name 0 (pv 0)) (pw_bin d_add (pw_name 2 (pv 2)) (pw_name 4 (pv 4)))))))
      (pb_one (ps_ret (pw_name 0 (pv 0)))))))) hs
abbrev st_is_item : Stmt := topS 4
theorem sc_is_item : FnScope ["text", "value", "most"] ["text", "value", "most"] (defScope st_is_item) := ⟨rfl, rfl, rfl, by decide +kernel, rfl, by decide +kernel, by decide +kernel⟩
theorem ok_is_item {P : Program} {w : World} {K : PySem.W.Frag} {mg : Str → Option Value} {base : Heap} {f : Addr} {fd : FuncData} {g sis_whole : Sx} (F : Fun K "is_item" "is_item" st_is_item f fd) (hm : mg "is_item" = some (.ref f)) (cis_whole : Cal P w K mg base AnyB "is_whole" 1 ["value"] sis_whole) (zisinstance : mg "isinstance" = none) (zstr : mg "str" = none) (zlen : mg "len" = none) (ztuple : mg "tuple" = none) {tLETTERS : Tok} (hLETTERS : mg "LETTERS" = some (.str (Str.ofString "abcdefghijklmnopqrstuvwxyz") tLETTERS))
    (hs : ∀ ds R, ds.length = 3 → g.f ds R → w_is_item sis_whole { nx := fun _ => R .non, rt := R } (startW 3 ds)) : Cal P w K mg base AnyB "is_item" 2 ["text", "value", "most"] g :=
  cal_of F hm sc_is_item (fun _ _ _ _ _ _ us hl => match us, hl with | [_, _, _], _ => rfl) (fun β hβ cdv A outer s H E hr => have nd := sc_is_item.nd; (pb_cons (ps_if (pwt_of (pw_isi .str (pw_name 1 (pv 1)) zisinstance zstr (by decide +kernel))) (pb_one (ps_ret (pw_andV (pw_cmp (d_eq hr.units) (pw_b c_len zlen (by decide +kernel) (pwl_cons (pw_name 1 (pv 1)) pwl_nil)) pw_int) (pw_andV (pw_cmp (d_in hr.units65) (pw_name 1 (pv 1)) (pw_gstr hLETTERS rfl ok_LETTERS) (by rfl)) (pw_one (pw_cmp d_gt (pw_name 2 (pv 2)) pw_int)))))) pb_nil)
      (pb_cons (ps_if (PWW.pwt (pww_or (pwt_not (pwt_of (pw_isi .tuple (pw_name 1 (pv 1)) zisinstance ztuple (by decide +kernel)))) (pww_or (pwt_cmp (d_ne hr.units) (pw_b c_len zlen (by decide +kernel) (pwl_cons (pw_name 1 (pv 1)) pwl_nil)) pw_int) (pww_or (pwt_not (pwt_of (pw_callC cis_whole trivial (hr.mono (by omega)) (pwl_cons (pw_ix d_ix (pw_name 1 (pv 1)) pw_int) pwl_nil)))) (pww_or1 (pwt_not (pwt_of (pw_callC cis_whole trivial (hr.mono (by omega)) (pwl_cons (pw_ix d_ix (pw_name 1 (pv 1)) pw_int) pwl_nil))))))))) (pb_one (ps_ret pw_bl)) pb_nil)
      (pb_one (ps_ret (pw_andV (pw_cmp d_lt (pw_ix d_ix (pw_name 1 (pv 1)) pw_int) (pw_b c_len zlen (by decide +kernel) (pwl_cons (pw_name 0 (pv 0)) pwl_nil))) (pw_one (pw_chain d_le d_le pw_int (pw_ix d_ix (pw_name 1 (pv 1)) pw_int) (pw_name 2 (pv 2)))))))))) hs
abbrev st_is_packing : Stmt := topS 5
theorem sc_is_packing : FnScope ["word", "value", "text", "item"] ["word", "value"] (defScope st_is_packing) := ⟨rfl, rfl, rfl, by decide +kernel, rfl, by decide +kernel, by decide +kernel⟩
theorem ok_is_packing {P : Program} {w : World} {K : PySem.W.Frag} {mg : Str → Option Value} {base : Heap} {f : Addr} {fd : FuncData} {g sis_item stext_behind : Sx} (F : Fun K "is_packing" "is_packing" st_is_packing f fd) (hm : mg "is_packing" = some (.ref f)) (cis_item : Cal P w K mg base AnyB "is_item" 2 ["text", "value", "most"] sis_item) (ctext_behind : Cal P w K mg base AnyB "text_behind" 1 ["text", "item"] stext_behind) (zisinstance : mg "isinstance" = none) (ztuple : mg "tuple" = none) (zlen : mg "len" = none)
    (hs : ∀ ds R, ds.length = 2 → g.f ds R → w_is_packing sis_item stext_behind { nx := fun _ => R .non, rt := R } (startW 4 ds)) : Cal P w K mg base AnyB "is_packing" 3 ["word", "value"] g :=
  cal_of F hm sc_is_packing (fun _ _ _ _ _ _ us hl => match us, hl with | [_, _], _ => rfl) (fun β hβ cdv A outer s H E hr => have nd := sc_is_packing.nd; (pb_cons (ps_if (pwt_not (pwt_of (pw_isi .tuple (pw_name 1 (pv 1)) zisinstance ztuple (by decide +kernel)))) (pb_one (ps_ret pw_bl)) pb_nil)
      (pb_cons (ps_set (i := 2) nd rfl (by first | exact Or.inl rfl | exact Or.inr rfl) (pw_str (l := []) rfl (okS_dec (by decide))))
      (pb_cons (ps_for (t := (.one 3)) (pi_val (pw_name 1 (pv 1))) (pg_name (i := 3) nd rfl (by first | exact Or.inl rfl | exact Or.inr rfl)) (pb_cons (ps_if (pwt_not (pwt_of (pw_callC cis_item trivial (hr.mono (by omega)) (pwl_cons (pw_name 2 (pv 2)) (pwl_cons (pw_name 3 (pv 3)) (pwl_cons (pw_bin d_sub (pw_b c_len zlen (by decide +kernel) (pwl_cons (pw_name 0 (pv 0)) pwl_nil)) (pw_b c_len zlen (by decide +kernel) (pwl_cons (pw_name 2 (pv 2)) pwl_nil))) pwl_nil)))))) (pb_one (ps_ret pw_bl)) pb_nil)
      (pb_one (ps_set (i := 2) nd rfl (by first | exact Or.inl rfl | exact Or.inr rfl) (pw_callC ctext_behind trivial (hr.mono (by omega)) (pwl_cons (pw_name 2 (pv 2)) (pwl_cons (pw_name 3 (pv 3)) pwl_nil)))))))
      (pb_one (ps_ret (pw_cmp (d_eq hr.units) (pw_name 2 (pv 2)) (pw_name 0 (pv 0))))))))) hs
abbrev st_unpacked : Stmt := topS 6
theorem sc_unpacked : FnScope ["items", "text", "item"] ["items"] (defScope st_unpacked) := ⟨rfl, rfl, rfl, by decide +kernel, rfl, by decide +kernel, by decide +kernel⟩
theorem ok_unpacked {P : Program} {w : World} {K : PySem.W.Frag} {mg : Str → Option Value} {base : Heap} {f : Addr} {fd : FuncData} {g stext_behind : Sx} (F : Fun K "unpacked" "unpacked" st_unpacked f fd) (hm : mg "unpacked" = some (.ref f)) (ctext_behind : Cal P w K mg base AnyB "text_behind" 1 ["text", "item"] stext_behind)
    (hs : ∀ ds R, ds.length = 1 → g.f ds R → w_unpacked stext_behind { nx := fun _ => R .non, rt := R } (startW 3 ds)) : Cal P w K mg base AnyB "unpacked" 2 ["items"] g :=
  cal_of F hm sc_unpacked (fun _ _ _ _ _ _ us hl => match us, hl with | [_], _ => rfl) (fun β hβ cdv A outer s H E hr => have nd := sc_unpacked.nd; (pb_cons (ps_set (i := 1) nd rfl (by first | exact Or.inl rfl | exact Or.inr rfl) (pw_str (l := []) rfl (okS_dec (by decide))))
      (pb_cons (ps_for (t := (.one 2)) (pi_val (pw_name 0 (pv 0))) (pg_name (i := 2) nd rfl (by first | exact Or.inl rfl | exact Or.inr rfl)) (pb_one (ps_set (i := 1) nd rfl (by first | exact Or.inl rfl | exact Or.inr rfl) (pw_callC ctext_behind trivial (hr.mono (by omega)) (pwl_cons (pw_name 1 (pv 1)) (pwl_cons (pw_name 2 (pv 2)) pwl_nil))))))
      (pb_one (ps_ret (pw_name 1 (pv 1))))))) hs
abbrev st_first_place : Stmt := topS 7
theorem sc_first_place : FnScope ["word", "start", "end"] ["word", "start", "end"] (defScope st_first_place) := ⟨rfl, rfl, rfl, by decide +kernel, rfl, by decide +kernel, by decide +kernel⟩
theorem ok_first_place {P : Program} {w : World} {K : PySem.W.Frag} {mg : Str → Option Value} {base : Heap} {f : Addr} {fd : FuncData} {g : Sx} (F : Fun K "first_place" "first_place" st_first_place f fd) (hm : mg "first_place" = some (.ref f))
    (hs : ∀ ds R, ds.length = 3 → g.f ds R → w_first_place { nx := fun _ => R .non, rt := R } (startW 3 ds)) : Cal P w K mg base AnyB "first_place" 1 ["word", "start", "end"] g :=
  cal_of F hm sc_first_place (fun _ _ _ _ _ _ us hl => match us, hl with | [_, _, _], _ => rfl) (fun β hβ cdv A outer s H E hr => have nd := sc_first_place.nd; (pb_one (ps_ret (pw_m PySem.F.plainAttrs_str PySem.F.slot_str_find PySem.F.type_str_find m_find (pw_name 0 (pv 0)) (pwl_cons (pw_slice (pw_name 0 (pv 0)) (pp_some (pw_name 1 (pv 1))) (pp_some (pw_name 2 (pv 2)))) pwl_nil))))) hs
abbrev st_are_milestones : Stmt := topS 8
theorem sc_are_milestones : FnScope ["word", "value", "k", "place"] ["word", "value"] (defScope st_are_milestones) := ⟨rfl, rfl, rfl, by decide +kernel, rfl, by decide +kernel, by decide +kernel⟩
theorem ok_are_milestones {P : Program} {w : World} {K : PySem.W.Frag} {mg : Str → Option Value} {base : Heap} {f : Addr} {fd : FuncData} {g sis_whole sfirst_place : Sx} (F : Fun K "are_milestones" "are_milestones" st_are_milestones f fd) (hm : mg "are_milestones" = some (.ref f)) (cis_whole : Cal P w K mg base AnyB "is_whole" 1 ["value"] sis_whole) (cfirst_place : Cal P w K mg base AnyB "first_place" 1 ["word", "start", "end"] sfirst_place) (zisinstance : mg "isinstance" = none) (ztuple : mg "tuple" = none) (zall : mg "all" = none) (zlen : mg "len" = none) (zrange : mg "range" = none)
    (hs : ∀ ds R, ds.length = 2 → g.f ds R → w_are_milestones sis_whole sfirst_place { nx := fun _ => R .non, rt := R } (startW 4 ds)) : Cal P w K mg base AnyB "are_milestones" 2 ["word", "value"] g :=
  cal_of F hm sc_are_milestones (fun _ _ _ _ _ _ us hl => match us, hl with | [_, _], _ => rfl) (fun β hβ cdv A outer s H E hr => have nd := sc_are_milestones.nd; (pb_cons (ps_if (PWW.pwt (pww_or (pwt_not (pwt_of (pw_isi .tuple (pw_name 1 (pv 1)) zisinstance ztuple (by decide +kernel)))) (pww_or (pwt_cmp (d_eq hr.units) (pw_name 1 (pv 1)) (pw_tup pwl_nil)) (pww_or1 (pwt_not (pwt_of (pw_b (c_all rfl) zall (by decide +kernel) (pwl_cons (pw_lc (z := (s, H, 0, [], [])) (own := [("place", 3)]) nd (pi_val (pw_name 1 (pv 1))) (blkOk_by (N := ["word", "value", "k", "place"]) (sc := defScope st_are_milestones) (by decide +kernel)) (fun _ _ _ _ _ => (pg_name (i := 3) nd rfl (by first | exact Or.inl rfl | exact Or.inr rfl))) (fun _ _ _ _ _ => ptw_nil) (fun _ _ _ _ _ => (pw_callC cis_whole trivial (hr.mono (by omega)) (pwl_cons (pw_name 3 (pv 3)) pwl_nil)))) pwl_nil)))))))) (pb_one (ps_ret pw_bl)) pb_nil)
      (pb_cons (ps_if (PWW.pwt (pww_or (pwt_cmp (d_ne hr.units) (pw_ix d_ix (pw_name 1 (pv 1)) pw_int) pw_int) (pww_or1 (pwt_cmp d_ge (pw_ix d_ix (pw_name 1 (pv 1)) (pw_un d_neg pw_int)) (pw_b c_len zlen (by decide +kernel) (pwl_cons (pw_name 0 (pv 0)) pwl_nil)))))) (pb_one (ps_ret pw_bl)) pb_nil)
      (pb_cons (ps_for (t := (.one 2)) (pi_rng1 (pw_bin d_sub (pw_b c_len zlen (by decide +kernel) (pwl_cons (pw_name 1 (pv 1)) pwl_nil)) pw_int) zrange) (pg_name (i := 2) nd rfl (by first | exact Or.inl rfl | exact Or.inr rfl)) (pb_one (ps_if (PWW.pwt (pww_or (pwt_cmp d_ge (pw_ix d_ix (pw_name 1 (pv 1)) (pw_name 2 (pv 2))) (pw_ix d_ix (pw_name 1 (pv 1)) (pw_bin d_add (pw_name 2 (pv 2)) pw_int))) (pww_or1 (pwt_cmp d_lt (pw_callC cfirst_place trivial (hr.mono (by omega)) (pwl_cons (pw_name 0 (pv 0)) (pwl_cons (pw_ix d_ix (pw_name 1 (pv 1)) (pw_name 2 (pv 2))) (pwl_cons (pw_bin d_add (pw_ix d_ix (pw_name 1 (pv 1)) (pw_bin d_add (pw_name 2 (pv 2)) pw_int)) pw_int) pwl_nil)))) (pw_ix d_ix (pw_name 1 (pv 1)) (pw_name 2 (pv 2))))))) (pb_one (ps_ret pw_bl)) pb_nil)))
      (pb_one (ps_ret pw_bl)))))) hs
abbrev st_next_end : Stmt := topS 9
theorem sc_next_end : FnScope ["word", "start", "end"] ["word", "start"] (defScope st_next_end) := ⟨rfl, rfl, rfl, by decide +kernel, rfl, by decide +kernel, by decide +kernel⟩
theorem ok_next_end {P : Program} {w : World} {K : PySem.W.Frag} {mg : Str → Option Value} {base : Heap} {f : Addr} {fd : FuncData} {g sfirst_place : Sx} (F : Fun K "next_end" "next_end" st_next_end f fd) (hm : mg "next_end" = some (.ref f)) (cfirst_place : Cal P w K mg base AnyB "first_place" 1 ["word", "start", "end"] sfirst_place) (zlen : mg "len" = none)
    (hs : ∀ ds R, ds.length = 2 → g.f ds R → w_next_end sfirst_place { nx := fun _ => R .non, rt := R } (startW 3 ds)) : Cal P w K mg base AnyB "next_end" 2 ["word", "start"] g :=
  cal_of F hm sc_next_end (fun _ _ _ _ _ _ us hl => match us, hl with | [_, _], _ => rfl) (fun β hβ cdv A outer s H E hr => have nd := sc_next_end.nd; (pb_cons (ps_set (i := 2) nd rfl (by first | exact Or.inl rfl | exact Or.inr rfl) (pw_name 1 (pv 1)))
      (pb_cons (ps_while (PWW.pwt (pww_and (pwt_cmp d_lt (pw_name 2 (pv 2)) (pw_b c_len zlen (by decide +kernel) (pwl_cons (pw_name 0 (pv 0)) pwl_nil))) (pww_and1 (pwt_cmp d_lt (pw_callC cfirst_place trivial (hr.mono (by omega)) (pwl_cons (pw_name 0 (pv 0)) (pwl_cons (pw_name 1 (pv 1)) (pwl_cons (pw_bin d_add (pw_name 2 (pv 2)) pw_int) pwl_nil)))) (pw_name 1 (pv 1)))))) (pb_one (ps_aug (i := 2) nd rfl (by first | exact Or.inl rfl | exact Or.inr rfl) d_iadd pw_int)))
      (pb_one (ps_ret (pw_name 2 (pv 2))))))) hs
abbrev st_pack : Stmt := topS 10
theorem sc_pack : FnScope ["word", "found", "start", "end"] ["word"] (defScope st_pack) := ⟨rfl, rfl, rfl, by decide +kernel, rfl, by decide +kernel, by decide +kernel⟩
theorem ok_pack {P : Program} {w : World} {K : PySem.W.Frag} {mg : Str → Option Value} {base : Heap} {f : Addr} {fd : FuncData} {g snext_end sfirst_place : Sx} (F : Fun K "pack" "pack" st_pack f fd) (hm : mg "pack" = some (.ref f)) (cnext_end : Cal P w K mg base AnyB "next_end" 2 ["word", "start"] snext_end) (cfirst_place : Cal P w K mg base AnyB "first_place" 1 ["word", "start", "end"] sfirst_place) (zlen : mg "len" = none) (ztuple : mg "tuple" = none)
    (hs : ∀ ds R, ds.length = 1 → g.f ds R → w_pack snext_end sfirst_place { nx := fun _ => R .non, rt := R } (startW 4 ds)) : Cal P w K mg base AnyB "pack" 3 ["word"] g :=
  cal_of F hm sc_pack (fun _ _ _ _ _ _ us hl => match us, hl with | [_], _ => rfl) (fun β hβ cdv A outer s H E hr => have nd := sc_pack.nd; (pb_cons (ps_par (i := 1) (j := 2) rfl nd rfl rfl (by decide) rfl rfl (pw_lst pwl_nil) pw_int (by rfl))
      (pb_cons (ps_while (pwt_cmp d_lt (pw_name 2 (pv 2)) (pw_b c_len zlen (by decide +kernel) (pwl_cons (pw_name 0 (pv 0)) pwl_nil))) (pb_cons (ps_set (i := 3) nd rfl (by first | exact Or.inl rfl | exact Or.inr rfl) (pw_callC cnext_end trivial (hr.mono (by omega)) (pwl_cons (pw_name 0 (pv 0)) (pwl_cons (pw_name 2 (pv 2)) pwl_nil))))
      (pb_one (ps_if (pwt_cmp (d_eq hr.units) (pw_name 3 (pv 3)) (pw_name 2 (pv 2))) (pb_cons (ps_app (pv 1) (pw_ix d_ix (pw_name 0 (pv 0)) (pw_name 2 (pv 2))))
      (pb_one (ps_aug (i := 2) nd rfl (by first | exact Or.inl rfl | exact Or.inr rfl) d_iadd pw_int))) (pb_cons (ps_app (pv 1) (pw_tup (pwl_cons (pw_callC cfirst_place trivial (hr.mono (by omega)) (pwl_cons (pw_name 0 (pv 0)) (pwl_cons (pw_name 2 (pv 2)) (pwl_cons (pw_name 3 (pv 3)) pwl_nil)))) (pwl_cons (pw_bin d_sub (pw_name 3 (pv 3)) (pw_name 2 (pv 2))) pwl_nil))))
      (pb_one (ps_set (i := 2) nd rfl (by first | exact Or.inl rfl | exact Or.inr rfl) (pw_name 3 (pv 3)))))))))
      (pb_one (ps_ret (pw_ty (c_tupleA rfl) ztuple (by decide +kernel) (pwl_cons (pw_name 1 (pv 1)) pwl_nil))))))) hs
abbrev st_milestones : Stmt := topS 11
theorem sc_milestones : FnScope ["word", "found", "start"] ["word"] (defScope st_milestones) := ⟨rfl, rfl, rfl, by decide +kernel, rfl, by decide +kernel, by decide +kernel⟩
theorem ok_milestones {P : Program} {w : World} {K : PySem.W.Frag} {mg : Str → Option Value} {base : Heap} {f : Addr} {fd : FuncData} {g snext_end : Sx} (F : Fun K "milestones" "milestones" st_milestones f fd) (hm : mg "milestones" = some (.ref f)) (cnext_end : Cal P w K mg base AnyB "next_end" 2 ["word", "start"] snext_end) (zlen : mg "len" = none) (zmax : mg "max" = none) (ztuple : mg "tuple" = none)
    (hs : ∀ ds R, ds.length = 1 → g.f ds R → w_milestones snext_end { nx := fun _ => R .non, rt := R } (startW 3 ds)) : Cal P w K mg base AnyB "milestones" 3 ["word"] g :=
  cal_of F hm sc_milestones (fun _ _ _ _ _ _ us hl => match us, hl with | [_], _ => rfl) (fun β hβ cdv A outer s H E hr => have nd := sc_milestones.nd; (pb_cons (ps_par (i := 1) (j := 2) rfl nd rfl rfl (by decide) rfl rfl (pw_lst pwl_nil) pw_int (by rfl))
      (pb_cons (ps_while (pwt_cmp d_lt (pw_name 2 (pv 2)) (pw_b c_len zlen (by decide +kernel) (pwl_cons (pw_name 0 (pv 0)) pwl_nil))) (pb_cons (ps_app (pv 1) (pw_name 2 (pv 2)))
      (pb_one (ps_set (i := 2) nd rfl (by first | exact Or.inl rfl | exact Or.inr rfl) (pw_b (c_max2 rfl) zmax (by decide +kernel) (pwl_cons (pw_bin d_add (pw_name 2 (pv 2)) pw_int) (pwl_cons (pw_callC cnext_end trivial (hr.mono (by omega)) (pwl_cons (pw_name 0 (pv 0)) (pwl_cons (pw_name 2 (pv 2)) pwl_nil))) pwl_nil)))))))
      (pb_one (ps_ret (pw_ty (c_tupleA rfl) ztuple (by decide +kernel) (pwl_cons (pw_name 1 (pv 1)) pwl_nil))))))) hs
abbrev st__law_same : Stmt := topS 16
theorem sc__law_same : FnScope ["a", "b", "k"] ["a", "b"] (defScope st__law_same) := ⟨rfl, rfl, rfl, by decide +kernel, rfl, by decide +kernel, by decide +kernel⟩
theorem ok__law_same {P : Program} {w : World} {K : PySem.W.Frag} {mg : Str → Option Value} {base : Heap} {f : Addr} {fd : FuncData} {g s_law_same : Sx} (F : Fun K "_law_same" "_law_same" st__law_same f fd) (hm : mg "_law_same" = some (.ref f)) {k : Nat} (hk : 0 ≤ k) (c_law_same : Cal P w K mg base AnyB "_law_same" k ["a", "b"] s_law_same) (zisinstance : mg "isinstance" = none) (ztuple : mg "tuple" = none) (zlist : mg "list" = none) (zlen : mg "len" = none) (zall : mg "all" = none) (zrange : mg "range" = none) (zbool : mg "bool" = none) (zint : mg "int" = none) (zstr : mg "str" = none)
    (hs : ∀ ds R, ds.length = 2 → g.f ds R → w__law_same s_law_same { nx := fun _ => R .non, rt := R } (startW 3 ds)) : Cal P w K mg base AnyB "_law_same" (k + 1) ["a", "b"] g :=
  cal_of F hm sc__law_same (fun _ _ _ _ _ _ us hl => match us, hl with | [_, _], _ => rfl) (fun β hβ cdv A outer s H E hr => have nd := sc__law_same.nd; (pb_cons (ps_if (PWW.pwt (pww_or (PWW.pwt (pww_and (pwt_of (pw_isi .tuple (pw_name 0 (pv 0)) zisinstance ztuple (by decide +kernel))) (pww_and1 (pwt_of (pw_isi .tuple (pw_name 1 (pv 1)) zisinstance ztuple (by decide +kernel)))))) (pww_or1 (PWW.pwt (pww_and (pwt_of (pw_isi .list (pw_name 0 (pv 0)) zisinstance zlist (by decide +kernel))) (pww_and1 (pwt_of (pw_isi .list (pw_name 1 (pv 1)) zisinstance zlist (by decide +kernel))))))))) (pb_one (ps_ret (pw_andV (pw_cmp (d_eq hr.units) (pw_b c_len zlen (by decide +kernel) (pwl_cons (pw_name 0 (pv 0)) pwl_nil)) (pw_b c_len zlen (by decide +kernel) (pwl_cons (pw_name 1 (pv 1)) pwl_nil))) (pw_one (pw_b (c_all rfl) zall (by decide +kernel) (pwl_cons (pw_lc (z := (s, H, 0, [], [])) (own := [("k", 2)]) nd (pi_rng1 (pw_b c_len zlen (by decide +kernel) (pwl_cons (pw_name 0 (pv 0)) pwl_nil)) zrange) (blkOk_by (N := ["a", "b", "k"]) (sc := defScope st__law_same) (by decide +kernel)) (fun _ _ _ _ _ => (pg_name (i := 2) nd rfl (by first | exact Or.inl rfl | exact Or.inr rfl))) (fun _ _ _ _ _ => ptw_nil) (fun _ _ _ _ _ => (pw_callC c_law_same trivial (hr.mono (by omega)) (pwl_cons (pw_ix d_ix (pw_name 0 (pv 0)) (pw_name 2 (pv 2))) (pwl_cons (pw_ix d_ix (pw_name 1 (pv 1)) (pw_name 2 (pv 2))) pwl_nil))))) pwl_nil)))))) pb_nil)
      (pb_cons (ps_if (PWW.pwt (pww_or (pwt_of (pw_isi .bool (pw_name 0 (pv 0)) zisinstance zbool (by decide +kernel))) (pww_or1 (pwt_of (pw_isi .bool (pw_name 1 (pv 1)) zisinstance zbool (by decide +kernel)))))) (pb_one (ps_ret (pw_andV (pw_isi .bool (pw_name 0 (pv 0)) zisinstance zbool (by decide +kernel)) (pw_andV (pw_isi .bool (pw_name 1 (pv 1)) zisinstance zbool (by decide +kernel)) (pw_one (pw_cmp (d_eq hr.units) (pw_name 0 (pv 0)) (pw_name 1 (pv 1)))))))) pb_nil)
      (pb_cons (ps_if (PWW.pwt (pww_or (PWW.pwt (pww_and (pwt_of (pw_isi .int (pw_name 0 (pv 0)) zisinstance zint (by decide +kernel))) (pww_and1 (pwt_of (pw_isi .int (pw_name 1 (pv 1)) zisinstance zint (by decide +kernel)))))) (pww_or1 (PWW.pwt (pww_and (pwt_of (pw_isi .str (pw_name 0 (pv 0)) zisinstance zstr (by decide +kernel))) (pww_and1 (pwt_of (pw_isi .str (pw_name 1 (pv 1)) zisinstance zstr (by decide +kernel))))))))) (pb_one (ps_ret (pw_cmp (d_eq hr.units) (pw_name 0 (pv 0)) (pw_name 1 (pv 1))))) pb_nil)
      (pb_one (ps_ret (pw_andV (pw_cmp d_is (pw_name 0 (pv 0)) pw_non) (pw_one (pw_cmp d_is (pw_name 1 (pv 1)) pw_non))))))))) hs
abbrev st__law_word : Stmt := topS 17
theorem sc__law_word : FnScope ["box", "most", "k", "n", "pick", "letters", "p", "at", "i"] ["box", "most", "k"] (defScope st__law_word) := ⟨rfl, rfl, rfl, by decide +kernel, rfl, by decide +kernel, by decide +kernel⟩
theorem ok__law_word {P : Program} {w : World} {K : PySem.W.Frag} {mg : Str → Option Value} {base : Heap} {f : Addr} {fd : FuncData} {g s_law_draw s_law_letters : Sx} (F : Fun K "_law_word" "_law_word" st__law_word f fd) (hm : mg "_law_word" = some (.ref f)) (c_law_draw : Cal P w K mg base IsBox "_law_draw" 2 ["box", "many"] s_law_draw) (c_law_letters : Cal P w K mg base AnyB "_law_letters" 1 [] s_law_letters) (zrange : mg "range" = none) (zmin : mg "min" = none)
    (hs : ∀ ds R, ds.length = 3 → g.f ds R → w__law_word s_law_draw s_law_letters { nx := fun _ => R .non, rt := R } (startW 9 ds)) : Cal P w K mg base IsBox "_law_word" 3 ["box", "most", "k"] g :=
  cal_of F hm sc__law_word (fun _ _ _ _ _ _ us hl => match us, hl with | [_, _, _], _ => rfl) (fun β hβ cdv A outer s H E hr => have nd := sc__law_word.nd; (pb_cons (ps_par (i := 3) (j := 4) rfl nd rfl rfl (by decide) rfl rfl (pw_callC c_law_draw hβ (hr.mono (by omega)) (pwl_cons (pw_name 0 (pv 0)) (pwl_cons (pw_bin d_add (pw_name 1 (pv 1)) pw_int) pwl_nil))) (pw_callC c_law_draw hβ (hr.mono (by omega)) (pwl_cons (pw_name 0 (pv 0)) (pwl_cons pw_int pwl_nil))) (by rfl))
      (pb_cons (ps_set (i := 5) nd rfl (by first | exact Or.inl rfl | exact Or.inr rfl) (pw_lc (z := (s, H, 0, [], [])) (own := [("i", 8)]) nd (pi_rng1 (pw_name 3 (pv 3)) zrange) (blkOk_by (N := ["box", "most", "k", "n", "pick", "letters", "p", "at", "i"]) (sc := defScope st__law_word) (by decide +kernel)) (fun _ _ _ _ _ => (pg_name (i := 8) nd rfl (by first | exact Or.inl rfl | exact Or.inr rfl))) (fun _ _ _ _ _ => ptw_nil) (fun _ _ _ _ _ => (pw_ix d_ix (pw_callC0 c_law_letters trivial (hr.mono (by omega))) (pw_callC c_law_draw hβ (hr.mono (by omega)) (pwl_cons (pw_name 0 (pv 0)) (pwl_cons (pw_name 2 (pv 2)) pwl_nil)))))))
      (pb_cons (ps_if (PWW.pwt (pww_and (pwt_cmp d_gt (pw_name 4 (pv 4)) pw_int) (pww_and1 (pwt_cmp d_gt (pw_name 3 (pv 3)) pw_int)))) (pb_cons (ps_set (i := 6) nd rfl (by first | exact Or.inl rfl | exact Or.inr rfl) (pw_bin d_add pw_int (pw_callC c_law_draw hβ (hr.mono (by omega)) (pwl_cons (pw_name 0 (pv 0)) (pwl_cons (pw_b (c_min2 rfl) zmin (by decide +kernel) (pwl_cons (pw_name 3 (pv 3)) (pwl_cons pw_int pwl_nil))) pwl_nil)))))
      (pb_cons (ps_set (i := 5) nd rfl (by first | exact Or.inl rfl | exact Or.inr rfl) (pw_lc (z := (s, H, 0, [], [])) (own := [("i", 8)]) nd (pi_rng1 (pw_name 3 (pv 3)) zrange) (blkOk_by (N := ["box", "most", "k", "n", "pick", "letters", "p", "at", "i"]) (sc := defScope st__law_word) (by decide +kernel)) (fun _ _ _ _ _ => (pg_name (i := 8) nd rfl (by first | exact Or.inl rfl | exact Or.inr rfl))) (fun _ _ _ _ _ => ptw_nil) (fun _ _ _ _ _ => (pw_ix d_ix (pw_name 5 (pv 5)) (pw_bin d_mod (pw_name 8 (pv 8)) (pw_name 6 (pv 6)))))))
      (pb_cons (ps_if (pwt_cmp (d_eq hr.units) (pw_name 4 (pv 4)) pw_int) (pb_one (ps_setI (i := 5) (pv 5) (pw_ix d_ix (pw_callC0 c_law_letters trivial (hr.mono (by omega))) (pw_callC c_law_draw hβ (hr.mono (by omega)) (pwl_cons (pw_name 0 (pv 0)) (pwl_cons (pw_name 2 (pv 2)) pwl_nil)))) (pw_callC c_law_draw hβ (hr.mono (by omega)) (pwl_cons (pw_name 0 (pv 0)) (pwl_cons (pw_name 3 (pv 3)) pwl_nil))))) pb_nil)
      (pb_one (ps_if (PWW.pwt (pww_and (pwt_cmp (d_eq hr.units) (pw_name 4 (pv 4)) pw_int) (pww_and1 (pwt_cmp d_gt (pw_name 3 (pv 3)) pw_int)))) (pb_cons (ps_set (i := 7) nd rfl (by first | exact Or.inl rfl | exact Or.inr rfl) (pw_callC c_law_draw hβ (hr.mono (by omega)) (pwl_cons (pw_name 0 (pv 0)) (pwl_cons (pw_name 3 (pv 3)) pwl_nil))))
      (pb_one (ps_set (i := 5) nd rfl (by first | exact Or.inl rfl | exact Or.inr rfl) (pw_bin d_add (pw_slice (pw_name 5 (pv 5)) pp_none (pp_some (pw_name 7 (pv 7)))) (pw_slice (pw_name 5 (pv 5)) pp_none (pp_some (pw_bin d_sub (pw_name 3 (pv 3)) (pw_name 7 (pv 7))))))))) pb_nil))))) pb_nil)
      (pb_one (ps_ret (pw_m PySem.F.plainAttrs_str PySem.F.slot_str_join PySem.F.type_str_join m_join (pw_str (l := []) rfl (okS_dec (by decide))) (pwl_cons (pw_name 5 (pv 5)) pwl_nil)))))))) hs
abbrev st__law_letters : Stmt := topS 18
theorem sc__law_letters : FnScope [] [] (defScope st__law_letters) := ⟨rfl, rfl, rfl, by decide +kernel, rfl, by decide +kernel, by decide +kernel⟩
theorem ok__law_letters {P : Program} {w : World} {K : PySem.W.Frag} {mg : Str → Option Value} {base : Heap} {f : Addr} {fd : FuncData} {g : Sx} (F : Fun K "_law_letters" "_law_letters" st__law_letters f fd) (hm : mg "_law_letters" = some (.ref f))
    (hs : ∀ ds R, ds.length = 0 → g.f ds R → w__law_letters { nx := fun _ => R .non, rt := R } (startW 0 ds)) : Cal P w K mg base AnyB "_law_letters" 1 [] g :=
  cal_of F hm sc__law_letters (fun _ _ _ _ _ _ us hl => match us, hl with | [], _ => rfl) (fun β hβ cdv A outer s H E hr => have nd := sc__law_letters.nd; (pb_one (ps_ret (pw_str (l := [97, 98, 99, 100, 101, 102, 103, 104, 105, 106, 107, 108, 109, 110, 111, 112, 113, 114, 115, 116, 117, 118, 119, 120, 121, 122]) rfl (okS_dec (by decide)))))) hs
abbrev st__law_bent : Stmt := topS 19
theorem sc__law_bent : FnScope ["box", "value", "at", "pick"] ["box", "value"] (defScope st__law_bent) := ⟨rfl, rfl, rfl, by decide +kernel, rfl, by decide +kernel, by decide +kernel⟩
theorem ok__law_bent {P : Program} {w : World} {K : PySem.W.Frag} {mg : Str → Option Value} {base : Heap} {f : Addr} {fd : FuncData} {g s_law_draw s_law_bent : Sx} (F : Fun K "_law_bent" "_law_bent" st__law_bent f fd) (hm : mg "_law_bent" = some (.ref f)) {k : Nat} (hk : 2 ≤ k) (c_law_draw : Cal P w K mg base IsBox "_law_draw" 2 ["box", "many"] s_law_draw) (c_law_bent : Cal P w K mg base IsBox "_law_bent" k ["box", "value"] s_law_bent) (zisinstance : mg "isinstance" = none) (ztuple : mg "tuple" = none) (zlen : mg "len" = none) (zstr : mg "str" = none) (zint : mg "int" = none) (zbool : mg "bool" = none)
    (hs : ∀ ds R, ds.length = 2 → g.f ds R → w__law_bent s_law_draw s_law_bent { nx := fun _ => R .non, rt := R } (startW 4 ds)) : Cal P w K mg base IsBox "_law_bent" (k + 1) ["box", "value"] g :=
  cal_of F hm sc__law_bent (fun _ _ _ _ _ _ us hl => match us, hl with | [_, _], _ => rfl) (fun β hβ cdv A outer s H E hr => have nd := sc__law_bent.nd; (pb_cons (ps_if (PWW.pwt (pww_and (pwt_of (pw_isi .tuple (pw_name 1 (pv 1)) zisinstance ztuple (by decide +kernel))) (pww_and (pwt_cmp d_gt (pw_b c_len zlen (by decide +kernel) (pwl_cons (pw_name 1 (pv 1)) pwl_nil)) pw_int) (pww_and1 (pwt_cmp d_gt (pw_callC c_law_draw hβ (hr.mono (by omega)) (pwl_cons (pw_name 0 (pv 0)) (pwl_cons pw_int pwl_nil))) pw_int))))) (pb_cons (ps_set (i := 2) nd rfl (by first | exact Or.inl rfl | exact Or.inr rfl) (pw_callC c_law_draw hβ (hr.mono (by omega)) (pwl_cons (pw_name 0 (pv 0)) (pwl_cons (pw_b c_len zlen (by decide +kernel) (pwl_cons (pw_name 1 (pv 1)) pwl_nil)) pwl_nil))))
      (pb_one (ps_ret (pw_bin d_add (pw_bin d_add (pw_slice (pw_name 1 (pv 1)) pp_none (pp_some (pw_name 2 (pv 2)))) (pw_tup (pwl_cons (pw_callC c_law_bent hβ (hr.mono (by omega)) (pwl_cons (pw_name 0 (pv 0)) (pwl_cons (pw_ix d_ix (pw_name 1 (pv 1)) (pw_name 2 (pv 2))) pwl_nil))) pwl_nil))) (pw_slice (pw_name 1 (pv 1)) (pp_some (pw_bin d_add (pw_name 2 (pv 2)) pw_int)) pp_none))))) pb_nil)
      (pb_cons (ps_set (i := 3) nd rfl (by first | exact Or.inl rfl | exact Or.inr rfl) (pw_callC c_law_draw hβ (hr.mono (by omega)) (pwl_cons (pw_name 0 (pv 0)) (pwl_cons pw_int pwl_nil))))
      (pb_cons (ps_if (pwt_of (pw_isi .tuple (pw_name 1 (pv 1)) zisinstance ztuple (by decide +kernel))) (pb_one (ps_ret (pw_ix d_ix (pw_lst (pwl_cons (pw_bin d_add (pw_name 1 (pv 1)) (pw_slice (pw_name 1 (pv 1)) pp_none (pp_some pw_int))) (pwl_cons (pw_slice (pw_name 1 (pv 1)) (pp_some pw_int) pp_none) (pwl_cons (pw_rev (pw_name 1 (pv 1))) (pwl_cons (pw_bin d_add (pw_name 1 (pv 1)) (pw_tup (pwl_cons (pw_str (l := [97]) rfl (okS_dec (by decide))) pwl_nil))) (pwl_cons (pw_tup (pwl_cons (pw_name 1 (pv 1)) pwl_nil)) (pwl_cons (pw_slice (pw_name 1 (pv 1)) pp_none (pp_some (pw_un d_neg pw_int))) (pwl_cons pw_non (pwl_cons (pw_bin d_add (pw_name 1 (pv 1)) (pw_tup (pwl_cons (pw_tup pwl_nil) pwl_nil))) pwl_nil))))))))) (pw_name 3 (pv 3))))) pb_nil)
      (pb_cons (ps_if (pwt_of (pw_isi .str (pw_name 1 (pv 1)) zisinstance zstr (by decide +kernel))) (pb_one (ps_ret (pw_ix d_ix (pw_lst (pwl_cons (pw_bin d_add (pw_name 1 (pv 1)) (pw_str (l := [97]) rfl (okS_dec (by decide)))) (pwl_cons (pw_slice (pw_name 1 (pv 1)) (pp_some pw_int) pp_none) (pwl_cons (pw_rev (pw_name 1 (pv 1))) (pwl_cons (pw_slice (pw_name 1 (pv 1)) pp_none (pp_some (pw_un d_neg pw_int))) (pwl_cons (pw_bin d_add (pw_name 1 (pv 1)) (pw_name 1 (pv 1))) (pwl_cons pw_non (pwl_cons (pw_tup (pwl_cons (pw_name 1 (pv 1)) pwl_nil)) (pwl_cons (pw_m0 PySem.F.plainAttrs_str PySem.F.slot_str_upper PySem.F.type_str_upper m_upper (pw_name 1 (pv 1))) pwl_nil))))))))) (pw_name 3 (pv 3))))) pb_nil)
      (pb_cons (ps_if (PWW.pwt (pww_and (pwt_of (pw_isi .int (pw_name 1 (pv 1)) zisinstance zint (by decide +kernel))) (pww_and1 (pwt_not (pwt_of (pw_isi .bool (pw_name 1 (pv 1)) zisinstance zbool (by decide +kernel))))))) (pb_one (ps_ret (pw_ix d_ix (pw_lst (pwl_cons (pw_bin d_add (pw_name 1 (pv 1)) pw_int) (pwl_cons (pw_bin d_sub (pw_name 1 (pv 1)) pw_int) (pwl_cons (pw_bin d_add (pw_name 1 (pv 1)) pw_int) (pwl_cons (pw_cmp (d_eq hr.units) (pw_name 1 (pv 1)) pw_int) (pwl_cons pw_non (pwl_cons (pw_str (l := [97]) rfl (okS_dec (by decide))) (pwl_cons (pw_un d_neg (pw_name 1 (pv 1))) (pwl_cons (pw_tup (pwl_cons (pw_name 1 (pv 1)) pwl_nil)) pwl_nil))))))))) (pw_name 3 (pv 3))))) pb_nil)
      (pb_one (ps_ret (pw_ix d_ix (pw_lst (pwl_cons pw_int (pwl_cons pw_int (pwl_cons pw_non (pwl_cons pw_bl (pwl_cons (pw_str (l := [97]) rfl (okS_dec (by decide))) (pwl_cons (pw_tup pwl_nil) (pwl_cons (pw_tup (pwl_cons (pw_str (l := [97]) rfl (okS_dec (by decide))) pwl_nil)) (pwl_cons (pw_un d_neg pw_int) pwl_nil))))))))) (pw_name 3 (pv 3))))))))))) hs
abbrev st__law_whole : Stmt := topS 20
theorem sc__law_whole : FnScope ["value"] ["value"] (defScope st__law_whole) := ⟨rfl, rfl, rfl, by decide +kernel, rfl, by decide +kernel, by decide +kernel⟩
theorem ok__law_whole {P : Program} {w : World} {K : PySem.W.Frag} {mg : Str → Option Value} {base : Heap} {f : Addr} {fd : FuncData} {g : Sx} (F : Fun K "_law_whole" "_law_whole" st__law_whole f fd) (hm : mg "_law_whole" = some (.ref f)) (zisinstance : mg "isinstance" = none) (zint : mg "int" = none) (zbool : mg "bool" = none)
    (hs : ∀ ds R, ds.length = 1 → g.f ds R → w__law_whole { nx := fun _ => R .non, rt := R } (startW 1 ds)) : Cal P w K mg base AnyB "_law_whole" 1 ["value"] g :=
  cal_of F hm sc__law_whole (fun _ _ _ _ _ _ us hl => match us, hl with | [_], _ => rfl) (fun β hβ cdv A outer s H E hr => have nd := sc__law_whole.nd; (pb_one (ps_ret (pw_andV (pw_isi .int (pw_name 0 (pv 0)) zisinstance zint (by decide +kernel)) (pw_andV (pw_notV (pw_isi .bool (pw_name 0 (pv 0)) zisinstance zbool (by decide +kernel))) (pw_one (pw_cmp d_ge (pw_name 0 (pv 0)) pw_int))))))) hs
abbrev st__law_given : Stmt := topS 21
theorem sc__law_given : FnScope ["word", "value", "text", "item", "k"] ["word", "value"] (defScope st__law_given) := ⟨rfl, rfl, rfl, by decide +kernel, rfl, by decide +kernel, by decide +kernel⟩
theorem ok__law_given {P : Program} {w : World} {K : PySem.W.Frag} {mg : Str → Option Value} {base : Heap} {f : Addr} {fd : FuncData} {g s_law_letters s_law_whole : Sx} (F : Fun K "_law_given" "_law_given" st__law_given f fd) (hm : mg "_law_given" = some (.ref f)) (c_law_letters : Cal P w K mg base AnyB "_law_letters" 1 [] s_law_letters) (c_law_whole : Cal P w K mg base AnyB "_law_whole" 1 ["value"] s_law_whole) (zisinstance : mg "isinstance" = none) (ztuple : mg "tuple" = none) (zstr : mg "str" = none) (zlen : mg "len" = none) (zrange : mg "range" = none)
    (hs : ∀ ds R, ds.length = 2 → g.f ds R → w__law_given s_law_letters s_law_whole { nx := fun _ => R .non, rt := R } (startW 5 ds)) : Cal P w K mg base AnyB "_law_given" 2 ["word", "value"] g :=
  cal_of F hm sc__law_given (fun _ _ _ _ _ _ us hl => match us, hl with | [_, _], _ => rfl) (fun β hβ cdv A outer s H E hr => have nd := sc__law_given.nd; (pb_cons (ps_if (pwt_not (pwt_of (pw_isi .tuple (pw_name 1 (pv 1)) zisinstance ztuple (by decide +kernel)))) (pb_one (ps_ret pw_non)) pb_nil)
      (pb_cons (ps_set (i := 2) nd rfl (by first | exact Or.inl rfl | exact Or.inr rfl) (pw_str (l := []) rfl (okS_dec (by decide))))
      (pb_cons (ps_for (t := (.one 3)) (pi_val (pw_name 1 (pv 1))) (pg_name (i := 3) nd rfl (by first | exact Or.inl rfl | exact Or.inr rfl)) (pb_one (ps_if (pwt_of (pw_isi .str (pw_name 3 (pv 3)) zisinstance zstr (by decide +kernel))) (pb_cons (ps_if (PWW.pwt (pww_or (pwt_cmp (d_ne hr.units) (pw_b c_len zlen (by decide +kernel) (pwl_cons (pw_name 3 (pv 3)) pwl_nil)) pw_int) (pww_or1 (pwt_cmp (d_notIn hr.units65) (pw_name 3 (pv 3)) (pw_callC0 c_law_letters trivial (hr.mono (by omega))) (by rfl))))) (pb_one (ps_ret pw_non)) pb_nil)
      (pb_one (ps_set (i := 2) nd rfl (by first | exact Or.inl rfl | exact Or.inr rfl) (pw_bin d_add (pw_name 2 (pv 2)) (pw_name 3 (pv 3)))))) (pb_one (ps_if (PWW.pwt (pww_and (pwt_of (pw_isi .tuple (pw_name 3 (pv 3)) zisinstance ztuple (by decide +kernel))) (pww_and (pwt_cmp (d_eq hr.units) (pw_b c_len zlen (by decide +kernel) (pwl_cons (pw_name 3 (pv 3)) pwl_nil)) pw_int) (pww_and (pwt_of (pw_callC c_law_whole trivial (hr.mono (by omega)) (pwl_cons (pw_ix d_ix (pw_name 3 (pv 3)) pw_int) pwl_nil))) (pww_and (pwt_of (pw_callC c_law_whole trivial (hr.mono (by omega)) (pwl_cons (pw_ix d_ix (pw_name 3 (pv 3)) pw_int) pwl_nil))) (pww_and (pwt_cmp d_lt (pw_ix d_ix (pw_name 3 (pv 3)) pw_int) (pw_b c_len zlen (by decide +kernel) (pwl_cons (pw_name 2 (pv 2)) pwl_nil))) (pww_and (pwt_cmp d_gt (pw_ix d_ix (pw_name 3 (pv 3)) pw_int) pw_int) (pww_and1 (pwt_cmp d_le (pw_bin d_add (pw_b c_len zlen (by decide +kernel) (pwl_cons (pw_name 2 (pv 2)) pwl_nil)) (pw_ix d_ix (pw_name 3 (pv 3)) pw_int)) (pw_b c_len zlen (by decide +kernel) (pwl_cons (pw_name 0 (pv 0)) pwl_nil))))))))))) (pb_one (ps_for (t := (.one 4)) (pi_rng1 (pw_ix d_ix (pw_name 3 (pv 3)) pw_int) zrange) (pg_name (i := 4) nd rfl (by first | exact Or.inl rfl | exact Or.inr rfl)) (pb_one (ps_set (i := 2) nd rfl (by first | exact Or.inl rfl | exact Or.inr rfl) (pw_bin d_add (pw_name 2 (pv 2)) (pw_ix d_ix (pw_name 2 (pv 2)) (pw_bin d_add (pw_ix d_ix (pw_name 3 (pv 3)) pw_int) (pw_name 4 (pv 4))))))))) (pb_one (ps_ret pw_non)))))))
      (pb_one (ps_ret (pw_name 2 (pv 2)))))))) hs
abbrev st__law_stands_before : Stmt := topS 22
theorem sc__law_stands_before : FnScope ["word", "start", "end", "found", "place"] ["word", "start", "end"] (defScope st__law_stands_before) := ⟨rfl, rfl, rfl, by decide +kernel, rfl, by decide +kernel, by decide +kernel⟩
theorem ok__law_stands_before {P : Program} {w : World} {K : PySem.W.Frag} {mg : Str → Option Value} {base : Heap} {f : Addr} {fd : FuncData} {g : Sx} (F : Fun K "_law_stands_before" "_law_stands_before" st__law_stands_before f fd) (hm : mg "_law_stands_before" = some (.ref f)) (zrange : mg "range" = none) (zlen : mg "len" = none)
    (hs : ∀ ds R, ds.length = 3 → g.f ds R → w__law_stands_before { nx := fun _ => R .non, rt := R } (startW 5 ds)) : Cal P w K mg base AnyB "_law_stands_before" 1 ["word", "start", "end"] g :=
  cal_of F hm sc__law_stands_before (fun _ _ _ _ _ _ us hl => match us, hl with | [_, _, _], _ => rfl) (fun β hβ cdv A outer s H E hr => have nd := sc__law_stands_before.nd; (pb_cons (ps_setLc (z := (s, H, 0, [], [])) (i := 3) (own := [("place", 4)]) nd rfl rfl (sw_true rfl rfl rfl (by decide +kernel)) (pi_rng1 (pw_name 1 (pv 1)) zrange) (blkOk_by (N := ["word", "start", "end", "found", "place"]) (sc := defScope st__law_stands_before) (by decide +kernel)) (fun _ _ _ _ _ => (pg_name (i := 4) nd rfl (by first | exact Or.inl rfl | exact Or.inr rfl))) (fun _ _ _ _ _ => (ptw_one (pwt_cmp (d_eq hr.units) (pw_slice (pw_name 0 (pv 0)) (pp_some (pw_name 4 (pv 4))) (pp_some (pw_bin d_sub (pw_bin d_add (pw_name 4 (pv 4)) (pw_name 2 (pv 2))) (pw_name 1 (pv 1))))) (pw_slice (pw_name 0 (pv 0)) (pp_some (pw_name 1 (pv 1))) (pp_some (pw_name 2 (pv 2))))))) (fun _ _ _ _ _ => (pw_name 4 (pv 4))))
      (pb_one (ps_ret (pw_if (pwt_cmp d_gt (pw_b c_len zlen (by decide +kernel) (pwl_cons (pw_name 3 (pv 3)) pwl_nil)) pw_int) (pw_ix d_ix (pw_name 3 (pv 3)) pw_int) (pw_un d_neg pw_int)))))) hs
abbrev st__law_greedy : Stmt := topS 23
theorem sc__law_greedy : FnScope ["word", "found", "start", "starts", "turn", "stops", "end"] ["word"] (defScope st__law_greedy) := ⟨rfl, rfl, rfl, by decide +kernel, rfl, by decide +kernel, by decide +kernel⟩
theorem ok__law_greedy {P : Program} {w : World} {K : PySem.W.Frag} {mg : Str → Option Value} {base : Heap} {f : Addr} {fd : FuncData} {g s_law_stands_before : Sx} (F : Fun K "_law_greedy" "_law_greedy" st__law_greedy f fd) (hm : mg "_law_greedy" = some (.ref f)) (c_law_stands_before : Cal P w K mg base AnyB "_law_stands_before" 1 ["word", "start", "end"] s_law_stands_before) (zrange : mg "range" = none) (zlen : mg "len" = none) (ztuple : mg "tuple" = none)
    (hs : ∀ ds R, ds.length = 1 → g.f ds R → w__law_greedy s_law_stands_before { nx := fun _ => R .non, rt := R } (startW 7 ds)) : Cal P w K mg base AnyB "_law_greedy" 2 ["word"] g :=
  cal_of F hm sc__law_greedy (fun _ _ _ _ _ _ us hl => match us, hl with | [_], _ => rfl) (fun β hβ cdv A outer s H E hr => have nd := sc__law_greedy.nd; (pb_cons (ps_par3T (i := 1) (j := 2) (l := 3) nd rfl rfl rfl (by decide) (by decide) (by decide) (by first | exact Or.inl rfl | exact Or.inr rfl) (by first | exact Or.inl rfl | exact Or.inr rfl) (by first | exact Or.inl rfl | exact Or.inr rfl) (pw_lst pwl_nil) pw_int (pw_lst pwl_nil))
      (pb_cons (ps_for (t := (.one 4)) (pi_rng1 (pw_b c_len zlen (by decide +kernel) (pwl_cons (pw_name 0 (pv 0)) pwl_nil)) zrange) (pg_name (i := 4) nd rfl (by first | exact Or.inl rfl | exact Or.inr rfl)) (pb_one (ps_if (pwt_cmp d_lt (pw_name 2 (pv 2)) (pw_b c_len zlen (by decide +kernel) (pwl_cons (pw_name 0 (pv 0)) pwl_nil))) (pb_cons (ps_fz 2 (ps_setLc (z := (s, H, 0, [], [])) (i := 5) (own := [("end", 6)]) nd rfl rfl (sw_true rfl rfl rfl (by decide +kernel)) (pi_rng2 (pw_bin d_add (pw_name 2 (pv 2)) pw_int) (pw_bin d_add (pw_b c_len zlen (by decide +kernel) (pwl_cons (pw_name 0 (pv 0)) pwl_nil)) pw_int) zrange) (blkOk_by (N := ["word", "found", "start", "starts", "turn", "stops", "end"]) (sc := defScope st__law_greedy) (by decide +kernel)) (fun _ _ _ _ _ => (pg_name (i := 6) nd rfl (by first | exact Or.inl rfl | exact Or.inr rfl))) (fun _ _ _ _ _ => (ptw_one (pwt_cmp d_ge (pw_callC c_law_stands_before trivial (hr.mono (by omega)) (pwl_cons (pw_name 0 (pv 0)) (pwl_cons (pw_name 2 (pv 2)) (pwl_cons (pw_name 6 (pv 6)) pwl_nil)))) pw_int))) (fun _ _ _ _ _ => (pw_name 6 (pv 6)))))
      (pb_cons (ps_fz 2 (ps_app (pv 3) (pw_name 2 (pv 2))))
      (pb_one (ps_if (pwt_cmp (d_eq hr.units) (pw_b c_len zlen (by decide +kernel) (pwl_cons (pw_name 5 (pv 5)) pwl_nil)) pw_int) (pb_cons (ps_app (pv 1) (pw_ix d_ix (pw_name 0 (pv 0)) (pw_name 2 (pv 2))))
      (pb_one (ps_set (i := 2) nd rfl (by first | exact Or.inl rfl | exact Or.inr rfl) (pw_bin d_add (pw_name 2 (pv 2)) pw_int)))) (pb_cons (ps_fz 2 (ps_app (pv 1) (pw_tup (pwl_cons (pw_callC c_law_stands_before trivial (hr.mono (by omega)) (pwl_cons (pw_name 0 (pv 0)) (pwl_cons (pw_name 2 (pv 2)) (pwl_cons (pw_ix d_ix (pw_name 5 (pv 5)) (pw_un d_neg pw_int)) pwl_nil)))) (pwl_cons (pw_bin d_sub (pw_ix d_ix (pw_name 5 (pv 5)) (pw_un d_neg pw_int)) (pw_name 2 (pv 2))) pwl_nil)))))
      (pb_one (ps_set (i := 2) nd rfl (by first | exact Or.inl rfl | exact Or.inr rfl) (pw_ix d_ix (pw_name 5 (pv 5)) (pw_un d_neg pw_int))))))))) pb_nil)))
      (pb_one (ps_ret (pw_tup (pwl_cons (pw_ty (c_tupleA rfl) ztuple (by decide +kernel) (pwl_cons (pw_name 1 (pv 1)) pwl_nil)) (pwl_cons (pw_ty (c_tupleA rfl) ztuple (by decide +kernel) (pwl_cons (pw_name 3 (pv 3)) pwl_nil)) pwl_nil)))))))) hs
abbrev st__law_fewest : Stmt := topS 24
theorem sc__law_fewest : FnScope ["word", "rows", "end", "start"] ["word"] (defScope st__law_fewest) := ⟨rfl, rfl, rfl, by decide +kernel, rfl, by decide +kernel, by decide +kernel⟩
theorem ok__law_fewest {P : Program} {w : World} {K : PySem.W.Frag} {mg : Str → Option Value} {base : Heap} {f : Addr} {fd : FuncData} {g s_law_stands_before : Sx} (F : Fun K "_law_fewest" "_law_fewest" st__law_fewest f fd) (hm : mg "_law_fewest" = some (.ref f)) (c_law_stands_before : Cal P w K mg base AnyB "_law_stands_before" 1 ["word", "start", "end"] s_law_stands_before) (zrange : mg "range" = none) (zlen : mg "len" = none) (zmin : mg "min" = none)
    (hs : ∀ ds R, ds.length = 1 → g.f ds R → w__law_fewest s_law_stands_before { nx := fun _ => R .non, rt := R } (startW 4 ds)) : Cal P w K mg base AnyB "_law_fewest" 2 ["word"] g :=
  cal_of F hm sc__law_fewest (fun _ _ _ _ _ _ us hl => match us, hl with | [_], _ => rfl) (fun β hβ cdv A outer s H E hr => have nd := sc__law_fewest.nd; (pb_cons (ps_set (i := 1) nd rfl (by first | exact Or.inl rfl | exact Or.inr rfl) (pw_lst (pwl_cons pw_int pwl_nil)))
      (pb_cons (ps_for (t := (.one 2)) (pi_rng2 pw_int (pw_bin d_add (pw_b c_len zlen (by decide +kernel) (pwl_cons (pw_name 0 (pv 0)) pwl_nil)) pw_int) zrange) (pg_name (i := 2) nd rfl (by first | exact Or.inl rfl | exact Or.inr rfl)) (pb_one (ps_app (pv 1) (pw_bin d_add pw_int (pw_b (c_minA rfl hr.units) zmin (by decide +kernel) (pwl_cons (pw_lc (z := (s, H, 0, [], [])) (own := [("start", 3)]) nd (pi_rng1 (pw_name 2 (pv 2)) zrange) (blkOk_by (N := ["word", "rows", "end", "start"]) (sc := defScope st__law_fewest) (by decide +kernel)) (fun _ _ _ _ _ => (pg_name (i := 3) nd rfl (by first | exact Or.inl rfl | exact Or.inr rfl))) (fun _ _ _ _ _ => (ptw_one (PWW.pwt (pww_or (pwt_cmp (d_eq hr.units) (pw_name 3 (pv 3)) (pw_bin d_sub (pw_name 2 (pv 2)) pw_int)) (pww_or1 (pwt_cmp d_ge (pw_callC c_law_stands_before trivial (hr.mono (by omega)) (pwl_cons (pw_name 0 (pv 0)) (pwl_cons (pw_name 3 (pv 3)) (pwl_cons (pw_name 2 (pv 2)) pwl_nil)))) pw_int)))))) (fun _ _ _ _ _ => (pw_ix d_ix (pw_name 1 (pv 1)) (pw_name 3 (pv 3))))) pwl_nil))))))
      (pb_one (ps_ret (pw_ix d_ix (pw_name 1 (pv 1)) (pw_un d_neg pw_int))))))) hs
abbrev st__law_drawn : Stmt := topS 25
theorem sc__law_drawn : FnScope ["box", "word", "found", "start", "turn", "end", "places", "place"] ["box", "word"] (defScope st__law_drawn) := ⟨rfl, rfl, rfl, by decide +kernel, rfl, by decide +kernel, by decide +kernel⟩
theorem ok__law_drawn {P : Program} {w : World} {K : PySem.W.Frag} {mg : Str → Option Value} {base : Heap} {f : Addr} {fd : FuncData} {g s_law_draw : Sx} (F : Fun K "_law_drawn" "_law_drawn" st__law_drawn f fd) (hm : mg "_law_drawn" = some (.ref f)) (c_law_draw : Cal P w K mg base IsBox "_law_draw" 2 ["box", "many"] s_law_draw) (zrange : mg "range" = none) (zlen : mg "len" = none) (zmin : mg "min" = none) (ztuple : mg "tuple" = none)
    (hs : ∀ ds R, ds.length = 2 → g.f ds R → w__law_drawn s_law_draw { nx := fun _ => R .non, rt := R } (startW 8 ds)) : Cal P w K mg base IsBox "_law_drawn" 3 ["box", "word"] g :=
  cal_of F hm sc__law_drawn (fun _ _ _ _ _ _ us hl => match us, hl with | [_, _], _ => rfl) (fun β hβ cdv A outer s H E hr => have nd := sc__law_drawn.nd; (pb_cons (ps_parT (i := 2) (j := 3) nd rfl rfl (by decide) (by first | exact Or.inl rfl | exact Or.inr rfl) (by first | exact Or.inl rfl | exact Or.inr rfl) (pw_lst pwl_nil) pw_int)
      (pb_cons (ps_for (t := (.one 4)) (pi_rng1 (pw_b c_len zlen (by decide +kernel) (pwl_cons (pw_name 1 (pv 1)) pwl_nil)) zrange) (pg_name (i := 4) nd rfl (by first | exact Or.inl rfl | exact Or.inr rfl)) (pb_one (ps_if (pwt_cmp d_lt (pw_name 3 (pv 3)) (pw_b c_len zlen (by decide +kernel) (pwl_cons (pw_name 1 (pv 1)) pwl_nil))) (pb_cons (ps_set (i := 5) nd rfl (by first | exact Or.inl rfl | exact Or.inr rfl) (pw_bin d_add (pw_bin d_add (pw_name 3 (pv 3)) pw_int) (pw_callC c_law_draw hβ (hr.mono (by omega)) (pwl_cons (pw_name 0 (pv 0)) (pwl_cons (pw_b (c_min2 rfl) zmin (by decide +kernel) (pwl_cons pw_int (pwl_cons (pw_bin d_sub (pw_b c_len zlen (by decide +kernel) (pwl_cons (pw_name 1 (pv 1)) pwl_nil)) (pw_name 3 (pv 3))) pwl_nil))) pwl_nil)))))
      (pb_cons (ps_setLc (z := (s, H, 0, [], [])) (i := 6) (own := [("place", 7)]) nd rfl rfl (sw_true rfl rfl rfl (by decide +kernel)) (pi_rng1 (pw_name 3 (pv 3)) zrange) (blkOk_by (N := ["box", "word", "found", "start", "turn", "end", "places", "place"]) (sc := defScope st__law_drawn) (by decide +kernel)) (fun _ _ _ _ _ => (pg_name (i := 7) nd rfl (by first | exact Or.inl rfl | exact Or.inr rfl))) (fun _ _ _ _ _ => (ptw_one (pwt_cmp (d_eq hr.units) (pw_slice (pw_name 1 (pv 1)) (pp_some (pw_name 7 (pv 7))) (pp_some (pw_bin d_sub (pw_bin d_add (pw_name 7 (pv 7)) (pw_name 5 (pv 5))) (pw_name 3 (pv 3))))) (pw_slice (pw_name 1 (pv 1)) (pp_some (pw_name 3 (pv 3))) (pp_some (pw_name 5 (pv 5))))))) (fun _ _ _ _ _ => (pw_name 7 (pv 7))))
      (pb_one (ps_if (PWW.pwt (pww_or (pwt_cmp (d_eq hr.units) (pw_b c_len zlen (by decide +kernel) (pwl_cons (pw_name 6 (pv 6)) pwl_nil)) pw_int) (pww_or1 (pwt_cmp (d_eq hr.units) (pw_callC c_law_draw hβ (hr.mono (by omega)) (pwl_cons (pw_name 0 (pv 0)) (pwl_cons pw_int pwl_nil))) pw_int)))) (pb_cons (ps_app (pv 2) (pw_ix d_ix (pw_name 1 (pv 1)) (pw_name 3 (pv 3))))
      (pb_one (ps_set (i := 3) nd rfl (by first | exact Or.inl rfl | exact Or.inr rfl) (pw_bin d_add (pw_name 3 (pv 3)) pw_int)))) (pb_cons (ps_app (pv 2) (pw_tup (pwl_cons (pw_ix d_ix (pw_name 6 (pv 6)) (pw_callC c_law_draw hβ (hr.mono (by omega)) (pwl_cons (pw_name 0 (pv 0)) (pwl_cons (pw_b c_len zlen (by decide +kernel) (pwl_cons (pw_name 6 (pv 6)) pwl_nil)) pwl_nil)))) (pwl_cons (pw_bin d_sub (pw_name 5 (pv 5)) (pw_name 3 (pv 3))) pwl_nil))))
      (pb_one (ps_fz 5 (ps_set (i := 3) nd rfl (by first | exact Or.inl rfl | exact Or.inr rfl) (pw_name 5 (pv 5)))))))))) pb_nil)))
      (pb_one (ps_ret (pw_ty (c_tupleA rfl) ztuple (by decide +kernel) (pwl_cons (pw_name 2 (pv 2)) pwl_nil))))))) hs
abbrev st__law_miles : Stmt := topS 26
theorem sc__law_miles : FnScope ["word", "value", "place", "k"] ["word", "value"] (defScope st__law_miles) := ⟨rfl, rfl, rfl, by decide +kernel, rfl, by decide +kernel, by decide +kernel⟩
theorem ok__law_miles {P : Program} {w : World} {K : PySem.W.Frag} {mg : Str → Option Value} {base : Heap} {f : Addr} {fd : FuncData} {g s_law_whole s_law_stands_before : Sx} (F : Fun K "_law_miles" "_law_miles" st__law_miles f fd) (hm : mg "_law_miles" = some (.ref f)) (c_law_whole : Cal P w K mg base AnyB "_law_whole" 1 ["value"] s_law_whole) (c_law_stands_before : Cal P w K mg base AnyB "_law_stands_before" 1 ["word", "start", "end"] s_law_stands_before) (zisinstance : mg "isinstance" = none) (ztuple : mg "tuple" = none) (zlen : mg "len" = none) (zall : mg "all" = none) (zrange : mg "range" = none)
    (hs : ∀ ds R, ds.length = 2 → g.f ds R → w__law_miles s_law_whole s_law_stands_before { nx := fun _ => R .non, rt := R } (startW 4 ds)) : Cal P w K mg base AnyB "_law_miles" 2 ["word", "value"] g :=
  cal_of F hm sc__law_miles (fun _ _ _ _ _ _ us hl => match us, hl with | [_, _], _ => rfl) (fun β hβ cdv A outer s H E hr => have nd := sc__law_miles.nd; (pb_cons (ps_if (PWW.pwt (pww_or (pwt_not (pwt_of (pw_isi .tuple (pw_name 1 (pv 1)) zisinstance ztuple (by decide +kernel)))) (pww_or (pwt_cmp (d_eq hr.units) (pw_b c_len zlen (by decide +kernel) (pwl_cons (pw_name 1 (pv 1)) pwl_nil)) pw_int) (pww_or (pwt_not (pwt_of (pw_b (c_all rfl) zall (by decide +kernel) (pwl_cons (pw_lc (z := (s, H, 0, [], [])) (own := [("place", 2)]) nd (pi_val (pw_name 1 (pv 1))) (blkOk_by (N := ["word", "value", "place", "k"]) (sc := defScope st__law_miles) (by decide +kernel)) (fun _ _ _ _ _ => (pg_name (i := 2) nd rfl (by first | exact Or.inl rfl | exact Or.inr rfl))) (fun _ _ _ _ _ => ptw_nil) (fun _ _ _ _ _ => (pw_andV (pw_callC c_law_whole trivial (hr.mono (by omega)) (pwl_cons (pw_name 2 (pv 2)) pwl_nil)) (pw_one (pw_cmp d_lt (pw_name 2 (pv 2)) (pw_b c_len zlen (by decide +kernel) (pwl_cons (pw_name 0 (pv 0)) pwl_nil))))))) pwl_nil)))) (pww_or1 (pwt_cmp (d_ne hr.units) (pw_ix d_ix (pw_name 1 (pv 1)) pw_int) pw_int)))))) (pb_one (ps_ret pw_bl)) pb_nil)
      (pb_one (ps_ret (pw_b (c_all rfl) zall (by decide +kernel) (pwl_cons (pw_lc (z := (s, H, 0, [], [])) (own := [("k", 3)]) nd (pi_rng1 (pw_bin d_sub (pw_b c_len zlen (by decide +kernel) (pwl_cons (pw_name 1 (pv 1)) pwl_nil)) pw_int) zrange) (blkOk_by (N := ["word", "value", "place", "k"]) (sc := defScope st__law_miles) (by decide +kernel)) (fun _ _ _ _ _ => (pg_name (i := 3) nd rfl (by first | exact Or.inl rfl | exact Or.inr rfl))) (fun _ _ _ _ _ => ptw_nil) (fun _ _ _ _ _ => (pw_andV (pw_cmp d_lt (pw_ix d_ix (pw_name 1 (pv 1)) (pw_name 3 (pv 3))) (pw_ix d_ix (pw_name 1 (pv 1)) (pw_bin d_add (pw_name 3 (pv 3)) pw_int))) (pw_one (pw_cmp d_lt (pw_callC c_law_stands_before trivial (hr.mono (by omega)) (pwl_cons (pw_name 0 (pv 0)) (pwl_cons (pw_ix d_ix (pw_name 1 (pv 1)) (pw_name 3 (pv 3))) (pwl_cons (pw_bin d_add (pw_ix d_ix (pw_name 1 (pv 1)) (pw_bin d_add (pw_name 3 (pv 3)) pw_int)) pw_int) pwl_nil)))) pw_int))))) pwl_nil)))))) hs
abbrev st__law_fine : Stmt := topS 27
theorem sc__law_fine : FnScope ["box", "word", "due", "starts", "rows", "at", "value", "text", "fine", "turn", "one", "place"] ["box", "word"] (defScope st__law_fine) := ⟨rfl, rfl, rfl, by decide +kernel, rfl, by decide +kernel, by decide +kernel⟩
theorem ok__law_fine {P : Program} {w : World} {K : PySem.W.Frag} {mg : Str → Option Value} {base : Heap} {f : Addr} {fd : FuncData} {g s_law_greedy s_law_same spack smilestones sunpacked s_law_fewest s_law_drawn s_law_draw s_law_bent s_law_given sis_packing s_law_miles sare_milestones : Sx} (F : Fun K "_law_fine" "_law_fine" st__law_fine f fd) (hm : mg "_law_fine" = some (.ref f)) (c_law_greedy : Cal P w K mg base AnyB "_law_greedy" 2 ["word"] s_law_greedy) (c_law_same : Cal P w K mg base AnyB "_law_same" 7 ["a", "b"] s_law_same) (cpack : Cal P w K mg base AnyB "pack" 3 ["word"] spack) (cmilestones : Cal P w K mg base AnyB "milestones" 3 ["word"] smilestones) (cunpacked : Cal P w K mg base AnyB "unpacked" 2 ["items"] sunpacked) (c_law_fewest : Cal P w K mg base AnyB "_law_fewest" 2 ["word"] s_law_fewest) (c_law_drawn : Cal P w K mg base IsBox "_law_drawn" 3 ["box", "word"] s_law_drawn) (c_law_draw : Cal P w K mg base IsBox "_law_draw" 2 ["box", "many"] s_law_draw) (c_law_bent : Cal P w K mg base IsBox "_law_bent" 9 ["box", "value"] s_law_bent) (c_law_given : Cal P w K mg base AnyB "_law_given" 2 ["word", "value"] s_law_given) (cis_packing : Cal P w K mg base AnyB "is_packing" 3 ["word", "value"] sis_packing) (c_law_miles : Cal P w K mg base AnyB "_law_miles" 2 ["word", "value"] s_law_miles) (care_milestones : Cal P w K mg base AnyB "are_milestones" 2 ["word", "value"] sare_milestones) (zlen : mg "len" = none) (ztuple : mg "tuple" = none) (zrange : mg "range" = none)
    (hs : ∀ ds R, ds.length = 2 → g.f ds R → w__law_fine s_law_greedy s_law_same spack smilestones sunpacked s_law_fewest s_law_drawn s_law_draw s_law_bent s_law_given sis_packing s_law_miles sare_milestones { nx := fun _ => R .non, rt := R } (startW 12 ds)) : Cal P w K mg base IsBox "_law_fine" 10 ["box", "word"] g :=
  cal_of F hm sc__law_fine (fun _ _ _ _ _ _ us hl => match us, hl with | [_, _], _ => rfl) (fun β hβ cdv A outer s H E hr => have nd := sc__law_fine.nd; (pb_cons (ps_unp (js := [2, 3]) (pg_tup rfl (pgs_cons (pg_name (i := 2) nd rfl (by first | exact Or.inl rfl | exact Or.inr rfl)) (pgs_cons (pg_name (i := 3) nd rfl (by first | exact Or.inl rfl | exact Or.inr rfl)) pgs_nil))) (pw_callC c_law_greedy trivial (hr.mono (by omega)) (pwl_cons (pw_name 1 (pv 1)) pwl_nil)))
      (pb_cons (ps_if (PWW.pwt (pww_or (pwt_not (pwt_of (pw_callC c_law_same trivial (hr.mono (by omega)) (pwl_cons (pw_callC cpack trivial (hr.mono (by omega)) (pwl_cons (pw_name 1 (pv 1)) pwl_nil)) (pwl_cons (pw_name 2 (pv 2)) pwl_nil))))) (pww_or (pwt_not (pwt_of (pw_callC c_law_same trivial (hr.mono (by omega)) (pwl_cons (pw_callC cmilestones trivial (hr.mono (by omega)) (pwl_cons (pw_name 1 (pv 1)) pwl_nil)) (pwl_cons (pw_name 3 (pv 3)) pwl_nil))))) (pww_or (pwt_not (pwt_of (pw_callC c_law_same trivial (hr.mono (by omega)) (pwl_cons (pw_callC cunpacked trivial (hr.mono (by omega)) (pwl_cons (pw_name 2 (pv 2)) pwl_nil)) (pwl_cons (pw_name 1 (pv 1)) pwl_nil))))) (pww_or1 (pwt_cmp (d_ne hr.units) (pw_b c_len zlen (by decide +kernel) (pwl_cons (pw_name 2 (pv 2)) pwl_nil)) (pw_callC c_law_fewest trivial (hr.mono (by omega)) (pwl_cons (pw_name 1 (pv 1)) pwl_nil)))))))) (pb_one (ps_ret pw_bl)) pb_nil)
      (pb_cons (ps_set (i := 4) nd rfl (by first | exact Or.inl rfl | exact Or.inr rfl) (pw_bin d_add (pw_lst (pwl_cons (pw_name 2 (pv 2)) (pwl_cons (pw_rev (pw_name 2 (pv 2))) (pwl_cons (pw_slice (pw_name 2 (pv 2)) (pp_some pw_int) pp_none) (pwl_cons (pw_bin d_add (pw_name 2 (pv 2)) (pw_slice (pw_name 2 (pv 2)) (pp_some (pw_un d_neg pw_int)) pp_none)) (pwl_cons (pw_slice (pw_name 2 (pv 2)) pp_none (pp_some (pw_un d_neg pw_int))) (pwl_cons (pw_ty (c_tupleA rfl) ztuple (by decide +kernel) (pwl_cons (pw_name 1 (pv 1)) pwl_nil)) (pwl_cons (pw_tup (pwl_cons (pw_name 1 (pv 1)) pwl_nil)) (pwl_cons (pw_tup pwl_nil) (pwl_cons pw_non (pwl_cons pw_int (pwl_cons (pw_name 1 (pv 1)) (pwl_cons (pw_tup (pwl_cons (pw_tup (pwl_cons pw_int (pwl_cons pw_int pwl_nil))) pwl_nil)) (pwl_cons (pw_tup (pwl_cons (pw_str (l := []) rfl (okS_dec (by decide))) pwl_nil)) (pwl_cons (pw_tup (pwl_cons (pw_str (l := [65]) rfl (okS_dec (by decide))) pwl_nil)) pwl_nil))))))))))))))) (pw_lc (z := (s, H, 0, [], [])) (own := [("turn", 9)]) nd (pi_rng1 pw_int zrange) (blkOk_by (N := ["box", "word", "due", "starts", "rows", "at", "value", "text", "fine", "turn", "one", "place"]) (sc := defScope st__law_fine) (by decide +kernel)) (fun _ _ _ _ _ => (pg_name (i := 9) nd rfl (by first | exact Or.inl rfl | exact Or.inr rfl))) (fun _ _ _ _ _ => ptw_nil) (fun _ _ _ _ _ => (pw_callC c_law_drawn hβ (hr.mono (by omega)) (pwl_cons (pw_name 0 (pv 0)) (pwl_cons (pw_name 1 (pv 1)) pwl_nil)))))))
      (pb_cons (ps_if (pwt_cmp d_gt (pw_b c_len zlen (by decide +kernel) (pwl_cons (pw_name 2 (pv 2)) pwl_nil)) pw_int) (pb_cons (ps_set (i := 5) nd rfl (by first | exact Or.inl rfl | exact Or.inr rfl) (pw_callC c_law_draw hβ (hr.mono (by omega)) (pwl_cons (pw_name 0 (pv 0)) (pwl_cons (pw_b c_len zlen (by decide +kernel) (pwl_cons (pw_name 2 (pv 2)) pwl_nil)) pwl_nil))))
      (pb_one (ps_set (i := 4) nd rfl (by first | exact Or.inl rfl | exact Or.inr rfl) (pw_bin d_add (pw_name 4 (pv 4)) (pw_lc (z := (s, H, 0, [], [])) (own := [("one", 10)]) nd (pi_val (pw_tup (pwl_cons (pw_str (l := [97]) rfl (okS_dec (by decide))) (pwl_cons (pw_tup (pwl_cons pw_int (pwl_cons pw_int pwl_nil))) (pwl_cons (pw_tup (pwl_cons pw_int (pwl_cons pw_int pwl_nil))) (pwl_cons (pw_tup (pwl_cons (pw_un d_neg pw_int) (pwl_cons pw_int pwl_nil))) (pwl_cons (pw_tup (pwl_cons pw_int (pwl_cons (pw_bin d_add (pw_b c_len zlen (by decide +kernel) (pwl_cons (pw_name 1 (pv 1)) pwl_nil)) pw_int) pwl_nil))) (pwl_cons (pw_tup (pwl_cons (pw_b c_len zlen (by decide +kernel) (pwl_cons (pw_name 1 (pv 1)) pwl_nil)) (pwl_cons pw_int pwl_nil))) (pwl_cons (pw_tup (pwl_cons pw_bl (pwl_cons pw_int pwl_nil))) (pwl_cons (pw_tup (pwl_cons pw_int (pwl_cons pw_int (pwl_cons pw_int pwl_nil)))) pwl_nil)))))))))) (blkOk_by (N := ["box", "word", "due", "starts", "rows", "at", "value", "text", "fine", "turn", "one", "place"]) (sc := defScope st__law_fine) (by decide +kernel)) (fun _ _ _ _ _ => (pg_name (i := 10) nd rfl (by first | exact Or.inl rfl | exact Or.inr rfl))) (fun _ _ _ _ _ => ptw_nil) (fun _ _ _ _ _ => (pw_bin d_add (pw_bin d_add (pw_slice (pw_name 2 (pv 2)) pp_none (pp_some (pw_name 5 (pv 5)))) (pw_tup (pwl_cons (pw_name 10 (pv 10)) pwl_nil))) (pw_slice (pw_name 2 (pv 2)) (pp_some (pw_bin d_add (pw_name 5 (pv 5)) pw_int)) pp_none)))))))) pb_nil)
      (pb_cons (ps_for (t := (.one 6)) (pi_val (pw_bin d_add (pw_name 4 (pv 4)) (pw_lc (z := (s, H, 0, [], [])) (own := [("turn", 9)]) nd (pi_rng1 pw_int zrange) (blkOk_by (N := ["box", "word", "due", "starts", "rows", "at", "value", "text", "fine", "turn", "one", "place"]) (sc := defScope st__law_fine) (by decide +kernel)) (fun _ _ _ _ _ => (pg_name (i := 9) nd rfl (by first | exact Or.inl rfl | exact Or.inr rfl))) (fun _ _ _ _ _ => ptw_nil) (fun _ _ _ _ _ => (pw_callC c_law_bent hβ (hr.mono (by omega)) (pwl_cons (pw_name 0 (pv 0)) (pwl_cons (pw_ix d_ix (pw_name 4 (pv 4)) (pw_callC c_law_draw hβ (hr.mono (by omega)) (pwl_cons (pw_name 0 (pv 0)) (pwl_cons (pw_b c_len zlen (by decide +kernel) (pwl_cons (pw_name 4 (pv 4)) pwl_nil)) pwl_nil)))) pwl_nil))))))) (pg_name (i := 6) nd rfl (by first | exact Or.inl rfl | exact Or.inr rfl)) (pb_cons (ps_set (i := 7) nd rfl (by first | exact Or.inl rfl | exact Or.inr rfl) (pw_callC c_law_given trivial (hr.mono (by omega)) (pwl_cons (pw_name 1 (pv 1)) (pwl_cons (pw_name 6 (pv 6)) pwl_nil))))
      (pb_cons (ps_set (i := 8) nd rfl (by first | exact Or.inl rfl | exact Or.inr rfl) (pw_andV (pw_cmp d_isNot (pw_name 7 (pv 7)) pw_non) (pw_one (pw_cmp (d_eq hr.units) (pw_name 7 (pv 7)) (pw_name 1 (pv 1))))))
      (pb_one (ps_if (PWW.pwt (pww_or (pwt_not (pwt_of (pw_callC c_law_same trivial (hr.mono (by omega)) (pwl_cons (pw_callC cis_packing trivial (hr.mono (by omega)) (pwl_cons (pw_name 1 (pv 1)) (pwl_cons (pw_name 6 (pv 6)) pwl_nil))) (pwl_cons (pw_name 8 (pv 8)) pwl_nil))))) (pww_or1 (PWW.pwt (pww_and (pwt_of (pw_name 8 (pv 8))) (pww_and1 (PWW.pwt (pww_or (pwt_cmp d_lt (pw_b c_len zlen (by decide +kernel) (pwl_cons (pw_name 6 (pv 6)) pwl_nil)) (pw_b c_len zlen (by decide +kernel) (pwl_cons (pw_name 2 (pv 2)) pwl_nil))) (pww_or1 (pwt_not (pwt_of (pw_callC c_law_same trivial (hr.mono (by omega)) (pwl_cons (pw_callC cunpacked trivial (hr.mono (by omega)) (pwl_cons (pw_name 6 (pv 6)) pwl_nil)) (pwl_cons (pw_name 1 (pv 1)) pwl_nil)))))))))))))) (pb_one (ps_ret pw_bl)) pb_nil)))))
      (pb_cons (ps_if (pwt_cmp (d_eq hr.units) (pw_name 1 (pv 1)) (pw_str (l := []) rfl (okS_dec (by decide)))) (pb_one (ps_ret pw_bl)) pb_nil)
      (pb_cons (ps_set (i := 4) nd rfl (by first | exact Or.inl rfl | exact Or.inr rfl) (pw_lst (pwl_cons (pw_name 3 (pv 3)) (pwl_cons (pw_slice (pw_name 3 (pv 3)) (pp_some pw_int) pp_none) (pwl_cons (pw_rev (pw_name 3 (pv 3))) (pwl_cons (pw_bin d_add (pw_name 3 (pv 3)) (pw_tup (pwl_cons (pw_bin d_sub (pw_b c_len zlen (by decide +kernel) (pwl_cons (pw_name 1 (pv 1)) pwl_nil)) pw_int) pwl_nil))) (pwl_cons (pw_bin d_add (pw_name 3 (pv 3)) (pw_tup (pwl_cons (pw_b c_len zlen (by decide +kernel) (pwl_cons (pw_name 1 (pv 1)) pwl_nil)) pwl_nil))) (pwl_cons (pw_tup (pwl_cons pw_int pwl_nil)) (pwl_cons (pw_tup (pwl_cons pw_int pwl_nil)) (pwl_cons (pw_tup pwl_nil) (pwl_cons (pw_tupRng (pw_b c_len zlen (by decide +kernel) (pwl_cons (pw_name 1 (pv 1)) pwl_nil)) ztuple zrange) pwl_nil)))))))))))
      (pb_cons (ps_set (i := 4) nd rfl (by first | exact Or.inl rfl | exact Or.inr rfl) (pw_bin d_add (pw_name 4 (pv 4)) (pw_lst (pwl_cons pw_non (pwl_cons pw_int (pwl_cons (pw_str (l := [109, 105, 108, 101, 115]) rfl (okS_dec (by decide))) (pwl_cons (pw_tup (pwl_cons pw_int (pwl_cons pw_bl pwl_nil))) (pwl_cons (pw_bin d_add (pw_tup (pwl_cons pw_bl pwl_nil)) (pw_slice (pw_name 3 (pv 3)) (pp_some pw_int) pp_none)) (pwl_cons (pw_bin d_add (pw_slice (pw_name 3 (pv 3)) pp_none (pp_some pw_int)) (pw_slice (pw_name 3 (pv 3)) (pp_some pw_int) pp_none)) pwl_nil)))))))))
      (pb_cons (ps_set (i := 4) nd rfl (by first | exact Or.inl rfl | exact Or.inr rfl) (pw_bin d_add (pw_name 4 (pv 4)) (pw_lc (z := (s, H, 0, [], [])) (own := [("turn", 9)]) nd (pi_rng1 pw_int zrange) (blkOk_by (N := ["box", "word", "due", "starts", "rows", "at", "value", "text", "fine", "turn", "one", "place"]) (sc := defScope st__law_fine) (by decide +kernel)) (fun _ _ _ _ _ => (pg_name (i := 9) nd rfl (by first | exact Or.inl rfl | exact Or.inr rfl))) (fun _ _ _ _ _ => ptw_nil) (fun _ _ _ _ _ => (pw_bin d_add (pw_tup (pwl_cons pw_int pwl_nil)) (pw_ty (c_tupleA rfl) ztuple (by decide +kernel) (pwl_cons (pw_lc (z := (s, H, 0, [], [])) (own := [("place", 11)]) nd (pi_rng2 pw_int (pw_b c_len zlen (by decide +kernel) (pwl_cons (pw_name 1 (pv 1)) pwl_nil)) zrange) (by refine blkOk_by (N := ["box", "word", "due", "starts", "rows", "at", "value", "text", "fine", "turn", "one", "place"]) ?_; show blkC _ (relabel _ { scope := defScope st__law_fine, locals := 0, globals := 0, cells := [] }) _ _ = true; decide +kernel) (fun _ _ _ _ _ => (pg_name (i := 11) nd rfl (by first | exact Or.inl rfl | exact Or.inr rfl))) (fun _ _ _ _ _ => (ptw_one (pwt_cmp (d_eq hr.units) (pw_callC c_law_draw hβ (hr.mono (by omega)) (pwl_cons (pw_name 0 (pv 0)) (pwl_cons pw_int pwl_nil))) pw_int))) (fun _ _ _ _ _ => (pw_name 11 (pv 11)))) pwl_nil)))))))
      (pb_cons (ps_for (t := (.one 6)) (pi_val (pw_bin d_add (pw_name 4 (pv 4)) (pw_lc (z := (s, H, 0, [], [])) (own := [("turn", 9)]) nd (pi_rng1 pw_int zrange) (blkOk_by (N := ["box", "word", "due", "starts", "rows", "at", "value", "text", "fine", "turn", "one", "place"]) (sc := defScope st__law_fine) (by decide +kernel)) (fun _ _ _ _ _ => (pg_name (i := 9) nd rfl (by first | exact Or.inl rfl | exact Or.inr rfl))) (fun _ _ _ _ _ => ptw_nil) (fun _ _ _ _ _ => (pw_callC c_law_bent hβ (hr.mono (by omega)) (pwl_cons (pw_name 0 (pv 0)) (pwl_cons (pw_name 3 (pv 3)) pwl_nil))))))) (pg_name (i := 6) nd rfl (by first | exact Or.inl rfl | exact Or.inr rfl)) (pb_cons (ps_set (i := 8) nd rfl (by first | exact Or.inl rfl | exact Or.inr rfl) (pw_callC c_law_miles trivial (hr.mono (by omega)) (pwl_cons (pw_name 1 (pv 1)) (pwl_cons (pw_name 6 (pv 6)) pwl_nil))))
      (pb_one (ps_if (PWW.pwt (pww_or (pwt_not (pwt_of (pw_callC c_law_same trivial (hr.mono (by omega)) (pwl_cons (pw_callC care_milestones trivial (hr.mono (by omega)) (pwl_cons (pw_name 1 (pv 1)) (pwl_cons (pw_name 6 (pv 6)) pwl_nil))) (pwl_cons (pw_name 8 (pv 8)) pwl_nil))))) (pww_or1 (PWW.pwt (pww_and (pwt_of (pw_name 8 (pv 8))) (pww_and1 (pwt_cmp d_gt (pw_b c_len zlen (by decide +kernel) (pwl_cons (pw_name 6 (pv 6)) pwl_nil)) (pw_b c_len zlen (by decide +kernel) (pwl_cons (pw_name 2 (pv 2)) pwl_nil))))))))) (pb_one (ps_ret pw_bl)) pb_nil))))
      (pb_one (ps_ret pw_bl))))))))))))) hs
abbrev st__law_box : Stmt := topS 13
abbrev st__law_load : Stmt := topS 14
abbrev st__law_draw : Stmt := topS 15
theorem sc__law_box : FnScope ["script"] ["script"] (defScope st__law_box) := ⟨rfl, rfl, rfl, by decide +kernel, rfl, by decide +kernel, by decide +kernel⟩
theorem sc__law_load : FnScope ["box", "cells", "cell", "size", "first", "second"] ["box"] (defScope st__law_load) := ⟨rfl, rfl, rfl, by decide +kernel, rfl, by decide +kernel, by decide +kernel⟩
theorem sc__law_draw : FnScope ["box", "many", "digit"] ["box", "many"] (defScope st__law_draw) := ⟨rfl, rfl, rfl, by decide +kernel, rfl, by decide +kernel, by decide +kernel⟩
section
variable {P : Program} {w : World} {K : PySem.W.Frag} {mg : Str → Option Value} {base : Heap}
theorem raw_box {f : Addr} {fd : FuncData} (F : Fun K "_law_box" "_law_box" st__law_box f fd) (zlist : mg "list" = none) (zlen : mg "len" = none) : FnOk P w K mg base CX0 1 f fd ["script"] (spBox K) := by
  refine F.ok sc__law_box (fun vs H Q E h => by obtain ⟨a, ns, rfl, _⟩ := h; rfl) (fun cdv A outer s H vs Q E hr h => ?_)
  obtain ⟨a, ns, rfl, hS, q⟩ := h
  refine ⟨_, pss_one (L2.ps_ret (L2.pe_lst (pa_cons (pe_callTy call_list_of (by rfl) zlist (by decide +kernel) (pa_cons (L2.pe_slice sl_list (pv 0) po_none (po_some pe_int)) pa_nil)) (pa_cons pe_int (pa_cons (pe_op op_add pe_int (pe_callB call_len_seq (by rfl) zlen PySem.boot_len (pa_cons (pv 0) pa_nil))) pa_nil))))), ?_⟩
  refine ⟨.ref a, rfl, 63, rfl, a, _, rfl, hS, fun p hp => ?_⟩
  have s1 : Same H (upd H p (.lst (cutV (ns.map V.int) none (some 63)))) := fun b o e => by rw [upd_ne (ne_of_none e hp)]; exact e
  refine ⟨p, _, rfl, .inl (SqL.of upd_same), fun c hc => ?_⟩
  have s2 : Same H (upd (upd H p (.lst (cutV (ns.map V.int) none (some 63)))) c (.lst (cutV (ns.map V.int) none (some 63)))) := fun b o e => by rw [upd_ne (ne_of_none (s1 b o e) hc)]; exact s1 b o e
  refine ⟨.ref a, rfl, a, _, rfl, .inl (s2.seq hS), 4711, _, rfl, rfl, by show 3 ≤ sizeLine; decide, fun b hb => ?_⟩
  have nbc : b ≠ c := fun z => by rw [z, upd_same] at hb; cases hb
  have cut : ∃ ms : List Int, cutV (ns.map V.int) none (some 63) = ms.map V.int := by
    unfold cutV
    exact ⟨_, by rw [← List.map_drop, ← List.map_take]⟩
  obtain ⟨ms, em⟩ := cut
  rw [em] at hb hc s2 ⊢
  refine q _ b c (fun z o e => by rw [upd_ne (ne_of_none (s2 z o e) hb)]; exact s2 z o e) (s2.free hb) ((em ▸ s1).free hc) ⟨ms, 0, 4711 + ((ns.map V.int).length : Nat), ?_, ?_, by decide, by omega, nbc⟩
  · rw [upd_same]
  · rw [upd_ne (Ne.symm nbc), upd_same]
theorem raw_load {f : Addr} {fd : FuncData} (F : Fun K "_law_load" "_law_load" st__law_load f fd) (zlen : mg "len" = none) (zint : mg "int" = none) : FnOk P w K mg base CX0 1 f fd ["box"] spLoad := by
  refine F.ok sc__law_load (fun vs H Q E h => by obtain ⟨b, c, rfl, _⟩ := h; rfl) (fun cdv A outer s H vs Q E hr h => ?_)
  obtain ⟨b, c, rfl, ⟨ns, x, y, hb, hc, hx, hy, nbc⟩, q⟩ := h
  have nd := sc__law_load.nd
  refine ⟨_, pss_cons (L2.ps_set (i := 1) nd rfl (.inl rfl) (L2.pe_ix ix_list (pv 0) pe_int (fun _ _ => rfl)))
    (Evl.pss_cut (L2.ps_if (pt_cmpR op_gt (pe_callB call_len_seq (by rfl) zlen PySem.boot_len (pa_cons (pv 1) pa_nil)) pe_int (nomark _))
      (pss_cons (L2.ps_set (i := 2) nd rfl (.inl rfl) (pe_callTy call_int1 (by rfl) zint (by decide +kernel) (pa_cons (pe_bm PySem.F.plainAttrs_list PySem.F.slot_list_pop PySem.F.type_list_pop mt_popAt (pv 1) (pa_cons pe_int pa_nil)) pa_nil)))
      (Evl.pss_cut (L2.ps_set (i := 3) nd rfl (.inl rfl) (pe_ifExp (pt_cmpR op_ge (pv 2) pe_int (nomark _)) (pe_op op_mul pe_int (pv 2)) (pe_op op_sub (pe_op op_mul (pe_un un_neg pe_int) (pv 2)) pe_int)))
      (pss_cons (L2.ps_if (pt_cmpR op_ge (pv 3) pe_int (nomark _)) (pss_one (L2.ps_ret (pv 3))) pss_nil)
      (pss_one (L2.ps_asg (pe_op op_mod (pe_callTy call_int1 (by rfl) zint (by decide +kernel) (pa_cons (pe_op op_add (pe_op op_add (pe_op op_mul (L2.pe_ix ix_list (pv 0) pe_int (fun _ _ => rfl)) pe_int) (pe_op op_mul (pv 3) pe_int)) pe_int) pa_nil)) pe_int) (pg_sub (pv 0) pe_int set_list)))))) pss_nil)
    (pss_cons (L2.ps_set (i := 4) nd rfl (.inl rfl) (pe_op op_mod (pe_callTy call_int1 (by rfl) zint (by decide +kernel) (pa_cons (pe_op op_add (pe_op op_mul (L2.pe_ix ix_list (pv 0) pe_int (fun _ _ => rfl)) pe_int) pe_int) pa_nil)) pe_int))
    (pss_cons (L2.ps_set (i := 5) nd rfl (.inl rfl) (pe_op op_mod (pe_callTy call_int1 (by rfl) zint (by decide +kernel) (pa_cons (pe_op op_add (pe_op op_mul (pv 4) pe_int) pe_int) pa_nil)) pe_int))
    (pss_cons (L2.ps_asg (pe_op op_mod (pe_callTy call_int1 (by rfl) zint (by decide +kernel) (pa_cons (pe_op op_add (pe_op op_mul (pv 5) pe_int) pe_int) pa_nil)) pe_int) (pg_sub (pv 0) pe_int set_list))
    (pss_one (L2.ps_ret (pe_op op_add (pe_op op_add (pe_op op_mul (pv 4) pe_int) (pe_op op_mul (pv 5) pe_int)) (L2.pe_ix ix_list (pv 0) pe_int (fun _ _ => rfl))))))))), ?_⟩
  -- cells = box[0]
  refine ⟨.ref b, rfl, b, _, 0, .ref c, rfl, rfl, .of hb, rfl, ?_⟩
  -- the if
  refine ⟨fun σ' H' => ∃ y2 y3, σ' = [some (.ref b), some (.ref c), y2, y3, none, none] ∧ keepB b c H H' ∧ ∃ (ms : List Int) (y' : Int), H' b = some (.lst [.ref c, .int x, .int y']) ∧ H' c = some (.lst (ms.map V.int)) ∧ 0 ≤ y', ?_, fun σ' H' hM => ?_⟩
  · refine ⟨.ref c, rfl, c, _, rfl, .inl (.of hc), _, _, rfl, rfl, _, rfl, ite2 (fun h => ?_) (fun h => ?_)⟩
    · -- cell = int(cells.pop(0))
      have hlen : 0 < ns.length := by
        have := of_decide_eq_true h
        rw [List.length_map] at this
        omega
      obtain ⟨n, ms, rfl⟩ : ∃ n ms, ns = n :: ms := by
        cases ns with
        | nil => simp at hlen
        | cons n ms => exact ⟨n, ms, rfl⟩
      refine ⟨.ref c, rfl, .inl ⟨rfl, _, .of hc⟩, c, _, 0, 0, .int n, rfl, rfl, hc, by decide, by decide, ?_, rfl, .inl ⟨n, rfl, ?_⟩⟩
      · rw [List.length_map]
        unfold seqIndex?
        simp
      have k1 : keepB b c H (upd H c (.lst (ms.map V.int))) := fun a o n1 n2 e => by rw [upd_ne n2]; exact e
      have e1 : (upd H c (.lst (ms.map V.int))) b = some (.lst [.ref c, .int x, .int y]) := by rw [upd_ne nbc]; exact hb
      refine ⟨fun σ' H' => ∃ z : Int, 0 ≤ z ∧ σ' = [some (.ref b), some (.ref c), some (.int n), some (.int z), none, none] ∧ H' = upd H c (.lst (ms.map V.int)), ?_, fun σ' H' hM => ?_⟩
      · refine ⟨.int n, rfl, _, _, rfl, rfl, _, rfl, ite2 (fun hn => ?_) (fun hn => ?_)⟩
        · have hn := of_decide_eq_true hn
          exact ⟨.int n, rfl, _, _, rfl, rfl, .inl ⟨by decide, by decide⟩, 2 * n, by omega, rfl, rfl⟩
        · have hn : ¬ (0 ≤ n) := fun z => hn (decide_eq_true z)
          exact ⟨2, rfl, .int n, rfl, _, _, rfl, rfl, .inl ⟨by decide, by decide⟩, _, _, rfl, rfl, -2 * n - 1, by omega, rfl, rfl⟩
      · obtain ⟨z, hz, rfl, rfl⟩ := hM
        refine ⟨.int z, rfl, _, _, rfl, rfl, _, rfl, ite2 (fun hn => ?_) (fun hn => ?_)⟩
        · exact ⟨.int z, rfl, q _ z k1 ⟨ms, x, y, e1, upd_same, hx, hy, nbc⟩ hz⟩
        · refine ⟨.ref b, rfl, b, _, 2, .int y, rfl, rfl, .of e1, rfl, y, _, rfl, rfl, .inr ⟨by decide, by decide⟩, .int z, rfl, z, _, rfl, rfl, .inr ⟨by decide, by decide⟩, _, _, rfl, rfl, _, _, rfl, rfl, .inl ⟨_, rfl, _, _, rfl, rfl, (show (0 : Int) < 2147483647 by decide), ?_⟩⟩
          refine ⟨.ref b, rfl, b, _, 2, 2, rfl, rfl, e1, rfl, ?_⟩
          refine ⟨_, _, rfl, fun a o n1 n2 e => by rw [upd_ne n1]; exact k1 a o n1 n2 e, ms, _, upd_same, by rw [upd_ne (Ne.symm nbc)]; exact upd_same, Int.emod_nonneg _ (by decide)⟩
    · exact ⟨none, none, rfl, fun a o _ _ e => e, ns, y, hb, hc, hy⟩
  · obtain ⟨y2, y3, rfl, k1, ms, y', e1, e2, hy'⟩ := hM
    refine ⟨.ref b, rfl, b, _, 2, .int y', rfl, rfl, .of e1, rfl, y', _, rfl, rfl, .inr ⟨by decide, by decide⟩, _, _, rfl, rfl, .inl ⟨_, rfl, _, _, rfl, rfl, (show (0 : Int) < 2147483629 by decide), ?_⟩⟩
    have f0 := Int.emod_nonneg (y' * 48271 + 17) (show (2147483629 : Int) ≠ 0 by decide)
    refine ⟨_, rfl, _, _, rfl, rfl, .inr ⟨by decide, by decide⟩, _, _, rfl, rfl, .inl ⟨_, rfl, _, _, rfl, rfl, (show (0 : Int) < 2147483587 by decide), ?_⟩⟩
    have g0 := Int.emod_nonneg ((y' * 48271 + 17) % 2147483629 * 69621 + 5) (show (2147483587 : Int) ≠ 0 by decide)
    refine ⟨_, rfl, _, _, rfl, rfl, .inr ⟨by decide, by decide⟩, _, _, rfl, rfl, .inl ⟨_, rfl, _, _, rfl, rfl, (show (0 : Int) < 2147483563 by decide), ?_⟩⟩
    have h0 := Int.emod_nonneg (((y' * 48271 + 17) % 2147483629 * 69621 + 5) % 2147483587 * 40692 + 3) (show (2147483563 : Int) ≠ 0 by decide)
    refine ⟨.ref b, rfl, b, _, 2, 2, rfl, rfl, e1, rfl, ?_⟩
    refine ⟨_, rfl, _, _, rfl, rfl, .inr ⟨by decide, by decide⟩, _, rfl, _, _, rfl, rfl, .inr ⟨by decide, by decide⟩, _, _, rfl, rfl, .ref b, rfl, b, _, 2, _, rfl, rfl, .of upd_same, rfl, _, _, rfl, rfl, ?_⟩
    refine q _ _ (fun a o n1 n2 e => by rw [upd_ne n1]; exact k1 a o n1 n2 e) ⟨ms, x, _, upd_same, by rw [upd_ne (Ne.symm nbc)]; exact e2, hx, h0, nbc⟩ ?_
    exact Int.add_nonneg (Int.add_nonneg (Int.mul_nonneg f0 (by decide)) (Int.mul_nonneg g0 (by decide))) h0
theorem raw_draw {f fl : Addr} {fd fdl : FuncData} (F : Fun K "_law_draw" "_law_draw" st__law_draw f fd) (FL : Fun K "_law_load" "_law_load" st__law_load fl fdl) (hl : mg "_law_load" = some (.ref fl)) (zlen : mg "len" = none) (zint : mg "int" = none) : FnOk P w K mg base CX0 2 f fd ["box", "many"] spDraw := by
  have G : FnOk P w K mg base CX0 1 fl fdl ["box"] spLoad := raw_load FL zlen zint
  have bL : Binds K fdl ["box"] [] := FL.binds fun _ _ _ _ _ _ us hl => match us, hl with | [_], _ => rfl
  refine F.ok sc__law_draw (fun vs H Q E h => by obtain ⟨b, c, n, rfl, _⟩ := h; rfl) (fun cdv A outer s H vs Q E hr h => ?_)
  obtain ⟨b, c, n, rfl, n0, n1, inv, q⟩ := h
  have inv0 := inv
  obtain ⟨ns, x, y, hb, hc, hx, hy, nbc⟩ := inv
  have nd := sc__law_draw.nd
  refine ⟨_, Evl.pss_cut (L2.ps_if (pt_cmpR op_lt (L2.pe_ix ix_list (pv 0) pe_int (fun _ _ => rfl)) (pv 1) (nomark _)) (pss_one (L2.ps_asg (L2.pe_call G hr (by rfl) hl FL.kp bL .nil pass0 (pa_cons (pv 0) pa_nil)) (pg_sub (pv 0) pe_int set_list))) pss_nil)
    (pss_cons (L2.ps_set (i := 2) nd rfl (.inl rfl) (pe_op op_mod (pe_callTy call_int1 (by rfl) zint (by decide +kernel) (pa_cons (L2.pe_ix ix_list (pv 0) pe_int (fun _ _ => rfl)) pa_nil)) (pv 1)))
    (pss_cons (L2.ps_asg (pe_op op_fdiv (L2.pe_ix ix_list (pv 0) pe_int (fun _ _ => rfl)) (pv 1)) (pg_sub (pv 0) pe_int set_list))
    (pss_one (L2.ps_ret (pv 2))))), ?_⟩
  refine ⟨fun σ' H' => σ' = [some (.ref b), some (.int n), none] ∧ keepB b c H H' ∧ (boxB b c).inv H', ?_, fun σ' H' hM => ?_⟩
  · refine ⟨.ref b, rfl, b, _, 1, .int x, rfl, rfl, .of hb, rfl, .int n, rfl, x, n, rfl, rfl, _, rfl, ite2 (fun h => ?_) (fun h => ?_)⟩
    · refine ⟨.ref b, rfl, b, c, rfl, inv0, fun H1 i k1 inv1 hi => ?_⟩
      obtain ⟨ms, x1, y1, e1, e2, _, hy1, _⟩ := inv1
      refine ⟨.ref b, rfl, b, _, 1, 1, rfl, rfl, e1, rfl, rfl, fun a o m1 m2 e => by rw [upd_ne m1]; exact k1 a o m1 m2 e, ms, i, y1, upd_same, by rw [upd_ne (Ne.symm nbc)]; exact e2, hi, hy1, nbc⟩
    · exact ⟨rfl, fun a o _ _ e => e, inv0⟩
  · obtain ⟨rfl, k1, ms, x1, y1, e1, e2, hx1, hy1, _⟩ := hM
    refine ⟨.ref b, rfl, b, _, 1, .int x1, rfl, rfl, .of e1, rfl, .inl ⟨x1, rfl, .int n, rfl, x1, n, rfl, rfl, n0, ?_⟩⟩
    refine ⟨.ref b, rfl, b, _, 1, .int x1, rfl, rfl, .of e1, rfl, .int n, rfl, x1, n, rfl, rfl, ⟨n0, n1⟩, .ref b, rfl, b, _, 1, 1, rfl, rfl, e1, rfl, ?_⟩
    refine ⟨_, rfl, q _ _ (fun a o m1 m2 e => by rw [upd_ne m1]; exact k1 a o m1 m2 e) ⟨ms, x1 / n, y1, upd_same, by rw [upd_ne (Ne.symm nbc)]; exact e2, Int.ediv_nonneg hx1 (by omega), hy1, nbc⟩ (Int.emod_nonneg _ (by omega)) (Int.emod_lt_of_pos _ n0)⟩
end

abbrev st_law : Stmt := topS 28
theorem sc_law : FnScope ["script", "box", "words", "turn", "word"] ["script"] (defScope st_law) := ⟨rfl, rfl, rfl, by decide +kernel, rfl, by decide +kernel, by decide +kernel⟩
theorem ok_law {P : Program} {w : World} {K : PySem.W.Frag} {mg : Str → Option Value} {base : Heap} {f fB : Addr} {fd fdB : FuncData} { s_law_word s_law_draw s_law_fine : Sx} (F : Fun K "law" "law" st_law f fd) (FB : Fun K "_law_box" "_law_box" st__law_box fB fdB) (hB : mg "_law_box" = some (.ref fB)) (c_law_word : Cal P w K mg base IsBox "_law_word" 3 ["box", "most", "k"] s_law_word) (c_law_draw : Cal P w K mg base IsBox "_law_draw" 2 ["box", "many"] s_law_draw) (c_law_fine : Cal P w K mg base IsBox "_law_fine" 10 ["box", "word"] s_law_fine) (zrange : mg "range" = none) (zall : mg "all" = none) (zlist : mg "list" = none) (zlen : mg "len" = none)
    (hs : w_law s_law_word s_law_draw s_law_fine { nx := fun _ => False, rt := fun d => d = .bl true } ((List.replicate 5 Slot.un).set 1 (.val .box))) : FnOk P w K mg base CX0 11 f fd ["script"] (spLaw K) := by
  have G : FnOk P w K mg base CX0 1 fB fdB ["script"] (spBox K) := raw_box FB zlist zlen
  have bB : Binds K fdB ["script"] [] := FB.binds fun _ _ _ _ _ _ us hl => match us, hl with | [_], _ => rfl
  have nd := sc_law.nd
  refine F.ok sc_law (fun vs H Q E h => by obtain ⟨a, ns, rfl, _⟩ := h; rfl) (fun cdv A outer s H vs Q E hr h => ?_)
  obtain ⟨a, ns, rfl, hS, hl, q⟩ := h
  have hR : ∀ β, IsBox β → PBW (cxOf CX0 P w K mg base ["script", "box", "words", "turn", "word"] "law" (defScope st_law) f cdv A outer s H E).nox β (defBody st_law).tail (w_law s_law_word s_law_draw s_law_fine) := fun β hβ => pb_as ((pb_cons (ps_setLc (z := (s, H, 0, [], [])) (i := 2) (own := [("turn", 3)]) nd rfl rfl (sw_true rfl rfl rfl (by decide +kernel)) (pi_rng1 pw_int zrange) (blkOk_by (N := ["script", "box", "words", "turn", "word"]) (sc := defScope st_law) (by decide +kernel)) (fun _ _ _ _ _ => (pg_name (i := 3) nd rfl (by first | exact Or.inl rfl | exact Or.inr rfl))) (fun _ _ _ _ _ => ptw_nil) (fun _ _ _ _ _ => (pw_callC c_law_word hβ (hr.mono (by omega)) (pwl_cons (pw_name 1 (pv 1)) (pwl_cons pw_int (pwl_cons (pw_bin d_add pw_int (pw_callC c_law_draw hβ (hr.mono (by omega)) (pwl_cons (pw_name 1 (pv 1)) (pwl_cons pw_int pwl_nil)))) pwl_nil))))))
      (pb_cons (ps_if (pwt_cmp (d_eq hr.units) (pw_callC c_law_draw hβ (hr.mono (by omega)) (pwl_cons (pw_name 1 (pv 1)) (pwl_cons pw_int pwl_nil))) pw_int) (pb_one (ps_app (pv 2) (pw_callC c_law_word hβ (hr.mono (by omega)) (pwl_cons (pw_name 1 (pv 1)) (pwl_cons pw_int (pwl_cons (pw_bin d_add pw_int (pw_callC c_law_draw hβ (hr.mono (by omega)) (pwl_cons (pw_name 1 (pv 1)) (pwl_cons pw_int pwl_nil)))) pwl_nil)))))) pb_nil)
      (pb_one (ps_ret (pw_b (c_all rfl) zall (by decide +kernel) (pwl_cons (pw_lc (z := (s, H, 0, [], [])) (own := [("word", 4)]) nd (pi_val (pw_name 2 (pv 2))) (blkOk_by (N := ["script", "box", "words", "turn", "word"]) (sc := defScope st_law) (by decide +kernel)) (fun _ _ _ _ _ => (pg_name (i := 4) nd rfl (by first | exact Or.inl rfl | exact Or.inr rfl))) (fun _ _ _ _ _ => ptw_nil) (fun _ _ _ _ _ => (pw_callC c_law_fine hβ (hr.mono (by omega)) (pwl_cons (pw_name 1 (pv 1)) (pwl_cons (pw_name 4 (pv 4)) pwl_nil))))) pwl_nil))))))) rfl
  refine ⟨_, pss_cons (L2.ps_set (i := 1) nd rfl (by first | exact Or.inl rfl | exact Or.inr rfl) (L2.pe_call G (hr.mono (by omega)) (by rfl) hB FB.kp bB .nil pass0 (pa_cons (pv 0) pa_nil))) (pss_x hR), ?_⟩
  exact ⟨.ref a, rfl, box_go (E0 := L2.E0) (n := 5) rfl (by decide) hS q hs⟩
end K57
set_option Elab.async false
set_option linter.all false
set_option autoImplicit false
set_option maxRecDepth 100000
namespace K57
open PySem PySem.Spec L2 WL

abbrev Wd := List Nat
/-- word[s:e] stands at p, too -/
def at_ (x : Wd) (s e p : Nat) : Bool := (x.drop p).take (e - s) == (x.drop s).take (e - s)
def std (x : Wd) (s e : Nat) : Bool := (List.range s).any (at_ x s e)
theorem at_iff {x : Wd} {s e p : Nat} (h1 : p ≤ s) (h2 : s ≤ e) (h3 : e ≤ x.length) : at_ x s e p = true ↔ ∀ k, k < e - s → x[p + k]? = x[s + k]? := by
  unfold at_
  rw [beq_iff_eq]
  constructor
  · intro h k hk
    have := congrArg (fun l : Wd => l[k]?) h
    simp only [List.getElem?_take, if_pos hk, List.getElem?_drop] at this
    exact this
  · intro h
    apply List.ext_getElem?
    intro k
    rw [List.getElem?_take, List.getElem?_take]
    by_cases hk : k < e - s
    · rw [if_pos hk, if_pos hk, List.getElem?_drop, List.getElem?_drop]; exact h k hk
    · rw [if_neg hk, if_neg hk]
theorem at_self (x : Wd) (s e : Nat) : at_ x s e s = true := by unfold at_; exact beq_self_eq_true _
theorem std_iff {x : Wd} {s e : Nat} : std x s e = true ↔ ∃ p, p < s ∧ at_ x s e p = true := by
  unfold std
  rw [List.any_eq_true]
  constructor
  · rintro ⟨p, h1, h2⟩; exact ⟨p, List.mem_range.mp h1, h2⟩
  · rintro ⟨p, h1, h2⟩; exact ⟨p, List.mem_range.mpr h1, h2⟩
/-- parts of what stands before stand before -/
theorem std_in {x : Wd} {s e s' e' : Nat} (h : std x s e = true) (h1 : s ≤ s') (h2 : s' ≤ e') (h3 : e' ≤ e) (h4 : e ≤ x.length) : std x s' e' = true := by
  obtain ⟨p, hp, ha⟩ := std_iff.mp h
  have ha := (at_iff (by omega) (by omega) h4).mp ha
  refine std_iff.mpr ⟨p + (s' - s), by omega, (at_iff (by omega) h2 (by omega)).mpr fun k hk => ?_⟩
  have := ha (s' - s + k) (by omega)
  have e1 : p + (s' - s) + k = p + (s' - s + k) := by omega
  have e2 : s' + k = s + (s' - s + k) := by omega
  rw [e1, e2]; exact this
/-- the first place where it stands -/
def fp (x : Wd) (s e : Nat) : Nat := ((List.range s).find? (at_ x s e)).getD s
theorem fp_spec (x : Wd) (s e : Nat) : fp x s e ≤ s ∧ at_ x s e (fp x s e) = true ∧ (fp x s e < s ↔ std x s e = true) ∧ ∀ j, j < fp x s e → at_ x s e j = false := by
  unfold fp
  cases h : (List.range s).find? (at_ x s e) with
  | none =>
    have h := List.find?_eq_none.mp h
    refine ⟨Nat.le_refl _, at_self x s e, ⟨fun z => absurd z (Nat.lt_irrefl _), fun z => ?_⟩, fun j hj => ?_⟩
    · obtain ⟨p, h1, h2⟩ := std_iff.mp z
      exact absurd h2 (h p (List.mem_range.mpr h1))
    · cases hc : at_ x s e j with
      | false => rfl
      | true => exact absurd hc (h j (List.mem_range.mpr hj))
  | some p =>
    rw [List.find?_range_eq_some] at h
    obtain ⟨h1, h2, h3⟩ := h
    rw [List.mem_range] at h2
    exact ⟨Nat.le_of_lt h2, h1, ⟨fun _ => std_iff.mpr ⟨p, h2, h1⟩, fun _ => h2⟩, fun j hj => by simpa using h3 j hj⟩
/-- what find tells -/
theorem find_fp {x : Wd} {s e : Nat} (h1 : s ≤ e) (h2 : e ≤ x.length) : findS x ((x.drop s).take (e - s)) = (fp x s e : Int) := by
  obtain ⟨f1, f2, f3, f4⟩ := fp_spec x s e
  unfold findS
  have hl : ((x.drop s).take (e - s)).length = e - s := by rw [List.length_take, List.length_drop]; omega
  rw [hl]
  have : (List.range (x.length + 1 - (e - s))).find? (fun i => (x.drop i).take (e - s) == (x.drop s).take (e - s)) = some (fp x s e) := by
    rw [List.find?_range_eq_some]
    refine ⟨f2, List.mem_range.mpr (by omega), fun j hj => ?_⟩
    have := f4 j hj
    unfold at_ at this
    rw [this]; rfl
  rw [this]

/-! ### phrases, the greedy ones -/
/-- a phrase -/
def ph (x : Wd) (s e : Nat) : Prop := s < e ∧ e ≤ x.length ∧ (e = s + 1 ∨ std x s e = true)
/-- the end of the greedy phrase -/
def ne (x : Wd) (s : Nat) : Nat := maxN ((List.range (x.length + 1)).filter fun e => decide (s < e) && std x s e)
def nx (x : Wd) (s : Nat) : Nat := max (s + 1) (ne x s)
theorem ne_spec {x : Wd} {s : Nat} (h : ne x s ≠ 0) : s < ne x s ∧ ne x s ≤ x.length ∧ std x s (ne x s) = true := by
  rcases maxN_mem ((List.range (x.length + 1)).filter fun e => decide (s < e) && std x s e) with e | e
  · exact absurd e h
  · obtain ⟨h1, h2⟩ := List.mem_filter.mp e
    rw [Bool.and_eq_true] at h2
    have h1 := List.mem_range.mp h1
    exact ⟨of_decide_eq_true h2.1, by unfold ne; omega, h2.2⟩
theorem ne_ge {x : Wd} {s e : Nat} (h1 : s < e) (h2 : e ≤ x.length) (h3 : std x s e = true) : e ≤ ne x s :=
  maxN_ge (List.mem_filter.mpr ⟨List.mem_range.mpr (by omega), by rw [h3, decide_eq_true h1]; rfl⟩)
theorem nx_spec {x : Wd} {s : Nat} (h : s < x.length) : ph x s (nx x s) := by
  unfold nx ph
  by_cases hz : ne x s = 0
  · rw [hz]; exact ⟨by omega, by omega, .inl (by omega)⟩
  · obtain ⟨h1, h2, h3⟩ := ne_spec hz
    rw [Nat.max_eq_right (by omega)]
    exact ⟨h1, h2, .inr h3⟩
/-- no phrase from behind ends further -/
theorem nx_max {x : Wd} {m q e : Nat} (h : ph x m e) (h1 : m ≤ q) (h2 : q < e) : e ≤ nx x q := by
  obtain ⟨a, b, c⟩ := h
  unfold nx
  rcases c with c | c
  · omega
  · have := ne_ge h2 b (std_in c h1 (by omega) (Nat.le_refl _) b)
    omega
/-- the greedy places -/
def g (x : Wd) : Nat → Nat
  | 0 => 0
  | k + 1 => if g x k < x.length then nx x (g x k) else g x k
theorem g_le (x : Wd) : ∀ k, g x k ≤ x.length
  | 0 => Nat.zero_le _
  | k + 1 => by
    rw [g]
    split
    · rename_i h; exact (nx_spec h).2.1
    · exact g_le x k
theorem g_lt {x : Wd} {k : Nat} (h : g x k < x.length) : g x k < g x (k + 1) := by rw [g, if_pos h]; exact (nx_spec h).1
theorem g_mono (x : Wd) (k : Nat) : g x k ≤ g x (k + 1) := by
  by_cases h : g x k < x.length
  · exact Nat.le_of_lt (g_lt h)
  · rw [g, if_neg h]; exact Nat.le_refl _
theorem g_far (x : Wd) : ∀ k, k ≤ g x k ∨ g x k = x.length
  | 0 => .inl (Nat.le_refl _)
  | k + 1 => by
    by_cases h : g x k < x.length
    · have := g_lt h
      rcases g_far x k with h1 | h1 <;> omega
    · have := g_le x k
      right
      rw [g, if_neg h]; omega
/-- their number -/
def L (x : Wd) : Nat := ((List.range (x.length + 1)).find? fun k => decide (g x k = x.length)).getD x.length
theorem L_spec (x : Wd) : g x (L x) = x.length ∧ L x ≤ x.length ∧ ∀ k, k < L x → g x k < x.length := by
  unfold L
  cases h : (List.range (x.length + 1)).find? fun k => decide (g x k = x.length) with
  | none =>
    have h := List.find?_eq_none.mp h x.length (List.mem_range.mpr (by omega))
    have h := of_decide_eq_false (Bool.eq_false_iff.mpr h)
    have := g_far x x.length
    have := g_le x x.length
    omega
  | some k =>
    rw [List.find?_range_eq_some] at h
    obtain ⟨h1, h2, h3⟩ := h
    refine ⟨of_decide_eq_true h1, by have := List.mem_range.mp h2; show k ≤ _; omega, fun j hj => ?_⟩
    have h4 := h3 j hj
    have h5 : g x j ≠ x.length := by simpa using h4
    have := g_le x j
    omega
/-- k phrases from the start to e -/
def PA (x : Wd) : Nat → Nat → Prop
  | e, 0 => e = 0
  | e, k + 1 => ∃ m, PA x m k ∧ ph x m e
theorem PA_g (x : Wd) : ∀ k e, PA x e k → e ≤ g x k
  | 0, e, h => by rw [PA] at h; rw [h]; exact Nat.zero_le _
  | k + 1, e, h => by
    rw [PA] at h
    obtain ⟨m, h1, h2⟩ := h
    have h3 := PA_g x k m h1
    by_cases hq : e ≤ g x k
    · exact Nat.le_trans hq (g_mono x k)
    · have := nx_max h2 h3 (by omega)
      rw [g]
      have := h2.2.1
      rw [if_pos (by omega)]
      omega
theorem PA_L {x : Wd} {k : Nat} (h : PA x x.length k) : L x ≤ k := by
  have h1 := PA_g x k _ h
  have h2 := (L_spec x).2.2 k
  have := g_le x k
  omega
theorem g_PA (x : Wd) : ∀ k, k ≤ L x → PA x (g x k) k
  | 0, _ => rfl
  | k + 1, h => by
    have h1 := (L_spec x).2.2 k (by omega)
    refine ⟨g x k, g_PA x k (by omega), ?_⟩
    rw [g, if_pos h1]
    exact nx_spec h1
/-- milestones -/
theorem miles_g {x : Wd} {v : List Nat} (h0 : v[0]? = some 0) (hs : ∀ k a b, v[k]? = some a → v[k + 1]? = some b → a < b ∧ std x a (b + 1) = false) (hn : ∀ a ∈ v, a < x.length) : ∀ k a, v[k]? = some a → g x k ≤ a
  | 0, a, h => Nat.zero_le _
  | k + 1, b, h => by
    have hk : k < v.length := by
      have := (List.getElem?_eq_some_iff.mp h).1; omega
    have ha := List.getElem?_eq_getElem hk
    have h1 := miles_g h0 hs hn k _ ha
    obtain ⟨h2, h3⟩ := hs k _ _ ha h
    have hb := hn b (List.mem_of_getElem? h)
    rw [g]
    split
    · rename_i hg
      have hp := nx_spec hg
      apply Classical.byContradiction
      intro hc
      rcases hp.2.2 with e | e
      · omega
      · have := std_in e h1 (show v[k] ≤ b + 1 by omega) (by omega) hp.2.1
        rw [h3] at this; cases this
    · omega
theorem miles_L {x : Wd} {v : List Nat} (h0 : v[0]? = some 0) (hs : ∀ k a b, v[k]? = some a → v[k + 1]? = some b → a < b ∧ std x a (b + 1) = false) (hn : ∀ a ∈ v, a < x.length) : v.length ≤ L x := by
  by_cases hz : v.length = 0
  · omega
  · have hl := List.getElem?_eq_getElem (l := v) (i := v.length - 1) (by omega)
    have h1 := miles_g h0 hs hn (v.length - 1) _ hl
    have h2 := hn _ (List.mem_of_getElem? hl)
    have h3 : ¬ L x ≤ v.length - 1 := by
      intro z
      have h4 : ∀ j, L x ≤ j → g x j = x.length := by
        intro j hj
        induction j with
        | zero =>
          have : L x = 0 := by omega
          rw [← this]; exact (L_spec x).1
        | succ j ih =>
          by_cases hq : L x = j + 1
          · rw [← hq]; exact (L_spec x).1
          · have h5 := ih (by omega)
            rw [g, if_neg (by omega)]; exact h5
      have := h4 _ z
      omega
    omega
end K57
set_option Elab.async false
set_option linter.all false
set_option autoImplicit false
set_option maxRecDepth 100000
namespace K57
open PySem PySem.Spec L2 WL

inductive It where
  | lt (c : Nat) | cp (i j : Nat)
def copyN (t : Wd) (i : Nat) : Nat → Wd
  | 0 => t
  | k + 1 => copyN t i k ++ [(copyN t i k)[i + k]?.getD 0]
theorem copyN_len {t : Wd} {i : Nat} : ∀ k, (copyN t i k).length = t.length + k
  | 0 => rfl
  | k + 1 => by rw [copyN, List.length_append, copyN_len k]; simp; omega
theorem copyN_pre {t : Wd} {i : Nat} : ∀ k, t = (copyN t i k).take t.length
  | 0 => by rw [copyN, List.take_length]
  | k + 1 => by rw [copyN, List.take_append_of_le_length (by rw [copyN_len]; omega)]; exact copyN_pre k
theorem copyN_get {t : Wd} {i : Nat} (h : i < t.length) : ∀ k m, m < k → (copyN t i k)[t.length + m]? = (copyN t i k)[i + m]?
  | 0, m, hm => by omega
  | k + 1, m, hm => by
    rw [copyN]
    have hl := copyN_len (t := t) (i := i) k
    by_cases e : m = k
    · subst e
      rw [List.getElem?_append_right (by omega), hl, Nat.sub_self, List.getElem?_append_left (by omega)]
      have : (copyN t i m)[i + m]? = some ((copyN t i m)[i + m]'(by omega)) := List.getElem?_eq_getElem (by omega)
      rw [this]; rfl
    · rw [List.getElem?_append_left (by omega), List.getElem?_append_left (by omega)]
      exact copyN_get h k m (by omega)
def app (t : Wd) : It → Wd
  | .lt c => t ++ [c]
  | .cp i j => copyN t i j
/-- what is said by copying what stands before -/
theorem copy_take {x : Wd} {s e i : Nat} (h1 : i < s) (h2 : s ≤ e) (h3 : e ≤ x.length) (ha : at_ x s e i = true) : copyN (x.take s) i (e - s) = x.take e := by
  have ha := (at_iff (by omega) h2 h3).mp ha
  have : ∀ k, k ≤ e - s → copyN (x.take s) i k = x.take (s + k) := by
    intro k
    induction k with
    | zero => intro _; rfl
    | succ k ih =>
      intro hk
      rw [copyN, ih (by omega), List.getElem?_take, if_pos (by omega), ha k (by omega), show s + (k + 1) = s + k + 1 from rfl, List.take_add_one, List.getElem?_eq_getElem (by omega)]
      rfl
  have := this (e - s) (Nat.le_refl _)
  rwa [show s + (e - s) = e by omega] at this
theorem copy_at {x : Wd} {s i k : Nat} (h1 : i < s) (h3 : s + k ≤ x.length) (h : copyN (x.take s) i k = x.take (s + k)) : at_ x s (s + k) i = true := by
  refine (at_iff (by omega) (by omega) h3).mpr fun m hm => ?_
  have hl : (x.take s).length = s := by rw [List.length_take]; omega
  have := copyN_get (t := x.take s) (i := i) (by omega) k m (by omega)
  rw [h, hl, List.getElem?_take, List.getElem?_take, if_pos (by omega), if_pos (by omega)] at this
  exact this.symm

/-! ### packings -/
def itemD : D → Option It
  | .str [c] => if 97 ≤ c ∧ c ≤ 122 then some (.lt c) else none
  | .tup [.int i, .int j] => if 0 ≤ i ∧ 0 ≤ j then some (.cp i.toNat j.toNat) else none
  | _ => none
/-- as the law says it -/
def okG (n : Nat) (t : Wd) : It → Bool
  | .lt _ => true
  | .cp i j => decide (i < t.length) && (decide (0 < j) && decide (t.length + j ≤ n))
def runG (n : Nat) (t : Wd) : List D → Option Wd
  | [] => some t
  | d :: ds => match itemD d with
    | some it => if okG n t it then runG n (app t it) ds else none
    | none => none
/-- as the program says it -/
def okP (n : Nat) (t : Wd) : It → Bool
  | .lt _ => decide (t.length < n)
  | .cp i j => decide (i < t.length) && (decide (1 ≤ j) && decide (t.length + j ≤ n))
def runP (x : Wd) (t : Wd) : List D → Bool
  | [] => t == x
  | d :: ds => match itemD d with
    | some it => okP x.length t it && runP x (app t it) ds
    | none => false
theorem app_len {t : Wd} {it : It} : t.length ≤ (app t it).length := by
  cases it with
  | lt c => show _ ≤ (t ++ [c]).length; rw [List.length_append]; omega
  | cp i j => show _ ≤ (copyN t i j).length; rw [copyN_len]; omega
theorem app_pre {t : Wd} {it : It} : t = (app t it).take t.length := by
  cases it with
  | lt c => exact (List.take_left' rfl).symm
  | cp i j => exact copyN_pre j
theorem runG_pre {n : Nat} : ∀ {ds : List D} {t u : Wd}, runG n t ds = some u → t.length ≤ u.length ∧ t = u.take t.length
  | [], t, u, h => by
    rw [runG] at h; cases h
    exact ⟨Nat.le_refl _, (List.take_length).symm⟩
  | d :: ds, t, u, h => by
    rw [runG] at h
    split at h
    · rename_i it _
      split at h
      · obtain ⟨h1, h2⟩ := runG_pre h
        have h3 := app_len (t := t) (it := it)
        refine ⟨by omega, ?_⟩
        have h4 := app_pre (t := t) (it := it)
        rw [h2, List.take_take, Nat.min_eq_left h3] at h4
        exact h4
      · cases h
    · cases h
theorem runP_G (x : Wd) : ∀ (ds : List D) (t : Wd), runP x t ds = (runG x.length t ds == some x)
  | [], t => by
    rw [runP, runG]
    rw [Bool.eq_iff_iff, beq_iff_eq, beq_iff_eq]
    exact ⟨fun h => by rw [h], fun h => Option.some.inj h⟩
  | d :: ds, t => by
    rw [runP, runG]
    cases hi : itemD d with
    | none => simp
    | some it =>
      dsimp only
      rw [runP_G x ds]
      cases it with
      | cp i j =>
        show (okG x.length t (.cp i j) && _) = _
        cases hok : okG x.length t (.cp i j) with
        | true => rw [if_pos rfl, Bool.true_and]
        | false => rw [if_neg Bool.false_ne_true]; simp
      | lt c =>
        show (decide (t.length < x.length) && _) = ((if true = true then runG x.length (t ++ [c]) ds else none) == some x)
        rw [if_pos rfl]
        by_cases ht : t.length < x.length
        · rw [decide_eq_true ht, Bool.true_and]; rfl
        · rw [decide_eq_false ht, Bool.false_and]
          symm
          rw [beq_eq_false_iff_ne]
          intro e
          have := (runG_pre e).1
          rw [List.length_append] at this
          simp at this
          omega
/-- what is said is a row of phrases -/
theorem runG_PA {x : Wd} : ∀ {ds : List D} {t : Wd} {k : Nat}, runG x.length t ds = some x → PA x t.length k → PA x x.length (k + ds.length)
  | [], t, k, h, hp => by
    rw [runG] at h; cases h
    exact hp
  | d :: ds, t, k, h, hp => by
    rw [runG] at h
    split at h
    · rename_i it _
      split at h
      · rename_i hok
        obtain ⟨h1, h2⟩ := runG_pre h
        have ht : t = x.take t.length := by
          have h3 := app_len (t := t) (it := it)
          have h4 := app_pre (t := t) (it := it)
          rw [h2, List.take_take, Nat.min_eq_left h3] at h4
          exact h4
        by_cases hz : (app t it).length = t.length
        · -- nothing said: not so
          cases it with
          | lt c =>
            have hz : (t ++ [c]).length = t.length := hz
            rw [List.length_append] at hz; simp at hz
          | cp i j =>
            have hz : (copyN t i j).length = t.length := hz
            rw [copyN_len] at hz
            have hok : (decide (i < t.length) && (decide (0 < j) && decide (t.length + j ≤ x.length))) = true := hok
            simp at hok
            omega
        · have hp2 : PA x (app t it).length (k + 1) := by
            refine ⟨t.length, hp, ?_⟩
            have h3 := app_len (t := t) (it := it)
            refine ⟨by omega, h1, ?_⟩
            cases it with
            | lt c => left; show (t ++ [c]).length = _; rw [List.length_append]; rfl
            | cp i j =>
              right
              have hok : (decide (i < t.length) && (decide (0 < j) && decide (t.length + j ≤ x.length))) = true := hok
              simp at hok
              have hc : (app t (.cp i j)).length = t.length + j := copyN_len j
              rw [hc] at h2 ⊢
              refine std_iff.mpr ⟨i, hok.1, copy_at hok.1 (by omega) ?_⟩
              rw [← ht]
              exact h2
          have := runG_PA h hp2
          rwa [show k + (d :: ds).length = k + 1 + ds.length by rw [List.length_cons]; omega]
      · cases h
    · cases h
theorem fine_L {x : Wd} {ds : List D} (h : runG x.length [] ds = some x) : L x ≤ ds.length := by
  have := runG_PA (t := []) (k := 0) h rfl
  rw [Nat.zero_add] at this
  exact PA_L this

/-! ### the greedy packing -/
def itemX (x : Wd) (s : Nat) : D := if ne x s = 0 then .str [x[s]?.getD 0] else .tup [.int (fp x s (ne x s)), .int ((ne x s : Int) - (s : Int))]
def dueD (x : Wd) : List D := (List.range (L x)).map fun k => itemX x (g x k)
theorem runG_app {n : Nat} : ∀ {as bs : List D} {t u : Wd}, runG n t as = some u → runG n t (as ++ bs) = runG n u bs
  | [], bs, t, u, h => by rw [runG] at h; cases h; rfl
  | d :: as, bs, t, u, h => by
    rw [runG] at h
    rw [List.cons_append, runG]
    split at h
    · split at h
      · rename_i h1 h2
        rw [if_pos h2]
        exact runG_app h
      · cases h
    · cases h
theorem due_run {x : Wd} (hx : ∀ c ∈ x, 97 ≤ c ∧ c ≤ 122) : ∀ k, k ≤ L x → runG x.length [] ((List.range k).map fun k => itemX x (g x k)) = some (x.take (g x k))
  | 0, _ => rfl
  | k + 1, h => by
    have hg := (L_spec x).2.2 k (by omega)
    have hl : (x.take (g x k)).length = g x k := by rw [List.length_take]; omega
    rw [List.range_succ, List.map_append, runG_app (due_run hx k (by omega)), List.map_singleton, runG, g, if_pos hg]
    unfold itemX nx
    by_cases hz : ne x (g x k) = 0
    · rw [if_pos hz, hz, List.getElem?_eq_getElem hg]
      have hc := hx _ (List.getElem_mem hg)
      show (match (if 97 ≤ x[g x k] ∧ x[g x k] ≤ 122 then some (It.lt x[g x k]) else none) with | some it => _ | none => none) = _
      rw [if_pos hc]
      show some (x.take (g x k) ++ [x[g x k]]) = _
      rw [Nat.max_eq_left (by omega), List.take_add_one, List.getElem?_eq_getElem hg]
      rfl
    · obtain ⟨n1, n2, n3⟩ := ne_spec hz
      obtain ⟨f1, f2, f3, f4⟩ := fp_spec x (g x k) (ne x (g x k))
      have f3 := f3.mpr n3
      rw [if_neg hz, Nat.max_eq_right (by omega)]
      show (match (if 0 ≤ (fp x (g x k) (ne x (g x k)) : Int) ∧ 0 ≤ ((ne x (g x k) : Int) - (g x k : Int)) then some (It.cp (fp x (g x k) (ne x (g x k)) : Int).toNat ((ne x (g x k) : Int) - (g x k : Int)).toNat) else none) with | some it => _ | none => none) = _
      rw [if_pos (by omega)]
      have e1 : ((fp x (g x k) (ne x (g x k)) : Int)).toNat = fp x (g x k) (ne x (g x k)) := by omega
      have e2 : ((ne x (g x k) : Int) - (g x k : Int)).toNat = ne x (g x k) - g x k := by omega
      rw [e1, e2]
      have hok : okG x.length (x.take (g x k)) (.cp (fp x (g x k) (ne x (g x k))) (ne x (g x k) - g x k)) = true := by
        show (decide _ && (decide _ && decide _)) = true
        rw [hl, decide_eq_true f3, decide_eq_true (by omega), decide_eq_true (by omega)]; rfl
      dsimp only
      rw [if_pos hok]
      show some (copyN (x.take (g x k)) (fp x (g x k) (ne x (g x k))) (ne x (g x k) - g x k)) = _
      rw [copy_take f3 (by omega) n2 f2]
theorem due_fine {x : Wd} (hx : ∀ c ∈ x, 97 ≤ c ∧ c ≤ 122) : runG x.length [] (dueD x) = some x := by
  have := due_run hx (L x) (Nat.le_refl _)
  rw [(L_spec x).1, List.take_length] at this
  exact this
end K57
set_option Elab.async false
set_option linter.all false
set_option autoImplicit false
set_option maxRecDepth 100000
namespace K57
open PySem PySem.Spec L2 WL

def whD : D → Bool
  | .int i => decide (0 ≤ i)
  | _ => false
def s_is_whole : Sx := .of (fun v : D => [v]) (fun v => noBox v = true) fun v => .bl (whD v)
abbrev s__law_whole : Sx := s_is_whole
theorem sem_is_whole : ∀ ds R, ds.length = 1 → s_is_whole.f ds R → w_is_whole { nx := fun _ => R .non, rt := R } (startW 1 ds) := by
  intro ds R _ ⟨v, hx, hb, h⟩
  subst hx
  cases v with
  | int i => exact ifP_t (ifP_t h)
  | bl b => exact ifP_t (ifP_f h)
  | box => cases hb
  | _ => exact ifP_f h
theorem sem__law_whole : ∀ ds R, ds.length = 1 → s__law_whole.f ds R → w__law_whole { nx := fun _ => R .non, rt := R } (startW 1 ds) := sem_is_whole
theorem pv_noBox {B n : Nat} {d : D} (h : pvN B n d = true) : noBox d = true := by
  cases d <;> first | rfl | (cases n <;> simp [pvN] at h)

def behA (p : Wd × D × It) : List D := [.str p.1, p.2.1]
def s_text_behind : Sx := .of behA (fun p => itemD p.2.1 = some p.2.2 ∧ okG 1000 p.1 p.2.2 = true ∧ p.1.length ≤ 1000) fun p => .str (app p.1 p.2.2)
theorem itemD_lt {d : D} {c : Nat} (h : itemD d = some (.lt c)) : d = .str [c] ∧ 97 ≤ c ∧ c ≤ 122 := by
  unfold itemD at h
  split at h
  · split at h
    · rename_i hc
      cases h
      exact ⟨rfl, hc⟩
    · cases h
  · split at h <;> cases h
  · cases h
theorem itemD_cp {d : D} {i j : Nat} (h : itemD d = some (.cp i j)) : d = .tup [.int i, .int j] := by
  unfold itemD at h
  split at h
  · split at h <;> cases h
  · split at h
    · rename_i a b hc
      cases h
      have e1 : ((a.toNat : Nat) : Int) = a := by omega
      have e2 : ((b.toNat : Nat) : Int) = b := by omega
      rw [e1, e2]
    · cases h
  · cases h
theorem sem_text_behind : ∀ ds R, ds.length = 2 → s_text_behind.f ds R → w_text_behind { nx := fun _ => R .non, rt := R } (startW 5 ds) := by
  intro ds R _ ⟨⟨t, d, it⟩, hx, ⟨h1, h2, h3⟩, h⟩
  subst hx
  have h1 : itemD d = some it := h1
  have h3 : t.length ≤ 1000 := h3
  cases it with
  | lt c =>
    obtain ⟨rfl, _⟩ := itemD_lt h1
    exact ifP_t ⟨by show t.length + 1 ≤ _; omega, h⟩
  | cp i j =>
    obtain rfl := itemD_cp h1
    have h2 : (decide (i < t.length) && (decide (0 < j) && decide (t.length + j ≤ 1000))) = true := h2
    simp at h2
    refine ifP_f ⟨⟨by omega, by omega⟩, ?_⟩
    rw [Int.toNat_natCast]
    refine forR (fun k ρ => ∃ a, ρ = [.val (.str (copyN t i k)), .val (.tup [.int i, .int j]), .val (.int i), .val (.int j), a]) ⟨_, rfl⟩ ?_ ?_
    · rintro k ρ K hk ⟨a, rfl⟩ hK
      have hl := copyN_len (t := t) (i := i) k
      have e : atI (copyN t i k) ((i : Int) + (0 + (k : Int))) = some ((copyN t i k)[i + k]'(by omega)) := atI_i (by omega) (by
        rw [show ((i : Int) + (0 + (k : Int))).toNat = i + k by omega]; exact List.getElem?_eq_getElem (by omega))
      show match atI (copyN t i k) ((i : Int) + (0 + (k : Int))) with | some c => _ | none => False
      rw [e]
      refine ⟨by show (copyN t i k).length + 1 ≤ _; omega, hK _ ⟨.val (.int (0 + (k : Int))), ?_⟩⟩
      rw [copyN, List.getElem?_eq_getElem (by omega)]
      rfl
    · rintro ρ ⟨a, rfl⟩
      exact h
theorem inS_one (c : Nat) (y : Wd) : inS [c] y = decide (c ∈ y) := by
  rw [Bool.eq_iff_iff, decide_eq_true_iff]
  unfold inS
  rw [List.any_eq_true]
  constructor
  · rintro ⟨i, h1, h2⟩
    have h2 := eq_of_beq h2
    have : c ∈ (y.drop i).take [c].length := by rw [h2]; exact List.mem_singleton.mpr rfl
    exact List.mem_of_mem_drop (List.mem_of_mem_take this)
  · intro h
    obtain ⟨i, hi⟩ := List.mem_iff_getElem?.mp h
    obtain ⟨h1, h2⟩ := List.getElem?_eq_some_iff.mp hi
    refine ⟨i, List.mem_range.mpr (by show i < y.length + 1 - 1; omega), ?_⟩
    rw [beq_iff_eq, List.drop_eq_getElem_cons h1, h2]; rfl
abbrev LET : Wd := [97, 98, 99, 100, 101, 102, 103, 104, 105, 106, 107, 108, 109, 110, 111, 112, 113, 114, 115, 116, 117, 118, 119, 120, 121, 122]
theorem mem_LET (c : Nat) : c ∈ LET ↔ 97 ≤ c ∧ c ≤ 122 := by
  simp only [List.mem_cons, List.not_mem_nil, or_false]; omega
theorem inS_LET (c : Nat) : inS [c] LET = decide (97 ≤ c ∧ c ≤ 122) := by
  rw [inS_one, Bool.eq_iff_iff, decide_eq_true_iff, decide_eq_true_iff]; exact mem_LET c
/-- is_item's answer -/
def okI (t : Wd) (most : Int) : Option It → Bool
  | some (.lt _) => decide (0 < most)
  | some (.cp i j) => decide (i < t.length) && (decide (1 ≤ j) && decide ((j : Int) ≤ most))
  | none => false
def itmA (p : Wd × D × Int) : List D := [.str p.1, p.2.1, .int p.2.2]
def s_is_item : Sx := .of itmA (fun p => pvN BW 50 p.2.1 = true ∧ p.1.length ≤ 1000) fun p => .bl (okI p.1 p.2.2 (itemD p.2.1))
theorem sem_is_item : ∀ ds R, ds.length = 3 → s_is_item.f ds R → w_is_item s_is_whole { nx := fun _ => R .non, rt := R } (startW 3 ds) := by
  intro ds R _ ⟨⟨t, d, most⟩, hx, ⟨h1, h2⟩, h⟩
  subst hx
  have h1 : pvN BW 50 d = true := h1
  have h : R (.bl (okI t most (itemD d))) := h
  cases d with
  | box => simp [pvN] at h1
  | dct _ _ => simp [pvN] at h1
  | lst _ => simp [pvN] at h1
  | non => exact ifP_f (ifP_t (ifP_t h))
  | bl b => exact ifP_f (ifP_t (ifP_t h))
  | int i => exact ifP_f (ifP_t (ifP_t h))
  | str y =>
    refine ifP_t (ifP_b (fun hy => ifP_b (fun hi => ?_) (fun hi => ?_)) (fun hy => ?_))
    · have hy : y.length = 1 := by have hy : ((y.length : Int) == 1) = true := hy; rw [beq_iff_eq] at hy; omega
      obtain ⟨c, rfl⟩ : ∃ c, y = [c] := by
        match y, hy with
        | [c], _ => exact ⟨c, rfl⟩
      have hi : inS [c] LET = true := by have hi : (false != inS [c] LET) = true := hi; rwa [fne] at hi
      rw [inS_LET, decide_eq_true_iff] at hi
      have e : itemD (.str [c]) = some (.lt c) := if_pos hi
      rw [e] at h
      exact h
    · have hy : y.length = 1 := by have hy : ((y.length : Int) == 1) = true := hy; rw [beq_iff_eq] at hy; omega
      obtain ⟨c, rfl⟩ : ∃ c, y = [c] := by
        match y, hy with
        | [c], _ => exact ⟨c, rfl⟩
      have hi : inS [c] LET = false := by have hi : (false != inS [c] LET) = false := hi; rwa [fne] at hi
      rw [inS_LET, decide_eq_false_iff_not] at hi
      have e : itemD (.str [c]) = none := if_neg hi
      rw [e] at h
      exact h
    · have hy : y.length ≠ 1 := fun z => by have hy : ((y.length : Int) == 1) = false := hy; rw [z] at hy; simp at hy
      have e : itemD (.str y) = none := by
        match y, hy with
        | [], _ => rfl
        | [_], hy => exact absurd rfl hy
        | _ :: _ :: _, _ => rfl
      rw [e] at h
      exact h
  | tup xs =>
    obtain ⟨m, hm, hl, hx⟩ := pv_tup' h1
    by_cases hz : xs.length = 2
    · obtain ⟨a, b, rfl⟩ : ∃ a b, xs = [a, b] := by
        match xs, hz with
        | [a, b], _ => exact ⟨a, b, rfl⟩
      have ha := pv_noBox (hx a (by simp))
      have hb := pv_noBox (hx b (by simp))
      have no : (whD a = false ∨ whD b = false) → itemD (.tup [a, b]) = none := by
        intro hn
        cases hi : itemD (.tup [a, b]) with
        | none => rfl
        | some it =>
          cases it with
          | lt c => have := (itemD_lt hi).1; cases this
          | cp i j =>
            have := itemD_cp hi
            injection this with this
            injection this with e1 e2
            injection e2 with e2 _
            subst e1 e2
            rcases hn with hn | hn
            · have : ¬ (0 : Int) ≤ (i : Int) := of_decide_eq_false hn
              omega
            · have : ¬ (0 : Int) ≤ (j : Int) := of_decide_eq_false hn
              omega
      refine ifP_f (ifP_f (ifP_f ⟨rfl, a, rfl, ha, ifP_b (fun z => ?_) (fun z => ⟨rfl, b, rfl, hb, ifP_b (fun y => ?_) (fun y => ?_)⟩)⟩))
      · have z : (!whD a) = true := z
        rw [no (.inl (by simpa using z))] at h
        exact ifP_t h
      · have y : (!whD b) = true := y
        rw [no (.inr (by simpa using y))] at h
        exact h
      · have z : (!whD a) = false := z
        have y : (!whD b) = false := y
        have hwa : whD a = true := by simpa using z
        have hwb : whD b = true := by simpa using y
        obtain ⟨i, rfl, hi⟩ : ∃ i, a = .int i ∧ 0 ≤ i := by
          cases a <;> first | (cases hwa; done) | exact ⟨_, rfl, of_decide_eq_true hwa⟩
        obtain ⟨j, rfl, hj⟩ : ∃ j, b = .int j ∧ 0 ≤ j := by
          cases b <;> first | (cases hwb; done) | exact ⟨_, rfl, of_decide_eq_true hwb⟩
        have e : itemD (.tup [.int i, .int j]) = some (.cp i.toNat j.toNat) := if_pos ⟨hi, hj⟩
        rw [e] at h
        have h : R (.bl (decide (i.toNat < t.length) && (decide (1 ≤ j.toNat) && decide ((j.toNat : Int) ≤ most)))) := h
        have hjj : (j.toNat : Int) = j := Int.toNat_of_nonneg hj
        refine ifP_b (fun z => ?_) (fun z => ?_)
        · have z : i < (t.length : Int) := of_decide_eq_true z
          rw [decide_eq_true (show i.toNat < t.length by omega), Bool.true_and, hjj] at h
          refine ifP_b (fun y => ?_) (fun y => ?_)
          · have y : 1 ≤ j := of_decide_eq_true y
            rw [decide_eq_true (show 1 ≤ j.toNat by omega), Bool.true_and] at h
            exact h
          · have y : ¬ 1 ≤ j := of_decide_eq_false y
            rw [decide_eq_false (show ¬ 1 ≤ j.toNat by omega), Bool.false_and] at h
            exact h
        · have z : ¬ i < (t.length : Int) := of_decide_eq_false z
          rw [decide_eq_false (show ¬ i.toNat < t.length by omega), Bool.false_and] at h
          exact h
    · have e : itemD (.tup xs) = none := by
        cases hi : itemD (.tup xs) with
        | none => rfl
        | some it =>
          cases it with
          | lt c => have := (itemD_lt hi).1; cases this
          | cp i j =>
            have := itemD_cp hi
            injection this with this
            rw [this] at hz
            exact absurd rfl hz
      rw [e] at h
      refine ifP_f (ifP_f (ifP_b (fun z => ifP_t h) (fun z => ?_)))
      have z : (!((xs.length : Int) == 2)) = false := z
      simp at z
      omega
end K57
set_option Elab.async false
set_option linter.all false
set_option autoImplicit false
set_option maxRecDepth 100000
namespace K57
open PySem PySem.Spec L2 WL

def packP (x : Wd) : D → Bool
  | .tup ds => runP x [] ds
  | _ => false
def xvA (p : Wd × D) : List D := [.str p.1, p.2]
def s_is_packing : Sx := .of xvA (fun p => p.1.length ≤ 60 ∧ pvN BW 50 p.2 = true) fun p => .bl (packP p.1 p.2)
theorem okI_P {x t : Wd} {it : It} : okI t ((x.length : Int) - (t.length : Int)) (some it) = okP x.length t it := by
  cases it with
  | lt c =>
    show decide _ = decide _
    rw [Bool.eq_iff_iff, decide_eq_true_iff, decide_eq_true_iff]; omega
  | cp i j =>
    show (decide _ && (decide _ && decide _)) = (decide _ && (decide _ && decide _))
    congr 2
    rw [Bool.eq_iff_iff, decide_eq_true_iff, decide_eq_true_iff]; omega
theorem okP_len {n : Nat} {t : Wd} {it : It} (h : okP n t it = true) : (app t it).length ≤ n ∧ okG 1000 t it = (true && okG 1000 t it) := by
  refine ⟨?_, by rw [Bool.true_and]⟩
  cases it with
  | lt c =>
    have h : t.length < n := of_decide_eq_true h
    show (t ++ [c]).length ≤ n
    rw [List.length_append]; exact h
  | cp i j =>
    have h : (decide (i < t.length) && (decide (1 ≤ j) && decide (t.length + j ≤ n))) = true := h
    simp at h
    show (copyN t i j).length ≤ n
    rw [copyN_len]; omega
theorem okP_G {n : Nat} {t : Wd} {it : It} (hn : n ≤ 1000) (h : okP n t it = true) : okG 1000 t it = true := by
  cases it with
  | lt c => rfl
  | cp i j =>
    have h : (decide (i < t.length) && (decide (1 ≤ j) && decide (t.length + j ≤ n))) = true := h
    simp at h
    show (decide _ && (decide _ && decide _)) = true
    rw [decide_eq_true h.1, decide_eq_true (show 0 < j by omega), decide_eq_true (show t.length + j ≤ 1000 by omega)]; rfl
theorem drop_get {α : Type} {l : List α} {i : Nat} {d : α} (h : l[i]? = some d) : l.drop i = d :: l.drop (i + 1) := by
  obtain ⟨h1, h2⟩ := List.getElem?_eq_some_iff.mp h
  rw [List.drop_eq_getElem_cons h1, h2]
theorem sem_is_packing : ∀ ds R, ds.length = 2 → s_is_packing.f ds R → w_is_packing s_is_item s_text_behind { nx := fun _ => R .non, rt := R } (startW 4 ds) := by
  intro ds R _ ⟨⟨x, v⟩, hx, ⟨h1, h2⟩, h⟩
  subst hx
  have h1 : x.length ≤ 60 := h1
  have h2 : pvN BW 50 v = true := h2
  have h : R (.bl (packP x v)) := h
  cases v with
  | box => simp [pvN] at h2
  | dct _ _ => simp [pvN] at h2
  | lst _ => simp [pvN] at h2
  | non => exact ifP_t h
  | bl b => exact ifP_t h
  | int i => exact ifP_t h
  | str y => exact ifP_t h
  | tup xs =>
    obtain ⟨m, hm, hl, hxs⟩ := pv_tup' h2
    have h : R (.bl (runP x [] xs)) := h
    refine ifP_f ?_
    refine forL_ind (fun i ρ => ∃ t a, ρ = [.val (.str x), .val (.tup xs), .val (.str t), a] ∧ runP x t (xs.drop i) = runP x [] xs ∧ t.length ≤ 60) ⟨[], .un, rfl, by rw [List.drop_zero], by show 0 ≤ 60; omega⟩ ?_ ?_
    · rintro i d ρ K hi ⟨t, a, rfl, hr, ht⟩ hK
      refine ⟨_, rfl, ?_⟩
      have hd : pvN BW 50 d = true := pvN_mono (Nat.le_refl _) m d (by omega) (hxs d (List.mem_of_getElem? hi))
      rw [drop_get hi] at hr
      refine ⟨rfl, (t, d, _), rfl, ⟨hd, by show t.length ≤ 1000; omega⟩, ifP_b (fun z => ?_) (fun z => ?_)⟩
      · have z : (!okI t ((x.length : Int) - (t.length : Int)) (itemD d)) = true := z
        have : runP x t (d :: xs.drop (i + 1)) = false := by
          rw [runP]
          cases hit : itemD d with
          | none => rfl
          | some it =>
            rw [hit, okI_P] at z
            dsimp only
            rw [show okP x.length t it = false by simpa using z, Bool.false_and]
        rw [← hr, this] at h
        exact h
      · have z : (!okI t ((x.length : Int) - (t.length : Int)) (itemD d)) = false := z
        cases hit : itemD d with
        | none => rw [hit] at z; cases z
        | some it =>
          rw [hit, okI_P] at z
          have z : okP x.length t it = true := by simpa using z
          refine ⟨rfl, (t, d, it), rfl, ⟨hit, okP_G (by omega) z, by show t.length ≤ 1000; omega⟩, ?_⟩
          refine hK _ ⟨app t it, .val d, rfl, ?_, by have := (okP_len z).1; omega⟩
          rw [runP, hit] at hr
          dsimp only at hr
          rw [z, Bool.true_and] at hr
          exact hr
    · rintro ρ ⟨t, a, rfl, hr, ht⟩
      rw [List.drop_length, runP] at hr
      rw [← hr] at h
      exact h
def unpA (p : Wd × List D) : List D := [.tup p.2]
def s_unpacked : Sx := .of unpA (fun p => p.1.length ≤ 60 ∧ runG p.1.length [] p.2 = some p.1) fun p => .str p.1
theorem okG_len {n : Nat} {t : Wd} {it : It} (hn : n ≤ 1000) (h : okG n t it = true) : okG 1000 t it = true := by
  cases it with
  | lt c => rfl
  | cp i j =>
    have h : (decide (i < t.length) && (decide (0 < j) && decide (t.length + j ≤ n))) = true := h
    simp at h
    show (decide _ && (decide _ && decide _)) = true
    rw [decide_eq_true h.1, decide_eq_true (show 0 < j by omega), decide_eq_true (show t.length + j ≤ 1000 by omega)]; rfl
theorem sem_unpacked : ∀ ds R, ds.length = 1 → s_unpacked.f ds R → w_unpacked s_text_behind { nx := fun _ => R .non, rt := R } (startW 3 ds) := by
  intro ds R _ ⟨⟨x, xs⟩, hx, ⟨h1, h2⟩, h⟩
  subst hx
  have h1 : x.length ≤ 60 := h1
  have h2 : runG x.length [] xs = some x := h2
  refine forL_ind (fun i ρ => ∃ t a, ρ = [.val (.tup xs), .val (.str t), a] ∧ runG x.length t (xs.drop i) = some x) ⟨[], .un, rfl, by rw [List.drop_zero]; exact h2⟩ ?_ ?_
  · rintro i d ρ K hi ⟨t, a, rfl, hr⟩ hK
    refine ⟨_, rfl, ?_⟩
    have hl := (runG_pre hr).1
    rw [drop_get hi, runG] at hr
    cases hit : itemD d with
    | none => rw [hit] at hr; cases hr
    | some it =>
      rw [hit] at hr
      dsimp only at hr
      split at hr
      · rename_i hok
        refine ⟨rfl, (t, d, it), rfl, ⟨hit, okG_len (by omega) hok, by show t.length ≤ 1000; omega⟩, ?_⟩
        exact hK _ ⟨app t it, .val d, rfl, hr⟩
      · cases hr
  · rintro ρ ⟨t, a, rfl, hr⟩
    rw [List.drop_length, runG] at hr
    cases hr
    exact h
def fpA (p : Wd × Nat × Nat) : List D := [.str p.1, .int p.2.1, .int p.2.2]
def s_first_place : Sx := .of fpA (fun p => p.1.length ≤ 60) fun p => .int (findS p.1 ((p.1.drop p.2.1).take (p.2.2 - p.2.1)))
theorem sem_first_place : ∀ ds R, ds.length = 3 → s_first_place.f ds R → w_first_place { nx := fun _ => R .non, rt := R } (startW 3 ds) := by
  intro ds R _ ⟨⟨x, s, e⟩, hx, h1, h⟩
  subst hx
  have ec : cutL x (some (s : Int)) (some (e : Int)) = (x.drop s).take (e - s) := by
    rw [cut_lh _ (by omega) (by omega)]; rfl
  refine ⟨rfl, ?_⟩
  show R (.int (findS x (cutL x (some (s : Int)) (some (e : Int)))))
  rw [ec]
  exact h
/-- next_end's answer -/
def nE (x : Wd) (s : Nat) : Nat := if ne x s = 0 then s else ne x s
def xsA (p : Wd × Nat) : List D := [.str p.1, .int p.2]
def s_next_end : Sx := .of xsA (fun p => p.1.length ≤ 60 ∧ p.2 < p.1.length) fun p => .int (nE p.1 p.2)
theorem nE_spec {x : Wd} {s e : Nat} (hs : s ≤ e) (he : e ≤ x.length) (h : e = s ∨ std x s e = true) (hn : e < x.length → std x s (e + 1) = false) : nE x s = e := by
  unfold nE
  by_cases hz : ne x s = 0
  · rw [if_pos hz]
    rcases h with h | h
    · exact h.symm
    · by_cases hq : s < e
      · have := ne_ge hq he h; omega
      · omega
  · rw [if_neg hz]
    obtain ⟨n1, n2, n3⟩ := ne_spec hz
    have h1 : e ≤ ne x s := by
      rcases h with h | h
      · omega
      · by_cases hq : s < e
        · exact ne_ge hq he h
        · omega
    by_cases hq : e = ne x s
    · exact hq.symm
    · have := hn (by omega)
      rw [std_in n3 (Nat.le_refl _) (by omega) (by omega) n2] at this
      cases this
theorem find_std {x : Wd} {s e : Nat} (h1 : s ≤ e) (h2 : e ≤ x.length) : (findS x ((x.drop s).take (e - s)) < (s : Int)) ↔ std x s e = true := by
  rw [find_fp h1 h2, ← (fp_spec x s e).2.2.1]
  omega
theorem sem_next_end : ∀ ds R, ds.length = 2 → s_next_end.f ds R → w_next_end s_first_place { nx := fun _ => R .non, rt := R } (startW 3 ds) := by
  intro ds R _ ⟨⟨x, s⟩, hx, ⟨h1, h2⟩, h⟩
  subst hx
  have h1 : x.length ≤ 60 := h1
  have h2 : s < x.length := h2
  have h : R (.int (nE x s)) := h
  refine while_ind (fun ρ => ∃ e : Nat, ρ = [.val (.str x), .val (.int s), .val (.int e)] ∧ s ≤ e ∧ e ≤ x.length ∧ (e = s ∨ std x s e = true)) (fun ρ => match ρ with | [_, _, .val (.int e)] => ((x.length : Int) - e).toNat | _ => 0) ⟨s, rfl, Nat.le_refl _, by omega, .inl rfl⟩ ?_
  rintro ρ K ⟨e, rfl, g1, g2, g3⟩ hK
  refine ifP_b (fun z => ?_) (fun z => ifP_f ?_)
  · have z : (e : Int) < (x.length : Int) := of_decide_eq_true z
    refine ⟨rfl, (x, s, e + 1), rfl, h1, ifP_b (fun y => ?_) (fun y => ?_)⟩
    · have y : findS x ((x.drop s).take (e + 1 - s)) < (s : Int) := of_decide_eq_true y
      refine hK _ ⟨e + 1, rfl, by omega, by omega, .inr ((find_std (by omega) (by omega)).mp y)⟩ ?_
      show ((x.length : Int) - ((e : Int) + 1)).toNat < ((x.length : Int) - (e : Int)).toNat
      omega
    · have y : ¬ findS x ((x.drop s).take (e + 1 - s)) < (s : Int) := of_decide_eq_false y
      rw [nE_spec g1 g2 g3 fun _ => by
        cases hc : std x s (e + 1) with
        | false => rfl
        | true => exact absurd ((find_std (by omega) (by omega)).mpr hc) y] at h
      exact h
  · have z : ¬ (e : Int) < (x.length : Int) := of_decide_eq_false z
    rw [nE_spec g1 g2 g3 fun hh => by omega] at h
    exact h
end K57
set_option Elab.async false
set_option linter.all false
set_option autoImplicit false
set_option maxRecDepth 100000
namespace K57
open PySem PySem.Spec L2 WL

abbrev sxw (pre : Wd → Prop) (g : Wd → D) : Sx := .of (fun x => [.str x]) pre g
def startsD (x : Wd) : List D := (List.range (L x)).map fun k => .int (g x k)
def s_pack : Sx := sxw (fun x => x.length ≤ 60) fun x => .tup (dueD x)
def s_milestones : Sx := sxw (fun x => x.length ≤ 60) fun x => .tup (startsD x)
theorem L_of {x : Wd} {k : Nat} (h1 : ¬ g x k < x.length) (h2 : k ≤ L x) : k = L x := by
  have := (L_spec x).2.2 k
  omega
theorem ne_eq_zero {x : Wd} {s : Nat} : nE x s = s ↔ ne x s = 0 := by
  unfold nE
  by_cases h : ne x s = 0
  · rw [if_pos h]; exact ⟨fun _ => h, fun _ => rfl⟩
  · rw [if_neg h]
    have := (ne_spec h).1
    exact ⟨fun e => by omega, fun e => absurd e h⟩
theorem items_succ (x : Wd) (k : Nat) : (List.range (k + 1)).map (fun k => itemX x (g x k)) = (List.range k).map (fun k => itemX x (g x k)) ++ [itemX x (g x k)] := by
  rw [List.range_succ, List.map_append, List.map_singleton]
theorem starts_succ (x : Wd) (k : Nat) : (List.range (k + 1)).map (fun k => D.int (g x k)) = (List.range k).map (fun k => D.int (g x k)) ++ [.int (g x k)] := by
  rw [List.range_succ, List.map_append, List.map_singleton]
theorem sem_pack : ∀ ds R, ds.length = 1 → s_pack.f ds R → w_pack s_next_end s_first_place { nx := fun _ => R .non, rt := R } (startW 4 ds) := by
  intro ds R _ ⟨x, hx, h1, h⟩
  subst hx
  have h1 : x.length ≤ 60 := h1
  have h : R (.tup (dueD x)) := h
  refine while_ind (fun ρ => ∃ (k : Nat) (a : Slot), ρ = [.val (.str x), .own (.lst ((List.range k).map fun k => itemX x (g x k))), .val (.int (g x k)), a] ∧ k ≤ L x) (fun ρ => match ρ with | [_, _, .val (.int s), _] => ((x.length : Int) - s).toNat | _ => 0) ⟨0, .un, rfl, Nat.zero_le _⟩ ?_
  rintro ρ K ⟨k, a, rfl, hk⟩ hK
  have hgl := g_le x k
  refine ifP_b (fun z => ?_) (fun z => ?_)
  · have z : (g x k : Int) < (x.length : Int) := of_decide_eq_true z
    have hg : g x k < x.length := by omega
    have hk2 : k < L x := by
      have := (L_spec x).1
      apply Classical.byContradiction
      intro hc
      have : k = L x := by omega
      rw [this] at hg; omega
    have hgs : g x (k + 1) = nx x (g x k) := by rw [g, if_pos hg]
    have hgt := g_lt hg
    have hlen : ((List.range k).map fun k => itemX x (g x k)).length < 16777216 := by
      rw [List.length_map, List.length_range]; have := (L_spec x).2.1; omega
    refine ⟨rfl, (x, g x k), rfl, ⟨h1, hg⟩, ifP_b (fun y => ?_) (fun y => ?_)⟩
    · have y : ((nE x (g x k) : Int) == (g x k : Int)) = true := y
      rw [beq_iff_eq] at y
      have hz : ne x (g x k) = 0 := ne_eq_zero.mp (by omega)
      show match atI x (g x k : Int) with | some c => _ | none => False
      rw [atI_nat (List.getElem?_eq_getElem hg)]
      refine ⟨hlen, ?_⟩
      have e1 : itemX x (g x k) = .str [x[g x k]] := by unfold itemX; rw [if_pos hz, List.getElem?_eq_getElem hg]; rfl
      have e2 : g x (k + 1) = g x k + 1 := by rw [hgs]; unfold nx; omega
      refine hK _ ⟨k + 1, .val (.int (nE x (g x k))), ?_, by omega⟩ ?_
      · rw [items_succ, e1, e2]; rfl
      · show ((x.length : Int) - ((g x k : Int) + 1)).toNat < ((x.length : Int) - (g x k : Int)).toNat
        omega
    · have y : ((nE x (g x k) : Int) == (g x k : Int)) = false := y
      have hz : ne x (g x k) ≠ 0 := fun hc => by rw [ne_eq_zero.mpr hc] at y; simp at y
      obtain ⟨n1, n2, n3⟩ := ne_spec hz
      have hnE : nE x (g x k) = ne x (g x k) := if_neg hz
      have e1 : itemX x (g x k) = .tup [.int (findS x ((x.drop (g x k)).take (nE x (g x k) - g x k))), .int ((nE x (g x k) : Int) - (g x k : Int))] := by
        unfold itemX; rw [if_neg hz, hnE, find_fp (by omega) n2]
      have e2 : g x (k + 1) = nE x (g x k) := by rw [hgs, hnE]; unfold nx; omega
      refine ⟨rfl, (x, g x k, nE x (g x k)), rfl, h1, hlen, ?_⟩
      refine hK _ ⟨k + 1, .val (.int (nE x (g x k))), ?_, by omega⟩ ?_
      · rw [items_succ, e1, e2]; rfl
      · show ((x.length : Int) - (nE x (g x k) : Int)).toNat < ((x.length : Int) - (g x k : Int)).toNat
        omega
  · have z : ¬ (g x k : Int) < (x.length : Int) := of_decide_eq_false z
    have : k = L x := L_of (by omega) hk
    subst this
    exact h
theorem sem_milestones : ∀ ds R, ds.length = 1 → s_milestones.f ds R → w_milestones s_next_end { nx := fun _ => R .non, rt := R } (startW 3 ds) := by
  intro ds R _ ⟨x, hx, h1, h⟩
  subst hx
  have h1 : x.length ≤ 60 := h1
  have h : R (.tup (startsD x)) := h
  refine while_ind (fun ρ => ∃ k : Nat, ρ = [.val (.str x), .own (.lst ((List.range k).map fun k => .int (g x k))), .val (.int (g x k))] ∧ k ≤ L x) (fun ρ => match ρ with | [_, _, .val (.int s)] => ((x.length : Int) - s).toNat | _ => 0) ⟨0, rfl, Nat.zero_le _⟩ ?_
  rintro ρ K ⟨k, rfl, hk⟩ hK
  have hgl := g_le x k
  refine ifP_b (fun z => ?_) (fun z => ?_)
  · have z : (g x k : Int) < (x.length : Int) := of_decide_eq_true z
    have hg : g x k < x.length := by omega
    have hk2 : k < L x := by
      have := (L_spec x).1
      apply Classical.byContradiction
      intro hc
      have : k = L x := by omega
      rw [this] at hg; omega
    have hgs : g x (k + 1) = nx x (g x k) := by rw [g, if_pos hg]
    have hgt := g_lt hg
    refine ⟨?_, ⟨rfl, (x, g x k), rfl, ⟨h1, hg⟩, ?_⟩⟩
    · rw [List.length_map, List.length_range]; have := (L_spec x).2.1; omega
    have e2 : max ((g x k : Int) + 1) (nE x (g x k) : Int) = (g x (k + 1) : Int) := by
      rw [hgs]; unfold nx nE
      by_cases hz : ne x (g x k) = 0
      · rw [if_pos hz, hz]; omega
      · rw [if_neg hz]; omega
    refine hK _ ⟨k + 1, ?_, by omega⟩ ?_
    · rw [starts_succ]
      show [_, _, Slot.val (.int (max ((g x k : Int) + 1) (nE x (g x k) : Int)))] = _
      rw [e2]
    · show ((x.length : Int) - max ((g x k : Int) + 1) (nE x (g x k) : Int)).toNat < ((x.length : Int) - (g x k : Int)).toNat
      omega
  · have z : ¬ (g x k : Int) < (x.length : Int) := of_decide_eq_false z
    have : k = L x := L_of (by omega) hk
    subst this
    exact h
/-- stands it before, and where first -/
def sbA (p : Wd × Nat × Nat) : List D := [.str p.1, .int p.2.1, .int p.2.2]
def sbI (x : Wd) (s e : Nat) : Int := if std x s e then (fp x s e : Int) else -1
def s__law_stands_before : Sx := .of sbA (fun p => p.1.length ≤ 60 ∧ p.2.1 ≤ p.2.2 ∧ p.2.2 ≤ p.1.length) fun p => .int (sbI p.1 p.2.1 p.2.2)
theorem sbI_pos {x : Wd} {s e : Nat} : 0 ≤ sbI x s e ↔ std x s e = true := by
  unfold sbI
  cases h : std x s e with
  | true => rw [if_pos rfl]; exact ⟨fun _ => rfl, fun _ => by omega⟩
  | false => rw [if_neg Bool.false_ne_true]; exact ⟨fun z => by omega, fun z => by cases z⟩
theorem sem__law_stands_before : ∀ ds R, ds.length = 3 → s__law_stands_before.f ds R → w__law_stands_before { nx := fun _ => R .non, rt := R } (startW 5 ds) := by
  intro ds R _ ⟨⟨x, s, e⟩, hx, ⟨h1, h2, h3⟩, h⟩
  subst hx
  have h1 : x.length ≤ 60 := h1
  have h2 : s ≤ e := h2
  have h3 : e ≤ x.length := h3
  have h : R (.int (sbI x s e)) := h
  refine ⟨⟨by omega, by omega⟩, ?_⟩
  rw [Int.toNat_natCast]
  have ec : ∀ p : Nat, cutL x (some (0 + (p : Int))) (some (0 + (p : Int) + (e : Int) - (s : Int))) = (x.drop p).take (e - s) := by
    intro p
    rw [cut_lh _ (by omega) (by omega)]
    have e1 : ((0 : Int) + (p : Int)).toNat = p := by omega
    have e2 : (0 + (p : Int) + (e : Int) - (s : Int)).toNat - p = e - s := by omega
    rw [e1, e2]
  have ec2 : cutL x (some (s : Int)) (some (e : Int)) = (x.drop s).take (e - s) := by rw [cut_lh _ (by omega) (by omega)]; rfl
  refine lc_rngF (fun p => .int (0 + (p : Int))) (at_ x s e) (fun p hp => ⟨fun Q q => ?_, fun _ Q q => q _ rfl⟩) ?_
  · show Q (cutL x (some (0 + (p : Int))) (some (0 + (p : Int) + (e : Int) - (s : Int))) == cutL x (some (s : Int)) (some (e : Int)))
    rw [ec, ec2]
    exact q
  · have hfd := List.head?_filter (l := List.range s) (p := at_ x s e)
    cases hf : (List.range s).filter (at_ x s e) with
    | nil =>
      rw [hf] at hfd
      have hs : std x s e = false := by
        cases hc : std x s e with
        | false => rfl
        | true =>
          obtain ⟨p, hp1, hp2⟩ := std_iff.mp hc
          have : p ∈ (List.range s).filter (at_ x s e) := List.mem_filter.mpr ⟨List.mem_range.mpr hp1, hp2⟩
          rw [hf] at this; cases this
      have e1 : sbI x s e = -1 := by unfold sbI; rw [hs, if_neg Bool.false_ne_true]
      rw [e1] at h
      exact ifP_f h
    | cons p l =>
      rw [hf] at hfd
      have hs : std x s e = true := by
        have : p ∈ (List.range s).filter (at_ x s e) := by rw [hf]; exact List.mem_cons_self
        obtain ⟨a1, a2⟩ := List.mem_filter.mp this
        exact std_iff.mpr ⟨p, List.mem_range.mp a1, a2⟩
      have e1 : sbI x s e = (p : Int) := by
        unfold sbI fp
        rw [hs, if_pos rfl, ← hfd]; rfl
      rw [e1] at h
      refine ifP_b (fun _ => ?_) (fun z => ?_)
      · show match atI ((p :: l).map fun p : Nat => D.int (0 + (p : Int))) ((0 : Nat) : Int) with | some v => _ | none => False
        rw [atI_nat (v := D.int (0 + (p : Int))) rfl, Int.zero_add]
        exact h
      · have z : ¬ (0 : Int) < ((((p :: l).map fun p : Nat => D.int (0 + (p : Int))).length : Nat) : Int) := of_decide_eq_false z
        rw [List.length_map, List.length_cons] at z
        omega
end K57
set_option Elab.async false
set_option linter.all false
set_option autoImplicit false
set_option maxRecDepth 100000
namespace K57
open PySem PySem.Spec L2 WL

/-! ### milestones told -/
def valN : D → Nat
  | .int i => i.toNat
  | _ => 0
theorem whD_int {d : D} (h : whD d = true) : d = .int (valN d : Nat) := by
  cases d with
  | int i =>
    have : 0 ≤ i := of_decide_eq_true h
    show D.int i = .int (i.toNat : Nat)
    rw [Int.toNat_of_nonneg this]
  | _ => cases h
theorem whole_nats : ∀ {ds : List D}, ds.all whD = true → ds = (ds.map valN).map fun n : Nat => D.int n
  | [], _ => rfl
  | d :: ds, h => by
    rw [List.all_cons, Bool.and_eq_true] at h
    rw [List.map_cons, List.map_cons, ← whole_nats h.2, ← whD_int h.1]
def nth (ns : List Nat) (k : Nat) : Nat := ns[k]?.getD 0
/-- as the program says it -/
def milN (x : Wd) (ns : List Nat) : Bool := (nth ns 0 == 0) && (decide (nth ns (ns.length - 1) < x.length) && (List.range (ns.length - 1)).all fun k => decide (nth ns k < nth ns (k + 1)) && !decide (findS x ((x.drop (nth ns k)).take (nth ns (k + 1) + 1 - nth ns k)) < (nth ns k : Int)))
/-- as the law says it -/
def milG (x : Wd) (ns : List Nat) : Bool := ns.all (fun a => decide (a < x.length)) && ((nth ns 0 == 0) && (List.range (ns.length - 1)).all fun k => decide (nth ns k < nth ns (k + 1)) && decide (sbI x (nth ns k) (nth ns (k + 1) + 1) < 0))
theorem nth_eq {ns : List Nat} {k : Nat} (h : k < ns.length) : ns[k]? = some (nth ns k) := by unfold nth; rw [List.getElem?_eq_getElem h]; rfl
theorem cond_eq {x : Wd} {s e : Nat} (h1 : s ≤ e) (h2 : e ≤ x.length) : (!decide (findS x ((x.drop s).take (e - s)) < (s : Int))) = decide (sbI x s e < 0) := by
  rw [Bool.eq_iff_iff, decide_eq_true_iff, Bool.not_eq_true', decide_eq_false_iff_not, find_std h1 h2, ← sbI_pos]
  omega
theorem mil_eq {x : Wd} {ns : List Nat} (hne : ns ≠ []) : milN x ns = milG x ns := by
  have hpos : 0 < ns.length := List.length_pos_iff.mpr hne
  by_cases hn : ∀ a ∈ ns, a < x.length
  · have e1 : ns.all (fun a => decide (a < x.length)) = true := List.all_eq_true.mpr fun a ha => decide_eq_true (hn a ha)
    unfold milN milG
    rw [e1, Bool.true_and, decide_eq_true (hn _ (List.mem_of_getElem? (nth_eq (ns := ns) (k := ns.length - 1) (by omega)))), Bool.true_and]
    congr 1
    rw [Bool.eq_iff_iff, List.all_eq_true, List.all_eq_true]
    constructor
    · intro h k hk
      have hk' := List.mem_range.mp hk
      have h3 := h k hk
      rw [Bool.and_eq_true] at h3 ⊢
      have hlt := of_decide_eq_true h3.1
      have hb := hn _ (List.mem_of_getElem? (nth_eq (ns := ns) (k := k + 1) (by omega)))
      exact ⟨h3.1, by rw [← cond_eq (by omega) (by omega)]; exact h3.2⟩
    · intro h k hk
      have hk' := List.mem_range.mp hk
      have h3 := h k hk
      rw [Bool.and_eq_true] at h3 ⊢
      have hlt := of_decide_eq_true h3.1
      have hb := hn _ (List.mem_of_getElem? (nth_eq (ns := ns) (k := k + 1) (by omega)))
      exact ⟨h3.1, by rw [cond_eq (by omega) (by omega)]; exact h3.2⟩
  · have e1 : ns.all (fun a => decide (a < x.length)) = false := by
      rw [Bool.eq_false_iff]
      intro h
      exact hn fun a ha => of_decide_eq_true (List.all_eq_true.mp h a ha)
    unfold milG
    rw [e1, Bool.false_and]
    cases hm : milN x ns with
    | false => rfl
    | true =>
      exfalso
      unfold milN at hm
      rw [Bool.and_eq_true, Bool.and_eq_true] at hm
      obtain ⟨_, h2, h3⟩ := hm
      have h2 := of_decide_eq_true h2
      have up : ∀ j, j < ns.length → nth ns (ns.length - 1 - j) < x.length := by
        intro j
        induction j with
        | zero => intro _; exact h2
        | succ j ih =>
          intro hj
          have h4 := ih (by omega)
          have h5 := List.all_eq_true.mp h3 (ns.length - 1 - (j + 1)) (List.mem_range.mpr (by omega))
          rw [Bool.and_eq_true] at h5
          have h6 := of_decide_eq_true h5.1
          rw [show ns.length - 1 - (j + 1) + 1 = ns.length - 1 - j by omega] at h6
          omega
      refine hn fun a ha => ?_
      obtain ⟨k, hk⟩ := List.mem_iff_getElem?.mp ha
      have hkl := (List.getElem?_eq_some_iff.mp hk).1
      have := up (ns.length - 1 - k) (by omega)
      rw [show ns.length - 1 - (ns.length - 1 - k) = k by omega] at this
      rw [nth_eq hkl] at hk
      cases hk
      exact this
def milP (x : Wd) : D → Bool
  | .tup ds => !ds.isEmpty && (ds.all whD && milN x (ds.map valN))
  | _ => false
def s_are_milestones : Sx := .of xvA (fun p => p.1.length ≤ 60 ∧ pvN BW 50 p.2 = true) fun p => .bl (milP p.1 p.2)
def s__law_miles : Sx := .of xvA (fun p => p.1.length ≤ 60 ∧ pvN BW 50 p.2 = true) fun p => .bl (milP p.1 p.2)
theorem boolsAll {ds : List D} (f : D → Bool) : (ds.map f).all (fun b => b) = ds.all f := by rw [List.all_map]; rfl
theorem peqL_nil (ds : List D) : peqL ds [] = ds.isEmpty := by cases ds <;> rfl
theorem at_nat {ns : List Nat} {k : Nat} (h : k < ns.length) : atI (ns.map fun n : Nat => D.int n) (k : Int) = some (.int (nth ns k : Nat)) :=
  atI_nat (by rw [List.getElem?_map, nth_eq h]; rfl)
theorem at_natI {ns : List Nat} {i : Int} {k : Nat} (hi : i = (k : Int)) (h : k < ns.length) : atI (ns.map fun n : Nat => D.int n) i = some (.int (nth ns k : Nat)) := by rw [hi]; exact at_nat h
theorem at_lastN {ns : List Nat} (h : ns ≠ []) : atI (ns.map fun n : Nat => D.int n) (-1) = some (.int (nth ns (ns.length - 1) : Nat)) := by
  refine atI_last ?_
  have hpos : 0 < ns.length := List.length_pos_iff.mpr h
  rw [List.getLast?_eq_getElem?, List.length_map, List.getElem?_map, nth_eq (by omega)]; rfl
theorem sem_are_milestones : ∀ ds R, ds.length = 2 → s_are_milestones.f ds R → w_are_milestones s_is_whole s_first_place { nx := fun _ => R .non, rt := R } (startW 4 ds) := by
  intro ds R _ ⟨⟨x, v⟩, hx, ⟨h1, h2⟩, h⟩
  subst hx
  have h1 : x.length ≤ 60 := h1
  have h2 : pvN BW 50 v = true := h2
  have h : R (.bl (milP x v)) := h
  cases v with
  | box => simp [pvN] at h2
  | dct _ _ => simp [pvN] at h2
  | lst _ => simp [pvN] at h2
  | non => exact ifP_t (ifP_t h)
  | bl b => exact ifP_t (ifP_t h)
  | int i => exact ifP_t (ifP_t h)
  | str y => exact ifP_t (ifP_t h)
  | tup xs =>
    obtain ⟨m, hm, hl, hxs⟩ := pv_tup' h2
    have hl : xs.length ≤ 300000 := hl
    have hsh : shpN 64 (.tup xs) = true := pv_shp 50 64 _ (by omega) h2
    refine ifP_f ?_
    show match shpN 64 (.tup xs) && shpN 64 (.tup []) with | true => _ | false => False
    rw [hsh]
    refine ifP_b (fun z => ?_) (fun z => ?_)
    · have z : peqL xs [] = true := z
      rw [peqL_nil] at z
      have : milP x (.tup xs) = false := by show (!xs.isEmpty && _) = false; rw [z]; rfl
      rw [this] at h
      exact ifP_t h
    · have z : peqL xs [] = false := z
      rw [peqL_nil] at z
      refine lc_list (fun d => .bl (whD d)) (fun d hd => ⟨_, rfl, fun Q hQ => ⟨rfl, d, rfl, pv_noBox (hxs d hd), hQ _ rfl⟩⟩) ?_
      show match boolsOf (xs.map fun d => D.bl (whD d)) with | some ns => _ | none => False
      rw [boolsOf_map whD xs]
      refine ifP_b (fun y => ?_) (fun y => ?_)
      · have y : (!((xs.map whD).all fun b => b)) = true := y
        rw [boolsAll] at y
        have : milP x (.tup xs) = false := by show (!xs.isEmpty && (xs.all whD && _)) = false; rw [z, show xs.all whD = false by simpa using y]; rfl
        rw [this] at h
        exact h
      · have y : (!((xs.map whD).all fun b => b)) = false := y
        rw [boolsAll] at y
        have y : xs.all whD = true := by simpa using y
        have h : R (.bl (milN x (xs.map valN))) := by
          have : milP x (.tup xs) = milN x (xs.map valN) := by show (!xs.isEmpty && (xs.all whD && _)) = _; rw [z, y]; rfl
          rw [this] at h; exact h
        have hne : xs.map valN ≠ [] := by
          cases xs with
          | nil => cases z
          | cons a l => exact fun e => by cases e
        have hxl : xs.length = (xs.map valN).length := (List.length_map valN).symm
        rw [whole_nats y]
        generalize xs.map valN = ns at h hne hxl
        have hpos : 0 < ns.length := List.length_pos_iff.mpr hne
        show match atI (ns.map fun n : Nat => D.int n) ((0 : Nat) : Int) with | some v => _ | none => False
        rw [at_nat hpos]
        refine ifP_b (fun y0 => ?_) (fun y0 => ?_)
        · have y0 : (!((nth ns 0 : Int) == 0)) = true := y0
          have : milN x ns = false := by
            unfold milN
            have : (nth ns 0 == 0) = false := by simp at y0 ⊢; omega
            rw [this, Bool.false_and]
          rw [this] at h
          exact ifP_t h
        have y0 : (!((nth ns 0 : Int) == 0)) = false := y0
        have e0 : (nth ns 0 == 0) = true := by simp at y0 ⊢; omega
        show match atI (ns.map fun n : Nat => D.int n) (-1) with | some v => _ | none => False
        rw [at_lastN hne]
        refine ifP_b (fun y1 => ?_) (fun y1 => ?_)
        · have y1 : (x.length : Int) ≤ (nth ns (ns.length - 1) : Int) := of_decide_eq_true y1
          have : milN x ns = false := by unfold milN; rw [e0, Bool.true_and, decide_eq_false (by omega), Bool.false_and]
          rw [this] at h
          exact h
        have y1 : ¬ (x.length : Int) ≤ (nth ns (ns.length - 1) : Int) := of_decide_eq_false y1
        have h : R (.bl ((List.range (ns.length - 1)).all fun k => decide (nth ns k < nth ns (k + 1)) && !decide (findS x ((x.drop (nth ns k)).take (nth ns (k + 1) + 1 - nth ns k)) < (nth ns k : Int)))) := by
          unfold milN at h
          rw [e0, Bool.true_and, decide_eq_true (show nth ns (ns.length - 1) < x.length by omega), Bool.true_and] at h
          exact h
        have hml : ((ns.map fun n : Nat => D.int n).length : Int) = (ns.length : Int) := by rw [List.length_map]
        have en : (((ns.map fun n : Nat => D.int n).length : Int) - 1).toNat = ns.length - 1 := by omega
        show rOk (((ns.map fun n : Nat => D.int n).length : Int) - 1) ∧ wForL _ _ _ (rngL 0 (((ns.map fun n : Nat => D.int n).length : Int) - 1).toNat) _
        rw [en]
        refine ⟨⟨by omega, by omega⟩, ?_⟩
        refine forR (fun i ρ => (∃ a, ρ = [.val (.str x), .val (.tup (ns.map fun n : Nat => D.int n)), a, .un]) ∧ (List.range i).all (fun k => decide (nth ns k < nth ns (k + 1)) && !decide (findS x ((x.drop (nth ns k)).take (nth ns (k + 1) + 1 - nth ns k)) < (nth ns k : Int))) = true) ⟨⟨_, rfl⟩, rfl⟩ ?_ ?_
        · rintro i ρ K hi ⟨⟨a, rfl⟩, hall⟩ hK
          have no : (decide (nth ns i < nth ns (i + 1)) && !decide (findS x ((x.drop (nth ns i)).take (nth ns (i + 1) + 1 - nth ns i)) < (nth ns i : Int))) = false → R (.bl false) := by
            intro hf
            have : ((List.range (ns.length - 1)).all fun k => decide (nth ns k < nth ns (k + 1)) && !decide (findS x ((x.drop (nth ns k)).take (nth ns (k + 1) + 1 - nth ns k)) < (nth ns k : Int))) = false := by
              rw [Bool.eq_false_iff]
              intro hc
              have := List.all_eq_true.mp hc i (List.mem_range.mpr hi)
              rw [hf] at this; cases this
            rw [this] at h
            exact h
          show match atI (ns.map fun n : Nat => D.int n) (0 + (i : Int)) with | some v => _ | none => False
          rw [at_natI (k := i) (by omega) (by omega)]
          show match atI (ns.map fun n : Nat => D.int n) (0 + (i : Int) + 1) with | some v => _ | none => False
          rw [at_natI (k := i + 1) (by omega) (by omega)]
          refine ifP_b (fun c1 => ifP_t (no ?_)) (fun c1 => ?_)
          · have c1 : (nth ns (i + 1) : Int) ≤ (nth ns i : Int) := of_decide_eq_true c1
            rw [decide_eq_false (by omega), Bool.false_and]
          have c1 : ¬ (nth ns (i + 1) : Int) ≤ (nth ns i : Int) := of_decide_eq_false c1
          show match atI (ns.map fun n : Nat => D.int n) (0 + (i : Int)) with | some v => _ | none => False
          rw [at_natI (k := i) (by omega) (by omega)]
          show match atI (ns.map fun n : Nat => D.int n) (0 + (i : Int) + 1) with | some v => _ | none => False
          rw [at_natI (k := i + 1) (by omega) (by omega)]
          refine ⟨rfl, (x, nth ns i, nth ns (i + 1) + 1), rfl, h1, ?_⟩
          show match atI (ns.map fun n : Nat => D.int n) (0 + (i : Int)) with | some v => _ | none => False
          rw [at_natI (k := i) (by omega) (by omega)]
          refine ifP_b (fun c2 => no ?_) (fun c2 => ?_)
          · have c2 : decide (findS x ((x.drop (nth ns i)).take (nth ns (i + 1) + 1 - nth ns i)) < (nth ns i : Int)) = true := c2
            rw [c2, Bool.not_true, Bool.and_false]
          · have c2 : decide (findS x ((x.drop (nth ns i)).take (nth ns (i + 1) + 1 - nth ns i)) < (nth ns i : Int)) = false := c2
            refine hK _ ⟨⟨_, rfl⟩, ?_⟩
            rw [List.range_succ, List.all_append, hall, Bool.true_and, List.all_cons, c2, decide_eq_true (by omega)]; rfl
        · rintro ρ ⟨⟨a, rfl⟩, hall⟩
          rw [hall] at h
          exact h
end K57
set_option Elab.async false
set_option linter.all false
set_option autoImplicit false
set_option maxRecDepth 100000
namespace K57
open PySem PySem.Spec L2 WL

theorem sem__law_miles : ∀ ds R, ds.length = 2 → s__law_miles.f ds R → w__law_miles s__law_whole s__law_stands_before { nx := fun _ => R .non, rt := R } (startW 4 ds) := by
  intro ds R _ ⟨⟨x, v⟩, hx, ⟨h1, h2⟩, h⟩
  subst hx
  have h1 : x.length ≤ 60 := h1
  have h2 : pvN BW 50 v = true := h2
  have h : R (.bl (milP x v)) := h
  cases v with
  | box => simp [pvN] at h2
  | dct _ _ => simp [pvN] at h2
  | lst _ => simp [pvN] at h2
  | non => exact ifP_t (ifP_t h)
  | bl b => exact ifP_t (ifP_t h)
  | int i => exact ifP_t (ifP_t h)
  | str y => exact ifP_t (ifP_t h)
  | tup xs =>
    obtain ⟨m, hm, hl, hxs⟩ := pv_tup' h2
    have hl : xs.length ≤ 300000 := hl
    refine ifP_f (ifP_b (fun z => ?_) (fun z => ?_))
    · have z : ((xs.length : Int) == 0) = true := z
      have z : xs = [] := by rw [beq_iff_eq] at z; exact List.eq_nil_of_length_eq_zero (by omega)
      subst z
      exact ifP_t h
    · have z : ((xs.length : Int) == 0) = false := z
      have hne0 : xs ≠ [] := fun e => by rw [e] at z; cases z
      have hie : xs.isEmpty = false := by cases xs with | nil => exact absurd rfl hne0 | cons a l => rfl
      refine lc_list (fun d => .bl (whD d && decide (valN d < x.length))) (fun d hd => ⟨_, rfl, fun Q hQ => ⟨rfl, d, rfl, pv_noBox (hxs d hd), ifP_b (fun y => ?_) (fun y => ?_)⟩⟩) ?_
      · have y : whD d = true := y
        have e1 := whD_int y
        have e2 : decide ((valN d : Int) < (x.length : Int)) = decide (valN d < x.length) := by rw [Bool.eq_iff_iff, decide_eq_true_iff, decide_eq_true_iff]; omega
        have hQ2 := hQ (.val (.bl (decide ((valN d : Int) < (x.length : Int))))) (by rw [y, Bool.true_and, e2])
        clear hQ
        generalize valN d = n at e1 hQ2
        subst e1
        exact hQ2
      · have y : whD d = false := y
        exact hQ _ (by rw [y, Bool.false_and])
      show match boolsOf (xs.map fun d => D.bl (whD d && decide (valN d < x.length))) with | some ns => _ | none => False
      rw [boolsOf_map (fun d => whD d && decide (valN d < x.length)) xs]
      refine ifP_b (fun y => ?_) (fun y => ?_)
      · have y : (!((xs.map fun d => whD d && decide (valN d < x.length)).all fun b => b)) = true := y
        rw [boolsAll] at y
        have hf : xs.all (fun d => whD d && decide (valN d < x.length)) = false := by simpa using y
        have : milP x (.tup xs) = false := by
          show (!xs.isEmpty && (xs.all whD && milN x (xs.map valN))) = false
          rw [hie]
          cases hw : xs.all whD with
          | false => rfl
          | true =>
            have : milG x (xs.map valN) = false := by
              unfold milG
              have : (xs.map valN).all (fun a => decide (a < x.length)) = false := by
                rw [List.all_map]
                rw [Bool.eq_false_iff] at hf ⊢
                intro hc
                apply hf
                rw [List.all_eq_true] at hc hw ⊢
                intro d hd
                rw [hw d hd, Bool.true_and]
                exact hc d hd
              rw [this, Bool.false_and]
            rw [mil_eq (by simpa using hne0), this]; rfl
        rw [this] at h
        exact ifP_t h
      · have y : (!((xs.map fun d => whD d && decide (valN d < x.length)).all fun b => b)) = false := y
        rw [boolsAll] at y
        have y : xs.all (fun d => whD d && decide (valN d < x.length)) = true := by simpa using y
        have hw : xs.all whD = true := by
          rw [List.all_eq_true] at y ⊢
          intro d hd
          have := y d hd
          rw [Bool.and_eq_true] at this
          exact this.1
        have hlt : ∀ a ∈ xs.map valN, a < x.length := by
          intro a ha
          obtain ⟨d, hd, rfl⟩ := List.mem_map.mp ha
          have := List.all_eq_true.mp y d hd
          rw [Bool.and_eq_true] at this
          exact of_decide_eq_true this.2
        have h : R (.bl (milG x (xs.map valN))) := by
          have : milP x (.tup xs) = milG x (xs.map valN) := by
            show (!xs.isEmpty && (xs.all whD && milN x (xs.map valN))) = _
            rw [hie, hw, mil_eq (by simpa using hne0)]; rfl
          rw [this] at h; exact h
        have hne : xs.map valN ≠ [] := by simpa using hne0
        have hxl : xs.length = (xs.map valN).length := (List.length_map valN).symm
        rw [whole_nats hw]
        generalize xs.map valN = ns at h hne hlt hxl
        have hpos : 0 < ns.length := List.length_pos_iff.mpr hne
        have eall : ns.all (fun a => decide (a < x.length)) = true := List.all_eq_true.mpr fun a ha => decide_eq_true (hlt a ha)
        show match atI (ns.map fun n : Nat => D.int n) ((0 : Nat) : Int) with | some v => _ | none => False
        rw [at_nat hpos]
        refine ifP_b (fun y0 => ?_) (fun y0 => ?_)
        · have y0 : (!((nth ns 0 : Int) == 0)) = true := y0
          have : milG x ns = false := by
            unfold milG
            have : (nth ns 0 == 0) = false := by simp at y0 ⊢; omega
            rw [this, Bool.false_and, Bool.and_false]
          rw [this] at h
          exact h
        have y0 : (!((nth ns 0 : Int) == 0)) = false := y0
        have e0 : (nth ns 0 == 0) = true := by simp at y0 ⊢; omega
        have h : R (.bl ((List.range (ns.length - 1)).all fun k => decide (nth ns k < nth ns (k + 1)) && decide (sbI x (nth ns k) (nth ns (k + 1) + 1) < 0))) := by
          unfold milG at h
          rw [eall, e0, Bool.true_and, Bool.true_and] at h
          exact h
        have hml : ((ns.map fun n : Nat => D.int n).length : Int) = (ns.length : Int) := by rw [List.length_map]
        have en : (((ns.map fun n : Nat => D.int n).length : Int) - 1).toNat = ns.length - 1 := by omega
        show rOk (((ns.map fun n : Nat => D.int n).length : Int) - 1) ∧ wLcL _ _ _ _ (rngL 0 (((ns.map fun n : Nat => D.int n).length : Int) - 1).toNat) [] _
        rw [en]
        refine ⟨⟨by omega, by omega⟩, ?_⟩
        refine lc_rng (fun i => .bl (decide (nth ns i < nth ns (i + 1)) && decide (sbI x (nth ns i) (nth ns (i + 1) + 1) < 0))) (fun i hi Q hQ => ?_) ?_
        · show match atI (ns.map fun n : Nat => D.int n) (0 + (i : Int)) with | some v => _ | none => False
          rw [at_natI (k := i) (by omega) (by omega)]
          show match atI (ns.map fun n : Nat => D.int n) (0 + (i : Int) + 1) with | some v => _ | none => False
          rw [at_natI (k := i + 1) (by omega) (by omega)]
          refine ifP_b (fun c1 => ?_) (fun c1 => ?_)
          · have c1 : (nth ns i : Int) < (nth ns (i + 1) : Int) := of_decide_eq_true c1
            show match atI (ns.map fun n : Nat => D.int n) (0 + (i : Int)) with | some v => _ | none => False
            rw [at_natI (k := i) (by omega) (by omega)]
            show match atI (ns.map fun n : Nat => D.int n) (0 + (i : Int) + 1) with | some v => _ | none => False
            rw [at_natI (k := i + 1) (by omega) (by omega)]
            have hb := hlt _ (List.mem_of_getElem? (nth_eq (ns := ns) (k := i + 1) (by omega)))
            refine ⟨rfl, (x, nth ns i, nth ns (i + 1) + 1), rfl, ⟨h1, by show nth ns i ≤ nth ns (i + 1) + 1; omega, by show nth ns (i + 1) + 1 ≤ x.length; omega⟩, ?_⟩
            exact hQ _ (by rw [decide_eq_true (show nth ns i < nth ns (i + 1) by omega), Bool.true_and])
          · have c1 : ¬ (nth ns i : Int) < (nth ns (i + 1) : Int) := of_decide_eq_false c1
            exact hQ _ (by rw [decide_eq_false (show ¬ nth ns i < nth ns (i + 1) by omega), Bool.false_and])
        · show match boolsOf ((List.range (ns.length - 1)).map fun i => D.bl (decide (nth ns i < nth ns (i + 1)) && decide (sbI x (nth ns i) (nth ns (i + 1) + 1) < 0))) with | some ns => _ | none => False
          rw [boolsOf_map (fun i => decide (nth ns i < nth ns (i + 1)) && decide (sbI x (nth ns i) (nth ns (i + 1) + 1) < 0)) (List.range (ns.length - 1))]
          show R (.bl (((List.range (ns.length - 1)).map fun i => decide (nth ns i < nth ns (i + 1)) && decide (sbI x (nth ns i) (nth ns (i + 1) + 1) < 0)).all fun b => b))
          rw [List.all_map]
          exact h
/-! ### the packing told -/
def optS : Option Wd → D
  | some u => .str u
  | none => .non
def givG (x : Wd) : D → D
  | .tup ds => optS (runG x.length [] ds)
  | _ => .non
def s__law_given : Sx := .of xvA (fun p => p.1.length ≤ 60 ∧ pvN BW 50 p.2 = true) fun p => givG p.1 p.2
theorem sem__law_given : ∀ ds R, ds.length = 2 → s__law_given.f ds R → w__law_given s_letters s__law_whole { nx := fun _ => R .non, rt := R } (startW 5 ds) := by
  intro ds R _ ⟨⟨x, v⟩, hx, ⟨h1, h2⟩, h⟩
  subst hx
  have h1 : x.length ≤ 60 := h1
  have h2 : pvN BW 50 v = true := h2
  have h : R (givG x v) := h
  cases v with
  | box => simp [pvN] at h2
  | dct _ _ => simp [pvN] at h2
  | lst _ => simp [pvN] at h2
  | non => exact ifP_t h
  | bl b => exact ifP_t h
  | int i => exact ifP_t h
  | str y => exact ifP_t h
  | tup xs =>
    obtain ⟨m, hm, hl, hxs⟩ := pv_tup' h2
    have hl : xs.length ≤ 300000 := hl
    have h : R (optS (runG x.length [] xs)) := h
    refine ifP_f ?_
    refine forL_ind (fun i ρ => ∃ t a b, ρ = [.val (.str x), .val (.tup xs), .val (.str t), a, b] ∧ runG x.length t (xs.drop i) = runG x.length [] xs ∧ t.length ≤ 60 + i) ⟨[], .un, .un, rfl, by rw [List.drop_zero], by show 0 ≤ 60 + 0; omega⟩ ?_ ?_
    · rintro i d ρ K hi ⟨t, a, b, rfl, hr, ht⟩ hK
      refine ⟨_, rfl, ?_⟩
      have hil := (List.getElem?_eq_some_iff.mp hi).1
      have hd : pvN BW 50 d = true := pvN_mono (Nat.le_refl _) m d (by omega) (hxs d (List.mem_of_getElem? hi))
      rw [drop_get hi] at hr
      have no : itemD d = none → R .non := by
        intro hn
        rw [runG, hn] at hr
        rw [← hr] at h
        exact h
      cases d with
      | box => simp [pvN] at hd
      | dct _ _ => simp [pvN] at hd
      | lst _ => simp [pvN] at hd
      | non => exact ifP_f (ifP_f (ifP_f (no rfl)))
      | bl b => exact ifP_f (ifP_f (ifP_f (no rfl)))
      | int i => exact ifP_f (ifP_f (ifP_f (no rfl)))
      | str y =>
        refine ifP_t (ifP_b (fun z => ifP_t (no ?_)) (fun z => ⟨rfl, (), rfl, trivial, ifP_b (fun y2 => no ?_) (fun y2 => ?_)⟩))
        · have z : (!((y.length : Int) == 1)) = true := z
          have hy : y.length ≠ 1 := fun e => by rw [e] at z; cases z
          match y, hy with
          | [], _ => rfl
          | [_], hy => exact absurd rfl hy
          | _ :: _ :: _, _ => rfl
        · have z : (!((y.length : Int) == 1)) = false := z
          have hy : y.length = 1 := by simp at z; omega
          obtain ⟨c, rfl⟩ : ∃ c, y = [c] := by
            match y, hy with
            | [c], _ => exact ⟨c, rfl⟩
          have y2 : (true != inS [c] LET) = true := y2
          rw [tne, inS_LET] at y2
          have y2 : ¬ (97 ≤ c ∧ c ≤ 122) := fun hc => by rw [decide_eq_true hc] at y2; cases y2
          exact if_neg y2
        · have z : (!((y.length : Int) == 1)) = false := z
          have hy : y.length = 1 := by simp at z; omega
          obtain ⟨c, rfl⟩ : ∃ c, y = [c] := by
            match y, hy with
            | [c], _ => exact ⟨c, rfl⟩
          have y2 : (true != inS [c] LET) = false := y2
          rw [tne, inS_LET] at y2
          have hc : 97 ≤ c ∧ c ≤ 122 := by simpa using y2
          have e : itemD (.str [c]) = some (.lt c) := if_pos hc
          refine ⟨by show t.length + 1 ≤ _; omega, hK _ ⟨t ++ [c], .val (.str [c]), b, rfl, ?_, by rw [List.length_append]; show t.length + 1 ≤ _; omega⟩⟩
          rw [runG, e] at hr
          exact hr
      | tup ys =>
        have two : ∀ a b : D, ys = [a, b] → (whD a = false ∨ whD b = false) → itemD (.tup ys) = none := by
          intro a b e hn
          subst e
          cases hi : itemD (.tup [a, b]) with
          | none => rfl
          | some it =>
            cases it with
            | lt c => have := (itemD_lt hi).1; cases this
            | cp i j =>
              have := itemD_cp hi
              injection this with this
              injection this with e1 e2
              injection e2 with e2 _
              subst e1 e2
              rcases hn with hn | hn
              · have : ¬ (0 : Int) ≤ (i : Int) := of_decide_eq_false hn
                omega
              · have : ¬ (0 : Int) ≤ (j : Int) := of_decide_eq_false hn
                omega
        refine ifP_f (ifP_t (ifP_b (fun z => ?_) (fun z => ifP_f (no ?_))))
        · have z : ((ys.length : Int) == 2) = true := z
          have hy : ys.length = 2 := by rw [beq_iff_eq] at z; omega
          obtain ⟨c, d, rfl⟩ : ∃ c d, ys = [c, d] := by
            match ys, hy with
            | [c, d], _ => exact ⟨c, d, rfl⟩
          obtain ⟨m2, _, _, hys⟩ := pv_tup' hd
          have hc := pv_noBox (hys c (by simp))
          have hdd := pv_noBox (hys d (by simp))
          refine ⟨rfl, c, rfl, hc, ifP_b (fun wc => ⟨rfl, d, rfl, hdd, ifP_b (fun wd => ?_) (fun wd => ifP_f (no (two c d rfl (.inr wd))))⟩) (fun wc => ifP_f (no (two c d rfl (.inl wc))))⟩
          obtain ⟨p, rfl⟩ : ∃ p : Nat, c = .int p := ⟨_, whD_int wc⟩
          obtain ⟨q, rfl⟩ : ∃ q : Nat, d = .int q := ⟨_, whD_int wd⟩
          have e : itemD (.tup [.int p, .int q]) = some (.cp p q) := by
            have : (0 : Int) ≤ (p : Int) ∧ (0 : Int) ≤ (q : Int) := ⟨by omega, by omega⟩
            show (if 0 ≤ (p : Int) ∧ 0 ≤ (q : Int) then some (It.cp (p : Int).toNat (q : Int).toNat) else none) = _
            rw [if_pos this]; rfl
          have bad : okG x.length t (.cp p q) = false → R .non := by
            intro hb
            rw [runG, e] at hr
            dsimp only at hr
            rw [hb, if_neg Bool.false_ne_true] at hr
            rw [← hr] at h
            exact h
          refine ifP_b (fun c1 => ifP_b (fun c2 => ifP_b (fun c3 => ?_) (fun c3 => bad ?_)) (fun c2 => ifP_f (bad ?_))) (fun c1 => ifP_f (bad ?_))
          · have c1 : (p : Int) < (t.length : Int) := of_decide_eq_true c1
            have c2 : (0 : Int) < (q : Int) := of_decide_eq_true c2
            have c3 : (t.length : Int) + (q : Int) ≤ (x.length : Int) := of_decide_eq_true c3
            have hok : okG x.length t (.cp p q) = true := by
              show (decide _ && (decide _ && decide _)) = true
              rw [decide_eq_true (show p < t.length by omega), decide_eq_true (show 0 < q by omega), decide_eq_true (show t.length + q ≤ x.length by omega)]; rfl
            rw [runG, e] at hr
            dsimp only at hr
            rw [if_pos hok] at hr
            refine ⟨⟨by omega, by omega⟩, ?_⟩
            rw [Int.toNat_natCast]
            refine forR (fun k ρ => ∃ b, ρ = [.val (.str x), .val (.tup xs), .val (.str (copyN t p k)), .val (.tup [.int p, .int q]), b]) ⟨_, rfl⟩ ?_ ?_
            · rintro k ρ K' hk ⟨b, rfl⟩ hK'
              have hl := copyN_len (t := t) (i := p) k
              have e2 : atI (copyN t p k) ((p : Int) + (0 + (k : Int))) = some ((copyN t p k)[p + k]'(by omega)) := atI_i (by omega) (by
                rw [show ((p : Int) + (0 + (k : Int))).toNat = p + k by omega]; exact List.getElem?_eq_getElem (by omega))
              show match atI (copyN t p k) ((p : Int) + (0 + (k : Int))) with | some c => _ | none => False
              rw [e2]
              refine ⟨by show (copyN t p k).length + 1 ≤ _; omega, hK' _ ⟨.val (.int (0 + (k : Int))), ?_⟩⟩
              rw [copyN, List.getElem?_eq_getElem (by omega)]
              rfl
            · rintro ρ ⟨b, rfl⟩
              exact hK _ ⟨copyN t p q, _, b, rfl, hr, by rw [copyN_len]; omega⟩
          · have c3 : ¬ (t.length : Int) + (q : Int) ≤ (x.length : Int) := of_decide_eq_false c3
            show (decide _ && (decide _ && decide _)) = false
            rw [decide_eq_false (show ¬ t.length + q ≤ x.length by omega), Bool.and_false, Bool.and_false]
          · have c2 : ¬ (0 : Int) < (q : Int) := of_decide_eq_false c2
            show (decide _ && (decide _ && decide _)) = false
            rw [decide_eq_false (show ¬ 0 < q by omega), Bool.false_and, Bool.and_false]
          · have c1 : ¬ (p : Int) < (t.length : Int) := of_decide_eq_false c1
            show (decide _ && (decide _ && decide _)) = false
            rw [decide_eq_false (show ¬ p < t.length by omega), Bool.false_and]
        · have z : ((ys.length : Int) == 2) = false := z
          cases hi : itemD (.tup ys) with
          | none => rfl
          | some it =>
            cases it with
            | lt c => have := (itemD_lt hi).1; cases this
            | cp i j =>
              have := itemD_cp hi
              injection this with this
              rw [this] at z
              cases z
    · rintro ρ ⟨t, a, b, rfl, hr, ht⟩
      rw [List.drop_length, runG] at hr
      rw [← hr] at h
      exact h
end K57
set_option Elab.async false
set_option linter.all false
set_option autoImplicit false
set_option maxRecDepth 100000
namespace K57
open PySem PySem.Spec L2 WL

def s__law_greedy : Sx := sxw (fun x => x.length ≤ 60) fun x => .tup [.tup (dueD x), .tup (startsD x)]
theorem sem__law_greedy : ∀ ds R, ds.length = 1 → s__law_greedy.f ds R → w__law_greedy s__law_stands_before { nx := fun _ => R .non, rt := R } (startW 7 ds) := by
  intro ds R _ ⟨x, hx, h1, h⟩
  subst hx
  have h1 : x.length ≤ 60 := h1
  have h : R (.tup [.tup (dueD x), .tup (startsD x)]) := h
  refine ⟨⟨by omega, by omega⟩, ?_⟩
  rw [Int.toNat_natCast]
  have Ls := L_spec x
  refine forR (fun i ρ => ∃ (k : Nat) (a b : Slot), ρ = [.val (.str x), .own (.lst ((List.range k).map fun k => itemX x (g x k))), .val (.int (g x k)), .own (.lst ((List.range k).map fun k => D.int (g x k))), a, b, .un] ∧ k = min i (L x)) ⟨0, .un, .un, rfl, by omega⟩ ?_ ?_
  · rintro i ρ K hi ⟨k, a, b, rfl, hk⟩ hK
    refine ifP_b (fun z => ?_) (fun z => ?_)
    · have z : (g x k : Int) < (x.length : Int) := of_decide_eq_true z
      have hg : g x k < x.length := by omega
      have hk2 : k < L x := by
        apply Classical.byContradiction
        intro hc
        have : k = L x := by omega
        rw [this, Ls.1] at hg; omega
      have hgs : g x (k + 1) = nx x (g x k) := by rw [g, if_pos hg]
      have hlen : ((List.range k).map fun k => itemX x (g x k)).length < 16777216 := by rw [List.length_map, List.length_range]; omega
      have hlen2 : ((List.range k).map fun k => D.int (g x k)).length < 16777216 := by rw [List.length_map, List.length_range]; omega
      have en : ((x.length : Int) + 1 - ((g x k : Int) + 1)).toNat = x.length - g x k := by omega
      show (rOk _ ∧ rOk _ ∧ _) ∧ wLcL _ _ _ _ (rngL ((g x k : Int) + 1) ((x.length : Int) + 1 - ((g x k : Int) + 1)).toNat) [] _
      rw [en]
      refine ⟨⟨⟨by omega, by omega⟩, ⟨by omega, by omega⟩, by omega⟩, ?_⟩
      refine lc_rngF (fun i => .int ((g x k : Int) + 1 + (i : Int))) (fun i => std x (g x k) (g x k + 1 + i)) (fun i hi => ⟨fun Q q => ?_, fun _ Q q => q _ rfl⟩) ?_
      · have ei : (g x k : Int) + 1 + (i : Int) = ((g x k + 1 + i : Nat) : Int) := by omega
        refine ⟨rfl, (x, g x k, g x k + 1 + i), ?_, ⟨h1, by show g x k ≤ g x k + 1 + i; omega, by show g x k + 1 + i ≤ x.length; omega⟩, ?_⟩
        · show [D.str x, .int (g x k), .int ((g x k : Int) + 1 + (i : Int))] = _
          rw [ei]; rfl
        · show Q (decide (0 ≤ sbI x (g x k) (g x k + 1 + i)))
          have : decide (0 ≤ sbI x (g x k) (g x k + 1 + i)) = std x (g x k) (g x k + 1 + i) := by
            rw [Bool.eq_iff_iff, decide_eq_true_iff]; exact sbI_pos
          rw [this]; exact q
      · by_cases hf : (List.range (x.length - g x k)).filter (fun i => std x (g x k) (g x k + 1 + i)) = []
        · rw [hf]
          have hz : ne x (g x k) = 0 := by
            apply Classical.byContradiction
            intro hc
            obtain ⟨n1, n2, n3⟩ := ne_spec hc
            have : ne x (g x k) - (g x k + 1) ∈ (List.range (x.length - g x k)).filter (fun i => std x (g x k) (g x k + 1 + i)) :=
              List.mem_filter.mpr ⟨List.mem_range.mpr (by omega), by rw [show g x k + 1 + (ne x (g x k) - (g x k + 1)) = ne x (g x k) by omega]; exact n3⟩
            rw [hf] at this; cases this
          have e1 : itemX x (g x k) = .str [x[g x k]] := by unfold itemX; rw [if_pos hz, List.getElem?_eq_getElem hg]; rfl
          have e2 : g x (k + 1) = g x k + 1 := by rw [hgs]; unfold nx; omega
          refine ⟨hlen2, ifP_t ?_⟩
          show match atI x (g x k : Int) with | some c => _ | none => False
          rw [atI_nat (List.getElem?_eq_getElem hg)]
          refine ⟨hlen, hK _ ⟨k + 1, .val (.int (0 + (i : Int))), .own (.lst []), ?_, by omega⟩⟩
          rw [items_succ, starts_succ, e1, e2]; rfl
        · obtain ⟨j, j1, j2, j3, j4⟩ := filter_last (fun i => std x (g x k) (g x k + 1 + i)) (x.length - g x k) hf
          have hne : ne x (g x k) = g x k + 1 + j := by
            apply maxN_eq
            · right
              exact List.mem_filter.mpr ⟨List.mem_range.mpr (by omega), by rw [Bool.and_eq_true]; exact ⟨decide_eq_true (by omega), j3⟩⟩
            · intro e he
              obtain ⟨b1, b2⟩ := List.mem_filter.mp he
              rw [Bool.and_eq_true] at b2
              have b1 := List.mem_range.mp b1
              have b3 := of_decide_eq_true b2.1
              apply Classical.byContradiction
              intro hc
              have := j4 (e - (g x k + 1)) (by omega) (by omega)
              rw [show g x k + 1 + (e - (g x k + 1)) = e by omega, b2.2] at this
              cases this
          have hz : ne x (g x k) ≠ 0 := by omega
          obtain ⟨n1, n2, n3⟩ := ne_spec hz
          have el : atI (((List.range (x.length - g x k)).filter fun i => std x (g x k) (g x k + 1 + i)).map fun i : Nat => D.int ((g x k : Int) + 1 + (i : Int))) (-1) = some (.int (ne x (g x k) : Nat)) := by
            refine atI_last ?_
            rw [List.getLast?_map, j1, hne]
            show some (D.int ((g x k : Int) + 1 + (j : Int))) = some (.int ((g x k + 1 + j : Nat) : Int))
            congr 2
          have e1 : itemX x (g x k) = .tup [.int (sbI x (g x k) (ne x (g x k))), .int ((ne x (g x k) : Int) - (g x k : Int))] := by
            unfold itemX sbI; rw [if_neg hz, n3, if_pos rfl]
          have e2 : g x (k + 1) = ne x (g x k) := by rw [hgs]; unfold nx; omega
          refine ⟨hlen2, ifP_b (fun y => ?_) (fun _ => ?_)⟩
          · have y : (((((List.range (x.length - g x k)).filter fun i => std x (g x k) (g x k + 1 + i)).map fun i : Nat => D.int ((g x k : Int) + 1 + (i : Int))).length : Int) == 0) = true := y
            rw [beq_iff_eq, List.length_map] at y
            exact absurd (List.eq_nil_of_length_eq_zero (by omega)) hf
          generalize (((List.range (x.length - g x k)).filter fun i => std x (g x k) (g x k + 1 + i)).map fun i : Nat => D.int ((g x k : Int) + 1 + (i : Int))) = st at el
          show match atI st (-1) with | some v => _ | none => False
          rw [el]
          refine ⟨rfl, (x, g x k, ne x (g x k)), rfl, ⟨h1, by show g x k ≤ ne x (g x k); omega, n2⟩, ?_⟩
          show match atI st (-1) with | some v => _ | none => False
          rw [el]
          refine ⟨hlen, ?_⟩
          show match atI st (-1) with | some v => _ | none => False
          rw [el]
          refine hK _ ⟨k + 1, .val (.int (0 + (i : Int))), .own (.lst st), ?_, by omega⟩
          rw [items_succ, starts_succ, e1, e2]; rfl
    · have z : ¬ (g x k : Int) < (x.length : Int) := of_decide_eq_false z
      have hkL : k = L x := L_of (by omega) (by omega)
      exact hK _ ⟨k, .val (.int (0 + (i : Int))), b, rfl, by omega⟩
  · rintro ρ ⟨k, a, b, rfl, hk⟩
    have hkL : k = L x := by omega
    subst hkL
    exact h
def s__law_fewest : Sx := sxw (fun x => x.length ≤ 60) fun x => .int (L x)
def few (x : Wd) (fs : List Nat) (n : Nat) : Prop := fs.length = n ∧ ∀ e, e < n → PA x e (nth fs e) ∧ ∀ k, PA x e k → nth fs e ≤ k
theorem few_L {x : Wd} {fs : List Nat} (h : few x fs (x.length + 1)) : nth fs x.length = L x := by
  obtain ⟨h1, h2⟩ := h.2 x.length (by omega)
  have h3 := g_PA x (L x) (Nat.le_refl _)
  rw [(L_spec x).1] at h3
  exact Nat.le_antisymm (h2 _ h3) (PA_L h1)
def minN (l : List Nat) (a : Nat) : Nat := l.foldl min a
theorem minN_spec : ∀ (l : List Nat) (a : Nat), (minN l a = a ∨ minN l a ∈ l) ∧ minN l a ≤ a ∧ ∀ b ∈ l, minN l a ≤ b
  | [], a => ⟨.inl rfl, Nat.le_refl _, fun _ h => nomatch h⟩
  | b :: l, a => by
    show ((minN l (min a b) = a ∨ _) ∧ _)
    obtain ⟨h1, h2, h3⟩ := minN_spec l (min a b)
    refine ⟨?_, by show minN l (min a b) ≤ a; omega, fun c hc => ?_⟩
    · show minN l (min a b) = a ∨ minN l (min a b) ∈ b :: l
      rcases h1 with h1 | h1
      · rw [h1]
        by_cases hh : a ≤ b
        · left; omega
        · right; rw [Nat.min_eq_right (by omega)]; exact List.mem_cons_self
      · right; exact List.mem_cons_of_mem _ h1
    · show minN l (min a b) ≤ c
      rcases List.mem_cons.mp hc with rfl | hc
      · omega
      · exact h3 c hc
theorem foldl_minI : ∀ (l : List Nat) (a : Nat), (l.map fun n : Nat => (n : Int)).foldl min (a : Int) = ((minN l a : Nat) : Int)
  | [], _ => rfl
  | b :: l, a => by
    show ((l.map fun n : Nat => (n : Int)).foldl min (min (a : Int) (b : Int))) = ((minN l (min a b) : Nat) : Int)
    rw [← foldl_minI l (min a b)]
    congr 1; omega
theorem minI_nat {l : List Nat} (h : l ≠ []) : ∃ m, minI (l.map fun n : Nat => (n : Int)) = some ((m : Nat) : Int) ∧ m ∈ l ∧ ∀ b ∈ l, m ≤ b := by
  cases l with
  | nil => exact absurd rfl h
  | cons a l =>
    obtain ⟨h1, h2, h3⟩ := minN_spec l a
    refine ⟨minN l a, by show some _ = some _; rw [foldl_minI], ?_, fun b hb => ?_⟩
    · rcases h1 with h1 | h1
      · rw [h1]; exact List.mem_cons_self
      · exact List.mem_cons_of_mem _ h1
    · rcases List.mem_cons.mp hb with rfl | hb
      · exact h2
      · exact h3 b hb
theorem min_wp {ns : List Int} {m : Int} {f : D → Prop} (h : minI ns = some m) (q : f (.int m)) : match (generalizing := false) optInt (minI ns) with
  | some d => f d
  | none => False := by rw [h]; exact q
theorem nth_app {fs : List Nat} {a e : Nat} : nth (fs ++ [a]) e = if e < fs.length then nth fs e else if e = fs.length then a else 0 := by
  unfold nth
  by_cases h : e < fs.length
  · rw [if_pos h, List.getElem?_append_left h]
  · rw [if_neg h, List.getElem?_append_right (by omega)]
    by_cases h2 : e = fs.length
    · rw [if_pos h2, h2, Nat.sub_self]; rfl
    · rw [if_neg h2, List.getElem?_eq_none (by show 1 ≤ _; omega)]; rfl
theorem sem__law_fewest : ∀ ds R, ds.length = 1 → s__law_fewest.f ds R → w__law_fewest s__law_stands_before { nx := fun _ => R .non, rt := R } (startW 4 ds) := by
  intro ds R _ ⟨x, hx, h1, h⟩
  subst hx
  have h1 : x.length ≤ 60 := h1
  have h : R (.int (L x)) := h
  have en : ((x.length : Int) + 1 - 1).toNat = x.length := by omega
  show (rOk _ ∧ rOk _ ∧ _) ∧ wForL _ _ _ (rngL 1 ((x.length : Int) + 1 - 1).toNat) _
  rw [en]
  refine ⟨⟨⟨by omega, by omega⟩, ⟨by omega, by omega⟩, by omega⟩, ?_⟩
  refine forR (fun i ρ => ∃ (fs : List Nat) (a : Slot), ρ = [.val (.str x), .own (.lst (fs.map fun n : Nat => D.int n)), a, .un] ∧ few x fs (i + 1)) ⟨[0], .un, rfl, rfl, fun e he => ?_⟩ ?_ ?_
  · have : e = 0 := by omega
    subst this
    exact ⟨rfl, fun k _ => Nat.zero_le _⟩
  · rintro i ρ K hi ⟨fs, a, rfl, hf1, hf2⟩ hK
    have e3 : (1 : Int) + (i : Int) = ((i + 1 : Nat) : Int) := by omega
    have en2 : ((1 : Int) + (i : Int)).toNat = i + 1 := by omega
    show rOk _ ∧ wLcL _ _ _ _ (rngL 0 ((1 : Int) + (i : Int)).toNat) [] _
    rw [en2]
    refine ⟨⟨by omega, by omega⟩, ?_⟩
    refine lc_rngF (fun s => .int (nth fs s : Nat)) (fun s => (s == i) || std x s (i + 1)) (fun s hs => ⟨fun Q q => ?_, fun _ Q q => ?_⟩) ?_
    · refine ifP_b (fun y => ?_) (fun y => ?_)
      · have y : ((0 + (s : Int)) == (1 + (i : Int) - 1)) = true := y
        have : (s == i) = true := by rw [beq_iff_eq] at y ⊢; omega
        rw [this, Bool.true_or] at q
        exact q
      · have y : ((0 + (s : Int)) == (1 + (i : Int) - 1)) = false := y
        have : (s == i) = false := by rw [beq_eq_false_iff_ne] at y ⊢; omega
        rw [this, Bool.false_or] at q
        refine ⟨rfl, (x, s, i + 1), ?_, ⟨h1, by show s ≤ i + 1; omega, by show i + 1 ≤ x.length; omega⟩, ?_⟩
        · show [D.str x, .int (0 + (s : Int)), .int (1 + (i : Int))] = _
          rw [e3, Int.zero_add]; rfl
        · show Q (decide (0 ≤ sbI x s (i + 1)))
          have : decide (0 ≤ sbI x s (i + 1)) = std x s (i + 1) := by rw [Bool.eq_iff_iff, decide_eq_true_iff]; exact sbI_pos
          rw [this]; exact q
    · show match atI (fs.map fun n : Nat => D.int n) (0 + (s : Int)) with | some v => _ | none => False
      rw [at_natI (k := s) (by omega) (by omega)]
      exact q _ rfl
    · show match intsOf (((List.range (i + 1)).filter fun s => (s == i) || std x s (i + 1)).map fun s => D.int (nth fs s : Nat)) with | some ns => _ | none => False
      rw [intsOf_nat]
      have hmem : i ∈ (List.range (i + 1)).filter fun s => (s == i) || std x s (i + 1) := List.mem_filter.mpr ⟨List.mem_range.mpr (by omega), by simp⟩
      obtain ⟨m, m1, m2, m3⟩ := minI_nat (l := ((List.range (i + 1)).filter fun s => (s == i) || std x s (i + 1)).map (nth fs)) (fun e => by
        have := List.mem_map_of_mem (f := nth fs) hmem
        rw [e] at this; cases this)
      refine min_wp m1 ?_
      refine ⟨by rw [List.length_map]; omega, hK _ ⟨fs ++ [1 + m], .val (.int (1 + (i : Int))), ?_, ?_⟩⟩
      · rw [List.map_append]
        show [Slot.val (D.str x), .own (.lst ((fs.map fun n : Nat => D.int n) ++ [.int (1 + (m : Int))])), _, _] = [_, .own (.lst ((fs.map fun n : Nat => D.int n) ++ [.int ((1 + m : Nat) : Int)])), _, _]
        have : (1 : Int) + (m : Int) = ((1 + m : Nat) : Int) := by omega
        rw [this]
      · refine ⟨by rw [List.length_append, hf1]; rfl, fun e he => ?_⟩
        rw [nth_app, hf1]
        by_cases hh : e < i + 1
        · rw [if_pos hh]; exact hf2 e hh
        · have : e = i + 1 := by omega
          subst this
          rw [if_neg hh, if_pos rfl]
          constructor
          · obtain ⟨s, s1, s2⟩ := List.mem_map.mp m2
            obtain ⟨s3, s4⟩ := List.mem_filter.mp s1
            have s3 := List.mem_range.mp s3
            rw [Nat.add_comm 1 m]
            refine ⟨s, by rw [← s2]; exact (hf2 s s3).1, by omega, by omega, ?_⟩
            rw [Bool.or_eq_true, beq_iff_eq] at s4
            rcases s4 with s4 | s4
            · left; omega
            · exact .inr s4
          · intro k hk
            cases k with
            | zero =>
              have hk : i + 1 = 0 := hk
              omega
            | succ k =>
              obtain ⟨s, p1, p2, p3, p4⟩ := hk
              have := m3 (nth fs s) (List.mem_map.mpr ⟨s, List.mem_filter.mpr ⟨List.mem_range.mpr p2, by
                rw [Bool.or_eq_true, beq_iff_eq]
                rcases p4 with p4 | p4
                · left; omega
                · exact .inr p4⟩, rfl⟩)
              have := (hf2 s p2).2 k p1
              omega
  · rintro ρ ⟨fs, a, rfl, hf⟩
    have hne : fs ≠ [] := fun e => by have := hf.1; rw [e] at this; cases this
    show match atI (fs.map fun n : Nat => D.int n) (-1) with | some v => _ | none => False
    rw [at_lastN hne, hf.1, Nat.add_sub_cancel, few_L hf]
    exact h
end K57
set_option Elab.async false
set_option linter.all false
set_option autoImplicit false
set_option maxRecDepth 100000
namespace K57
open PySem PySem.Spec L2 WL

def drwA (x : Wd) : List D := [.box, .str x]
def s__law_drawn : Sx := .some drwA (fun x => x.length ≤ 60) fun _ d => pvN 100 2 d = true
theorem pv_item {i j : Int} : pvN 100 1 (.tup [.int i, .int j]) = true := rfl
theorem sem__law_drawn : ∀ ds R, ds.length = 2 → s__law_drawn.f ds R → w__law_drawn sDraw { nx := fun _ => R .non, rt := R } (startW 8 ds) := by
  intro ds R _ ⟨x, hx, h1, h⟩
  subst hx
  have h1 : x.length ≤ 60 := h1
  have h : ∀ d, pvN 100 2 d = true → R d := h
  refine ⟨⟨by omega, by omega⟩, ?_⟩
  rw [Int.toNat_natCast]
  refine forR (fun i ρ => ∃ (fs : List D) (s : Nat) (a b c : Slot), ρ = [.val .box, .val (.str x), .own (.lst fs), .val (.int s), a, b, c, .un] ∧ fs.length ≤ i ∧ s ≤ x.length ∧ ∀ d ∈ fs, pvN 100 1 d = true) ⟨[], 0, .un, .un, .un, rfl, Nat.le_refl _, Nat.zero_le _, fun _ hh => nomatch hh⟩ ?_ ?_
  · rintro i ρ K hi ⟨fs, s, a, b, c, rfl, hf, hs, hp⟩ hK
    refine ifP_b (fun z => ?_) (fun z => hK _ ⟨fs, s, .val (.int (0 + (i : Int))), b, c, rfl, by omega, hs, hp⟩)
    have z : (s : Int) < (x.length : Int) := of_decide_eq_true z
    have hsx : s < x.length := by omega
    have hpa : ∀ d, pvN 100 1 d = true → ∀ e ∈ fs ++ [d], pvN 100 1 e = true := by
      intro d hd e he
      rcases List.mem_append.mp he with he | he
      · exact hp e he
      · rw [List.mem_singleton] at he; rw [he]; exact hd
    refine ⟨rfl, draw_go (by show 0 < min 4 ((x.length : Int) - (s : Int)); omega) (by show min 4 ((x.length : Int) - (s : Int)) < 1073741824; omega) fun d hd0 hd1 => ?_⟩
    have hd1 : d < min 4 ((x.length : Int) - (s : Int)) := hd1
    obtain ⟨e, he⟩ : ∃ e : Nat, (s : Int) + 1 + d = (e : Int) := ⟨((s : Int) + 1 + d).toNat, by omega⟩
    show rOk (s : Int) ∧ wLcL _ _ _ [.val .box, .val (.str x), .own (.lst fs), .val (.int s), .val (.int (0 + (i : Int))), .val (.int ((s : Int) + 1 + d)), c, .un] (rngL 0 (s : Int).toNat) [] _
    rw [he, Int.toNat_natCast]
    refine ⟨⟨by omega, by omega⟩, ?_⟩
    refine lc_rngF (fun p => .int (0 + (p : Int))) (fun p => cutL x (some (0 + (p : Int))) (some (0 + (p : Int) + (e : Int) - (s : Int))) == cutL x (some (s : Int)) (some (e : Int))) (fun p hp => ⟨fun Q q => q, fun _ Q q => q _ rfl⟩) ?_
    have hpl : (((List.range s).filter fun p : Nat => cutL x (some (0 + (p : Int))) (some (0 + (p : Int) + (e : Int) - (s : Int))) == cutL x (some (s : Int)) (some (e : Int))).map fun p : Nat => D.int (0 + (p : Int))).length ≤ s := by
      rw [List.length_map]
      have := List.length_filter_le (fun p : Nat => cutL x (some (0 + (p : Int))) (some (0 + (p : Int) + (e : Int) - (s : Int))) == cutL x (some (s : Int)) (some (e : Int))) (List.range s)
      rwa [List.length_range] at this
    have hpi : ∀ d ∈ (((List.range s).filter fun p : Nat => cutL x (some (0 + (p : Int))) (some (0 + (p : Int) + (e : Int) - (s : Int))) == cutL x (some (s : Int)) (some (e : Int))).map fun p : Nat => D.int (0 + (p : Int))), ∃ j : Int, d = .int j := by
      intro d hd
      obtain ⟨p, _, rfl⟩ := List.mem_map.mp hd
      exact ⟨_, rfl⟩
    generalize (((List.range s).filter fun p : Nat => cutL x (some (0 + (p : Int))) (some (0 + (p : Int) + (e : Int) - (s : Int))) == cutL x (some (s : Int)) (some (e : Int))).map fun p : Nat => D.int (0 + (p : Int))) = ps at hpl hpi
    have let' : ∀ E : WEnds, E.nx = K → wSeq (wApp 2 (wOp oIx (wName 1) (wName 3))) (wSet 3 (wOp oAdd (wName 3) (wC (.int 1)))) E [.val .box, .val (.str x), .own (.lst fs), .val (.int s), .val (.int (0 + (i : Int))), .val (.int (e : Int)), .own (.lst ps), .un] := by
      intro E hE
      show match atI x (s : Int) with | some c => _ | none => False
      rw [atI_nat (List.getElem?_eq_getElem hsx)]
      refine ⟨by omega, ?_⟩
      show E.nx _
      rw [hE]
      exact hK _ ⟨fs ++ [.str [x[s]]], s + 1, .val (.int (0 + (i : Int))), .val (.int (e : Int)), .own (.lst ps), rfl, by rw [List.length_append]; show fs.length + 1 ≤ _; omega, by omega, hpa _ rfl⟩
    refine ifP_b (fun y => ifP_t (let' _ rfl)) (fun y => ⟨rfl, draw_go (by omega) (by omega) fun q hq0 hq1 => ifP_b (fun _ => let' _ rfl) (fun _ => ?_)⟩)
    have y : ((ps.length : Int) == 0) = false := y
    have hps : 0 < ps.length := by
      rw [beq_eq_false_iff_ne] at y; omega
    refine ⟨rfl, draw_go (by omega) (by omega) fun q hq0 hq1 => ?_⟩
    obtain ⟨v, hv, ev⟩ := at_mem hq0 hq1
    obtain ⟨j, rfl⟩ := hpi v hv
    show match atI ps q with | some v => _ | none => False
    rw [ev]
    refine ⟨by omega, ?_⟩
    exact hK _ ⟨fs ++ [.tup [.int j, .int ((e : Int) - (s : Int))]], e, .val (.int (0 + (i : Int))), .val (.int (e : Int)), .own (.lst ps), rfl, by rw [List.length_append]; show fs.length + 1 ≤ _; omega, by omega, hpa _ pv_item⟩
  · rintro ρ ⟨fs, s, a, b, c, rfl, hf, hs, hp⟩
    exact h _ (pv_tup (by omega) hp)
end K57
set_option Elab.async false
set_option linter.all false
set_option autoImplicit false
set_option maxRecDepth 100000
namespace K57
open PySem PySem.Spec L2 WL

def fineA (x : Wd) : List D := [.box, .str x]
def s__law_fine : Sx := .of fineA (fun x => x.length ≤ 60 ∧ ∀ c ∈ x, 97 ≤ c ∧ c ≤ 122) fun _ => .bl true
/-- a value that may be judged -/
abbrev okV (d : D) : Prop := pvN BV 5 d = true
theorem okV_tup {xs : List D} (h : xs.length ≤ 100000) (g : ∀ d ∈ xs, pvN BV 4 d = true) : okV (.tup xs) := pv_tup h g
theorem due_pv (x : Wd) : ∀ d ∈ dueD x, pvN BV 1 d = true := by
  intro d hd
  obtain ⟨k, _, rfl⟩ := List.mem_map.mp hd
  unfold itemX
  split
  · exact pv_str (by show 1 ≤ 100000; omega)
  · rfl
theorem starts_pv (x : Wd) : ∀ d ∈ startsD x, pvN BV 0 d = true := by
  intro d hd
  obtain ⟨k, _, rfl⟩ := List.mem_map.mp hd
  rfl
theorem up {B : Nat} {n : Nat} {d : D} (h : pvN B n d = true) (hB : B ≤ 100000) (hn : n ≤ 4) : pvN BV 4 d = true := pvN_mono hB n d hn h
theorem sem_rest1 (x : Wd) (h1 : x.length ≤ 60) (v : D) (hv : pvN BW 50 v = true) : (givG x v = .str x) ↔ packP x v = true := by
  cases v with
  | tup ds =>
    show optS (runG x.length [] ds) = .str x ↔ runP x [] ds = true
    rw [runP_G, beq_iff_eq]
    cases runG x.length [] ds with
    | none => exact ⟨fun e => (by cases e), fun e => (by cases e)⟩
    | some u => exact ⟨fun e => (by cases e; rfl), fun e => (by cases e; rfl)⟩
  | _ => exact ⟨fun e => (by cases e), fun e => (by cases e)⟩
/-- the packings judged -/
theorem body1 (x : Wd) (h1 : x.length ≤ 60) (v : D) (hv : pvN BW 50 v = true) (E : WEnds) (rows : Slot) (a b c : Slot) (K : WEnv → Prop) (hK : E.nx = K) (hk : ∀ s7 s8 : Slot, K [.val .box, .val (.str x), .val (.tup (dueD x)), .val (.tup (startsD x)), rows, a, .val v, s7, s8, .un, .un, .un]) :
    wSeq (wSet 7 (wCall s__law_given 2 (wCons (wName 1) (wCons (wName 6) wNil))))
      (wSeq (wSet 8 (wAndV (wOp oIsNot (wName 7) (wC .non)) (wOp oEq (wName 7) (wName 1))))
      (wIfS (wOr (wNotT (wTest (wCall (sSame 6) 2 (wCons (wCall s_is_packing 2 (wCons (wName 1) (wCons (wName 6) wNil))) (wCons (wName 8) wNil))))) (wAnd (wTest (wName 8)) (wOr (wTB (wOp oLt (wB oLen (wCons (wName 6) wNil)) (wB oLen (wCons (wName 2) wNil)))) (wNotT (wTest (wCall (sSame 6) 2 (wCons (wCall s_unpacked 1 (wCons (wName 6) wNil)) (wCons (wName 1) wNil)))))))) (wRet (wC (.bl false))) wSkip)) E [.val .box, .val (.str x), .val (.tup (dueD x)), .val (.tup (startsD x)), rows, a, .val v, b, c, .un, .un, .un] := by
  refine ⟨rfl, (x, v), rfl, ⟨h1, hv⟩, ?_⟩
  have key : ∀ k : Bool, packP x v = k → (k = true → ∃ ds, v = .tup ds ∧ runG x.length [] ds = some x) → ∀ s7 : Slot, wIfS (wOr (wNotT (wTest (wCall (sSame 6) 2 (wCons (wCall s_is_packing 2 (wCons (wName 1) (wCons (wName 6) wNil))) (wCons (wName 8) wNil))))) (wAnd (wTest (wName 8)) (wOr (wTB (wOp oLt (wB oLen (wCons (wName 6) wNil)) (wB oLen (wCons (wName 2) wNil)))) (wNotT (wTest (wCall (sSame 6) 2 (wCons (wCall s_unpacked 1 (wCons (wName 6) wNil)) (wCons (wName 1) wNil)))))))) (wRet (wC (.bl false))) wSkip E [.val .box, .val (.str x), .val (.tup (dueD x)), .val (.tup (startsD x)), rows, a, .val v, s7, .val (.bl k), .un, .un, .un] := by
    intro k hp hq s7
    refine ⟨rfl, (x, v), rfl, ⟨h1, hv⟩, rfl, same_eq (by show D.bl (packP x v) = .bl k; rw [hp]) rfl (ifP_f ?_)⟩
    cases k with
    | false =>
      refine ifP_f (ifP_f ?_)
      show E.nx _
      rw [hK]; exact hk _ _
    | true =>
      obtain ⟨ds, rfl, hr⟩ := hq rfl
      have hl := fine_L hr
      have hdl : (dueD x).length = L x := by unfold dueD; rw [List.length_map, List.length_range]
      refine ifP_t (ifP_b (fun y => ?_) (fun y => ?_))
      · have y : (ds.length : Int) < ((dueD x).length : Int) := of_decide_eq_true y
        omega
      · refine ⟨rfl, (x, ds), rfl, ⟨h1, hr⟩, rfl, same_eq rfl rfl (ifP_f ?_)⟩
        show E.nx _
        rw [hK]; exact hk _ _
  have hh := sem_rest1 x h1 v hv
  have hg : givG x v = .non ∨ ∃ u, givG x v = .str u := by
    cases v with
    | tup ds =>
      show optS (runG x.length [] ds) = .non ∨ ∃ u, optS (runG x.length [] ds) = .str u
      cases runG x.length [] ds with
      | none => exact .inl rfl
      | some u => exact .inr ⟨u, rfl⟩
    | _ => exact .inl rfl
  dsimp only
  rcases hg with hg | ⟨u, hg⟩
  · rw [hg]
    have hf : packP x v = false := by
      cases hc : packP x v with
      | false => rfl
      | true => have := hh.mpr hc; rw [hg] at this; cases this
    exact ifP_f (key false hf (fun e => nomatch e) _)
  · rw [hg]
    refine ifP_t ?_
    have hf : packP x v = (u == x) := by
      rw [Bool.eq_iff_iff, ← hh, hg, beq_iff_eq]
      exact ⟨fun e => (by injection e), fun e => (by rw [e])⟩
    refine key (u == x) hf (fun e => ?_) _
    rw [e] at hf
    cases v with
    | tup ds =>
      refine ⟨ds, rfl, ?_⟩
      have hf : runP x [] ds = true := hf
      rw [runP_G, beq_iff_eq] at hf
      exact hf
    | _ => cases hf
theorem milP_L {x : Wd} {v : D} (h : milP x v = true) : ∃ ds, v = .tup ds ∧ ds.length ≤ L x := by
  cases v with
  | tup ds =>
    refine ⟨ds, rfl, ?_⟩
    have h : (!ds.isEmpty && (ds.all whD && milN x (ds.map valN))) = true := h
    rw [Bool.and_eq_true, Bool.and_eq_true] at h
    have hne : ds.map valN ≠ [] := by
      cases ds with
      | nil => cases h.1
      | cons a l => exact fun e => by cases e
    have h3 := h.2.2
    rw [mil_eq hne] at h3
    unfold milG at h3
    rw [Bool.and_eq_true, Bool.and_eq_true] at h3
    obtain ⟨m1, m2, m3⟩ := h3
    have hpos : 0 < (ds.map valN).length := List.length_pos_iff.mpr hne
    have := miles_L (x := x) (v := ds.map valN) (by rw [nth_eq hpos, eq_of_beq m2]) (fun k a b ha hb => by
      have hk := (List.getElem?_eq_some_iff.mp hb).1
      have := List.all_eq_true.mp m3 k (List.mem_range.mpr (by omega))
      rw [Bool.and_eq_true] at this
      rw [nth_eq (by omega)] at ha hb
      cases ha
      cases hb
      refine ⟨of_decide_eq_true this.1, ?_⟩
      have h4 := of_decide_eq_true this.2
      cases hc : std x (nth (ds.map valN) k) (nth (ds.map valN) (k + 1) + 1) with
      | false => rfl
      | true => have := sbI_pos.mpr hc; omega) (fun a ha => of_decide_eq_true (List.all_eq_true.mp m1 a ha))
    rwa [List.length_map] at this
  | _ => cases h
theorem body2 (x : Wd) (h1 : x.length ≤ 60) (v : D) (hv : pvN BW 50 v = true) (E : WEnds) (rows : Slot) (a b c : Slot) (K : WEnv → Prop) (hK : E.nx = K) (hk : ∀ s8 : Slot, K [.val .box, .val (.str x), .val (.tup (dueD x)), .val (.tup (startsD x)), rows, a, .val v, b, s8, .un, .un, .un]) :
    wSeq (wSet 8 (wCall s__law_miles 2 (wCons (wName 1) (wCons (wName 6) wNil))))
      (wIfS (wOr (wNotT (wTest (wCall (sSame 6) 2 (wCons (wCall s_are_milestones 2 (wCons (wName 1) (wCons (wName 6) wNil))) (wCons (wName 8) wNil))))) (wAnd (wTest (wName 8)) (wTB (wOp oGt (wB oLen (wCons (wName 6) wNil)) (wB oLen (wCons (wName 2) wNil)))))) (wRet (wC (.bl false))) wSkip) E [.val .box, .val (.str x), .val (.tup (dueD x)), .val (.tup (startsD x)), rows, a, .val v, b, c, .un, .un, .un] := by
  refine ⟨rfl, (x, v), rfl, ⟨h1, hv⟩, rfl, (x, v), rfl, ⟨h1, hv⟩, rfl, same_eq rfl rfl (ifP_f (ifP_b (fun y => ?_) (fun y => ifP_f ?_)))⟩
  · have y : milP x v = true := y
    obtain ⟨ds, rfl, hl⟩ := milP_L y
    have hdl : (dueD x).length = L x := by unfold dueD; rw [List.length_map, List.length_range]
    refine ifP_b (fun z => ?_) (fun z => ?_)
    · have z : ((dueD x).length : Int) < (ds.length : Int) := of_decide_eq_true z
      omega
    · show E.nx _
      rw [hK]; exact hk _
  · show E.nx _
    rw [hK]; exact hk _
end K57
set_option Elab.async false
set_option linter.all false
set_option autoImplicit false
set_option maxRecDepth 100000
namespace K57
open PySem PySem.Spec L2 WL

theorem lc_pick {t : Tgt} {wt : WT} {we : WE} {ρ : WEnv} {Q : List D → Prop} (ok : D → Prop) : ∀ (l acc : List D),
    (∀ a ∈ l, ∃ ρ', bindT t a ρ = some ρ' ∧ (∀ Q : Bool → Prop, (∀ b, Q b) → wt ρ' Q) ∧ (∀ Q : R → Prop, (∀ r e, ok e → r.fz = .val e → Q r) → we ρ' Q)) → (∀ e ∈ acc, ok e) →
    (∀ l' : List D, l'.length ≤ acc.length + l.length → (∀ e ∈ l', ok e) → Q l') → wLcL t wt we ρ l acc Q
  | [], acc, _, ha, q => by rw [wLcL]; exact q acc (by simp) ha
  | d :: l, acc, hs, ha, q => by
    obtain ⟨ρ', e, h1, h2⟩ := hs d List.mem_cons_self
    rw [wLcL, e]
    refine h1 _ fun b => ⟨fun _ => h2 _ fun r e he hr => ?_, fun _ => ?_⟩
    · rw [hr]
      refine lc_pick ok l (acc ++ [e]) (fun a ha => hs a (List.mem_cons_of_mem _ ha)) (fun e' he' => ?_) fun l' h3 h4 => q l' (by rw [List.length_append] at h3; simp at h3 ⊢; omega) h4
      rcases List.mem_append.mp he' with he' | he'
      · exact ha e' he'
      · rw [List.mem_singleton] at he'; rw [he']; exact he
    · exact lc_pick ok l acc (fun a ha => hs a (List.mem_cons_of_mem _ ha)) ha fun l' h3 h4 => q l' (by rw [List.length_cons]; omega) h4
theorem okV_BW {d : D} (h : okV d) : pvN BW 50 d = true := pvN_mono (show BV ≤ BW by decide) 5 d (by omega) h
theorem bent_BW {d : D} (h : pvN BW 6 d = true) : pvN BW 50 d = true := pvN_mono (Nat.le_refl _) 6 d (by omega) h
theorem starts_ok (x : Wd) (h1 : x.length ≤ 60) : okV (.tup (startsD x)) := okV_tup (by unfold startsD; rw [List.length_map, List.length_range]; have := (L_spec x).2.1; omega) fun d hd => up (starts_pv x d hd) (Nat.le_refl _) (by omega)
theorem due_ok (x : Wd) (h1 : x.length ≤ 60) : okV (.tup (dueD x)) := okV_tup (by unfold dueD; rw [List.length_map, List.length_range]; have := (L_spec x).2.1; omega) fun d hd => up (due_pv x d hd) (Nat.le_refl _) (by omega)
theorem rest2 (x : Wd) (h1 : x.length ≤ 60) (R : D → Prop) (h : R (.bl true)) (E : WEnds) (hE : E.rt = R) (rows : List D) (hr : ∀ d ∈ rows, okV d) (hl : rows.length ≤ 1000) (a s6 s7 s8 : Slot) :
    (wSeq (wFor (wIt (wOp oAdd (wName 4) (wLc (wRng1 (wC (.int 5))) (.one 9) wYes (wCall (sBent 6) 2 (wCons (wName 0) (wCons (wName 3) wNil))) [9]))) (.one 6) (wSeq (wSet 8 (wCall s__law_miles 2 (wCons (wName 1) (wCons (wName 6) wNil))))
      (wIfS (wOr (wNotT (wTest (wCall (sSame 6) 2 (wCons (wCall s_are_milestones 2 (wCons (wName 1) (wCons (wName 6) wNil))) (wCons (wName 8) wNil))))) (wAnd (wTest (wName 8)) (wTB (wOp oGt (wB oLen (wCons (wName 6) wNil)) (wB oLen (wCons (wName 2) wNil)))))) (wRet (wC (.bl false))) wSkip)))
      (wRet (wC (.bl true)))) E [.val .box, .val (.str x), .val (.tup (dueD x)), .val (.tup (startsD x)), .own (.lst rows), a, s6, s7, s8, .un, .un, .un] := by
  refine ⟨⟨by omega, by omega⟩, ?_⟩
  refine lc_some (fun d : D => d) (fun d => pvN BW 6 d = true) (fun i hi Q hQ => ?_) ?_
  · exact ⟨rfl, .tup (startsD x), rfl, ⟨5, rfl, starts_ok x h1⟩, fun d hd => hQ d _ hd rfl⟩
  · intro l hll hok
    rw [List.map_id']
    have hll : l.length = 5 := hll
    refine ⟨by omega, ?_⟩
    refine forL_ind (fun i ρ => ∃ s6 s7 s8 : Slot, ρ = [.val .box, .val (.str x), .val (.tup (dueD x)), .val (.tup (startsD x)), .own (.lst rows), a, s6, s7, s8, .un, .un, .un]) ⟨s6, s7, s8, rfl⟩ ?_ ?_
    · rintro i d ρ K hi ⟨s6, s7, s8, rfl⟩ hK
      refine ⟨_, rfl, ?_⟩
      have hd : pvN BW 50 d = true := by
        rcases List.mem_append.mp (List.mem_of_getElem? hi) with hd | hd
        · exact okV_BW (hr d hd)
        · exact bent_BW (hok d hd)
      exact body2 x h1 d hd _ (.own (.lst rows)) a s7 s8 K rfl fun s8 => hK _ ⟨_, _, _, rfl⟩
    · rintro ρ ⟨s6, s7, s8, rfl⟩
      show E.rt (.bl true)
      rw [hE]; exact h
theorem rest1 (x : Wd) (h1 : x.length ≤ 60) (R : D → Prop) (h : R (.bl true)) (E : WEnds) (hE : E.rt = R) (rows : List D) (hr : ∀ d ∈ rows, okV d) (hl : rows.length ≤ 1000) (hp : 0 < rows.length) (a : Slot) :
    (wSeq (wFor (wIt (wOp oAdd (wName 4) (wLc (wRng1 (wC (.int 8))) (.one 9) wYes (wCall (sBent 6) 2 (wCons (wName 0) (wCons (wOp oIx (wName 4) (wCall sDraw 2 (wCons (wName 0) (wCons (wB oLen (wCons (wName 4) wNil)) wNil)))) wNil))) [9]))) (.one 6) (wSeq (wSet 7 (wCall s__law_given 2 (wCons (wName 1) (wCons (wName 6) wNil))))
      (wSeq (wSet 8 (wAndV (wOp oIsNot (wName 7) (wC .non)) (wOp oEq (wName 7) (wName 1))))
      (wIfS (wOr (wNotT (wTest (wCall (sSame 6) 2 (wCons (wCall s_is_packing 2 (wCons (wName 1) (wCons (wName 6) wNil))) (wCons (wName 8) wNil))))) (wAnd (wTest (wName 8)) (wOr (wTB (wOp oLt (wB oLen (wCons (wName 6) wNil)) (wB oLen (wCons (wName 2) wNil)))) (wNotT (wTest (wCall (sSame 6) 2 (wCons (wCall s_unpacked 1 (wCons (wName 6) wNil)) (wCons (wName 1) wNil)))))))) (wRet (wC (.bl false))) wSkip))))
      (wSeq (wIfS (wTB (wOp oEq (wName 1) (wC (.str [])))) (wRet (wC (.bl true))) wSkip)
      (wSeq (wSet 4 (wLst (wCons (wName 3) (wCons (wSl (wName 3) (wPt (wC (.int 1))) wNo) (wCons (wRev (wName 3)) (wCons (wOp oAdd (wName 3) (wTup (wCons (wOp oSub (wB oLen (wCons (wName 1) wNil)) (wC (.int 1))) wNil))) (wCons (wOp oAdd (wName 3) (wTup (wCons (wB oLen (wCons (wName 1) wNil)) wNil))) (wCons (wTup (wCons (wC (.int 0)) wNil)) (wCons (wTup (wCons (wC (.int 1)) wNil)) (wCons (wTup wNil) (wCons (wTupRng (wB oLen (wCons (wName 1) wNil))) wNil)))))))))))
      (wSeq (wSet 4 (wOp oAdd (wName 4) (wLst (wCons (wC .non) (wCons (wC (.int 0)) (wCons (wC (.str [109, 105, 108, 101, 115])) (wCons (wTup (wCons (wC (.int 0)) (wCons (wC (.bl true)) wNil))) (wCons (wOp oAdd (wTup (wCons (wC (.bl false)) wNil)) (wSl (wName 3) (wPt (wC (.int 1))) wNo)) (wCons (wOp oAdd (wSl (wName 3) wNo (wPt (wC (.int 1)))) (wSl (wName 3) (wPt (wC (.int 2))) wNo)) wNil)))))))))
      (wSeq (wSet 4 (wOp oAdd (wName 4) (wLc (wRng1 (wC (.int 5))) (.one 9) wYes (wOp oAdd (wTup (wCons (wC (.int 0)) wNil)) (wB oTupleA (wCons (wLc (wRng2 (wC (.int 1)) (wB oLen (wCons (wName 1) wNil))) (.one 11) (wTB (wOp oEq (wCall sDraw 2 (wCons (wName 0) (wCons (wC (.int 3)) wNil))) (wC (.int 0)))) (wName 11) [11]) wNil))) [9])))
      (wSeq (wFor (wIt (wOp oAdd (wName 4) (wLc (wRng1 (wC (.int 5))) (.one 9) wYes (wCall (sBent 6) 2 (wCons (wName 0) (wCons (wName 3) wNil))) [9]))) (.one 6) (wSeq (wSet 8 (wCall s__law_miles 2 (wCons (wName 1) (wCons (wName 6) wNil))))
      (wIfS (wOr (wNotT (wTest (wCall (sSame 6) 2 (wCons (wCall s_are_milestones 2 (wCons (wName 1) (wCons (wName 6) wNil))) (wCons (wName 8) wNil))))) (wAnd (wTest (wName 8)) (wTB (wOp oGt (wB oLen (wCons (wName 6) wNil)) (wB oLen (wCons (wName 2) wNil)))))) (wRet (wC (.bl false))) wSkip)))
      (wRet (wC (.bl true))))))))) E [.val .box, .val (.str x), .val (.tup (dueD x)), .val (.tup (startsD x)), .own (.lst rows), a, .un, .un, .un, .un, .un, .un] := by
  refine ⟨⟨by omega, by omega⟩, ?_⟩
  refine lc_some (fun d : D => d) (fun d => pvN BW 6 d = true) (fun i hi Q hQ => ?_) ?_
  · refine ⟨rfl, draw_go (by omega) (by omega) fun j hj0 hj1 => ?_⟩
    obtain ⟨d, hd, ed⟩ := at_mem hj0 hj1
    show match atI rows j with | some v => _ | none => False
    rw [ed]
    exact ⟨rfl, d, rfl, ⟨5, rfl, hr d hd⟩, fun d hd => hQ d _ hd rfl⟩
  · intro l hll hok
    rw [List.map_id']
    have hll : l.length = 8 := hll
    refine ⟨by omega, ?_⟩
    refine forL_ind (fun i ρ => ∃ s6 s7 s8 : Slot, ρ = [.val .box, .val (.str x), .val (.tup (dueD x)), .val (.tup (startsD x)), .own (.lst rows), a, s6, s7, s8, .un, .un, .un]) ⟨.un, .un, .un, rfl⟩ ?_ ?_
    · rintro i d ρ K hi ⟨s6, s7, s8, rfl⟩ hK
      refine ⟨_, rfl, ?_⟩
      have hd : pvN BW 50 d = true := by
        rcases List.mem_append.mp (List.mem_of_getElem? hi) with hd | hd
        · exact okV_BW (hr d hd)
        · exact bent_BW (hok d hd)
      exact body1 x h1 d hd _ (.own (.lst rows)) a s7 s8 K rfl fun s7 s8 => hK _ ⟨_, _, _, rfl⟩
    · rintro ρ ⟨s6, s7, s8, rfl⟩
      have ret : E.rt (.bl true) := by rw [hE]; exact h
      refine ifP_b (fun _ => ret) (fun z => ?_)
      have hne : x ≠ [] := fun e => by have z : (x == []) = false := z; rw [e] at z; cases z
      have hpos : 0 < x.length := List.length_pos_iff.mpr hne
      have sl : (startsD x).length ≤ 60 := by unfold startsD; rw [List.length_map, List.length_range]; have := (L_spec x).2.1; omega
      have sp : ∀ d ∈ startsD x, pvN BV 4 d = true := fun d hd => up (starts_pv x d hd) (Nat.le_refl _) (by omega)
      have c1 := cutL_len (startsD x) (some 1) none
      have c2 := cutL_len (startsD x) none (some 1)
      have c3 := cutL_len (startsD x) (some 2) none
      refine ⟨by show (startsD x).length + 1 ≤ _; omega, by show (startsD x).length + 1 ≤ _; omega, ⟨by omega, by omega⟩, ?_⟩
      refine ⟨by show 1 + (cutL (startsD x) (some 1) none).length ≤ _; omega, by omega, by show 9 + 6 ≤ 16777216; omega, ?_⟩
      refine ⟨⟨by omega, by omega⟩, ?_⟩
      refine lc_some (fun d : D => d) okV (fun i hi Q hQ => ?_) ?_
      · have en : ((x.length : Int) - 1).toNat = x.length - 1 := by omega
        show (rOk _ ∧ rOk _ ∧ _) ∧ wLcL _ _ _ _ (rngL 1 ((x.length : Int) - 1).toNat) [] _
        rw [en]
        refine ⟨⟨⟨by omega, by omega⟩, ⟨by omega, by omega⟩, by omega⟩, ?_⟩
        refine lc_pick (fun d => ∃ j : Int, d = .int j) _ [] (fun d hd => ?_) (fun _ hh => nomatch hh) fun l' h3 h4 => ?_
        · obtain ⟨j, _, rfl⟩ := List.mem_map.mp hd
          exact ⟨_, rfl, fun Q q => ⟨rfl, draw_go (by omega) (by omega) fun j _ _ => q _⟩, fun Q q => q _ _ ⟨_, rfl⟩ rfl⟩
        · rw [rngL_len] at h3
          have h3 : l'.length ≤ 0 + (x.length - 1) := h3
          refine ⟨by show 1 + l'.length ≤ _; omega, hQ (.tup ([.int 0] ++ l')) _ (okV_tup (by rw [List.length_append]; show 1 + l'.length ≤ _; omega) fun d hd => ?_) rfl⟩
          rcases List.mem_append.mp hd with hd | hd
          · rw [List.mem_singleton] at hd; rw [hd]; rfl
          · obtain ⟨j, rfl⟩ := h4 d hd; rfl
      · intro l2 hl2 hok2
        rw [List.map_id']
        have hl2 : l2.length = 5 := hl2
        have single : ∀ d : D, pvN BV 4 d = true → okV (.tup [d]) := fun d hd => okV_tup (by show 1 ≤ 100000; omega) fun e he => by rw [List.mem_singleton] at he; rw [he]; exact hd
        refine ⟨by show (9 + 6) + l2.length ≤ 16777216; omega, ?_⟩
        refine rest2 x h1 R h E hE _ (fun d hd => ?_) (by rw [List.length_append]; show (9 + 6) + l2.length ≤ 1000; omega) a s6 s7 s8
        rcases List.mem_append.mp hd with hd | hd
        · simp only [List.cons_append, List.nil_append, List.mem_cons, List.not_mem_nil, or_false] at hd
          have appd : ∀ (ys zs : List D), ys.length ≤ 1000 → zs.length ≤ 1000 → (∀ d ∈ ys, pvN BV 4 d = true) → (∀ d ∈ zs, pvN BV 4 d = true) → okV (.tup (ys ++ zs)) := fun ys zs hy hz py pz => okV_tup (by rw [List.length_append]; omega) fun d hd => by
            rcases List.mem_append.mp hd with hd | hd
            · exact py d hd
            · exact pz d hd
          have one1 : ∀ e : D, pvN BV 4 e = true → ∀ d ∈ [e], pvN BV 4 d = true := fun e he d hd => by rw [List.mem_singleton] at hd; rw [hd]; exact he
          rcases hd with rfl | rfl | rfl | rfl | rfl | rfl | rfl | rfl | rfl | rfl | rfl | rfl | rfl | rfl | rfl
          · exact starts_ok x h1
          · exact okV_tup (by omega) fun d hd => sp d (cutL_mem hd)
          · exact okV_tup (by rw [List.length_reverse]; omega) fun d hd => sp d (List.mem_reverse.mp hd)
          · exact appd _ _ (by omega) (by show 1 ≤ 1000; omega) sp (one1 _ rfl)
          · exact appd _ _ (by omega) (by show 1 ≤ 1000; omega) sp (one1 _ rfl)
          · exact single _ rfl
          · exact single _ rfl
          · exact okV_tup (by show 0 ≤ 100000; omega) fun _ hh => nomatch hh
          · refine okV_tup (by rw [rngL_len]; omega) fun d hd => ?_
            obtain ⟨j, _, rfl⟩ := List.mem_map.mp hd
            rfl
          · rfl
          · rfl
          · exact pv_str (by show 5 ≤ 100000; omega)
          · refine okV_tup (by show 2 ≤ 100000; omega) fun d hd => ?_
            simp only [List.mem_cons, List.not_mem_nil, or_false] at hd
            rcases hd with rfl | rfl <;> rfl
          · exact appd [.bl false] (cutL (startsD x) (some 1) none) (by show 1 ≤ 1000; omega) (by omega) (one1 _ rfl) fun d hd => sp d (cutL_mem hd)
          · exact appd _ _ (by omega) (by omega) (fun d hd => sp d (cutL_mem hd)) fun d hd => sp d (cutL_mem hd)
        · exact hok2 d hd
end K57
set_option Elab.async false
set_option linter.all false
set_option autoImplicit false
set_option maxRecDepth 100000
namespace K57
open PySem PySem.Spec L2 WL

theorem sem__law_fine : ∀ ds R, ds.length = 2 → s__law_fine.f ds R → w__law_fine s__law_greedy (sSame 6) s_pack s_milestones s_unpacked s__law_fewest s__law_drawn sDraw (sBent 6) s__law_given s_is_packing s__law_miles s_are_milestones { nx := fun _ => R .non, rt := R } (startW 12 ds) := by
  intro ds R _ ⟨x, hx, ⟨h1, hc⟩, h⟩
  subst hx
  have h1 : x.length ≤ 60 := h1
  have hc : ∀ c ∈ x, 97 ≤ c ∧ c ≤ 122 := hc
  have h : R (.bl true) := h
  have dl : (dueD x).length = L x := by unfold dueD; rw [List.length_map, List.length_range]
  have dL := (L_spec x).2.1
  have dp : ∀ d ∈ dueD x, pvN BV 4 d = true := fun d hd => up (due_pv x d hd) (Nat.le_refl _) (by omega)
  have c1 := cutL_len (dueD x) (some 1) none
  have c2 := cutL_len (dueD x) (some (-1)) none
  have c3 := cutL_len (dueD x) none (some (-1))
  refine ⟨rfl, x, rfl, h1, ?_⟩
  refine ⟨rfl, x, rfl, h1, rfl, same_eq rfl (pv_fit (by decide) 5 _ (due_ok x h1)) (ifP_f ⟨rfl, x, rfl, h1, rfl, same_eq rfl (pv_fit (by decide) 5 _ (starts_ok x h1)) (ifP_f ⟨rfl, (x, dueD x), rfl, ⟨h1, due_fine hc⟩, rfl, same_eq rfl rfl (ifP_f ⟨rfl, x, rfl, h1, ifP_b (fun z => ?_) (fun _ => ?_)⟩)⟩)⟩)⟩
  · have z : (!(((dueD x).length : Int) == (L x : Int))) = true := z
    rw [dl] at z
    simp at z
  refine ⟨by omega, ?_⟩
  refine ⟨⟨by omega, by omega⟩, ?_⟩
  have single : ∀ d : D, pvN BV 4 d = true → okV (.tup [d]) := fun d hd => okV_tup (by show 1 ≤ 100000; omega) fun e he => by rw [List.mem_singleton] at he; rw [he]; exact hd
  have appd : ∀ (ys zs : List D), ys.length ≤ 1000 → zs.length ≤ 1000 → (∀ d ∈ ys, pvN BV 4 d = true) → (∀ d ∈ zs, pvN BV 4 d = true) → okV (.tup (ys ++ zs)) := fun ys zs hy hz py pz => okV_tup (by rw [List.length_append]; omega) fun d hd => by
    rcases List.mem_append.mp hd with hd | hd
    · exact py d hd
    · exact pz d hd
  refine lc_some (fun d : D => d) okV (fun i hi Q hQ => ?_) ?_
  · exact ⟨rfl, x, rfl, h1, fun d hd => hQ d _ (pvN_mono (by decide) 2 d (by omega) hd) rfl⟩
  · intro l hll hok
    rw [List.map_id']
    have hll : l.length = 3 := hll
    refine ⟨by show 14 + l.length ≤ 16777216; omega, ?_⟩
    have xl : (x.map fun c => D.str [c]).length ≤ 60 := by rw [List.length_map]; exact h1
    have ok1 : ∀ d ∈ [D.tup (dueD x), .tup (dueD x).reverse, .tup (cutL (dueD x) (some 1) none), .tup (dueD x ++ cutL (dueD x) (some (-1)) none), .tup (cutL (dueD x) none (some (-1))), .tup (x.map fun c => .str [c]), .tup [.str x], .tup [], .non, .int 1, .str x, .tup [.tup [.int 0, .int 1]], .tup [.str []], .tup [.str [65]]] ++ l, okV d := by
      intro d hd
      rcases List.mem_append.mp hd with hd | hd
      · simp only [List.mem_cons, List.not_mem_nil, or_false] at hd
        rcases hd with rfl | rfl | rfl | rfl | rfl | rfl | rfl | rfl | rfl | rfl | rfl | rfl | rfl | rfl
        · exact due_ok x h1
        · exact okV_tup (by rw [List.length_reverse]; omega) fun d hd => dp d (List.mem_reverse.mp hd)
        · exact okV_tup (by omega) fun d hd => dp d (cutL_mem hd)
        · exact appd (dueD x) (cutL (dueD x) (some (-1)) none) (by omega) (by omega) dp fun d hd => dp d (cutL_mem hd)
        · exact okV_tup (by omega) fun d hd => dp d (cutL_mem hd)
        · refine okV_tup (by omega) fun d hd => ?_
          obtain ⟨c, _, rfl⟩ := List.mem_map.mp hd
          exact pv_str (by show 1 ≤ 100000; omega)
        · exact single _ (pv_str (by show x.length ≤ 100000; omega))
        · exact okV_tup (by show 0 ≤ 100000; omega) fun _ hh => nomatch hh
        · rfl
        · rfl
        · exact pv_str (by show x.length ≤ 100000; omega)
        · refine single _ (pv_tup (by show 2 ≤ 100000; omega) fun d hd => ?_)
          simp only [List.mem_cons, List.not_mem_nil, or_false] at hd
          rcases hd with rfl | rfl <;> rfl
        · exact single _ (pv_str (by show 0 ≤ 100000; omega))
        · exact single _ (pv_str (by show 1 ≤ 100000; omega))
      · exact hok d hd
    have hl1 : ([D.tup (dueD x), .tup (dueD x).reverse, .tup (cutL (dueD x) (some 1) none), .tup (dueD x ++ cutL (dueD x) (some (-1)) none), .tup (cutL (dueD x) none (some (-1))), .tup (x.map fun c => .str [c]), .tup [.str x], .tup [], .non, .int 1, .str x, .tup [.tup [.int 0, .int 1]], .tup [.str []], .tup [.str [65]]] ++ l).length = 17 := by rw [List.length_append, hll]; rfl
    refine ifP_b (fun z => ?_) (fun _ => rest1 x h1 R h _ rfl _ ok1 (by omega) (by omega) .un)
    have z : (0 : Int) < ((dueD x).length : Int) := of_decide_eq_true z
    refine ⟨rfl, draw_go z (by omega) fun j hj0 hj1 => ?_⟩
    have e1 : (cutL (dueD x) none (some j)).length ≤ (dueD x).length := cutL_len _ _ _
    have e2 : (cutL (dueD x) (some (j + 1)) none).length ≤ (dueD x).length := cutL_len _ _ _
    refine lc_list (fun d => .tup ((cutL (dueD x) none (some j) ++ [d]) ++ cutL (dueD x) (some (j + 1)) none)) (fun d hd => ⟨_, rfl, fun Q hQ => ⟨by show _ + 1 ≤ _; omega, by rw [List.length_append]; show _ + 1 + _ ≤ _; omega, hQ _ rfl⟩⟩) ?_
    refine ⟨by rw [hl1]; show 17 + 8 ≤ 16777216; omega, ?_⟩
    refine rest1 x h1 R h _ rfl _ (fun d hd => ?_) (by rw [List.length_append, hl1]; show 17 + 8 ≤ 1000; omega) (by rw [List.length_append, hl1]; show 0 < 17 + 8; omega) (.val (.int j))
    rcases List.mem_append.mp hd with hd | hd
    · exact ok1 d hd
    · obtain ⟨e, he, rfl⟩ := List.mem_map.mp hd
      have hep : pvN BV 4 e = true := by
        simp only [List.mem_cons, List.not_mem_nil, or_false] at he
        rcases he with rfl | rfl | rfl | rfl | rfl | rfl | rfl | rfl
        · exact pv_str (by show 1 ≤ 100000; omega)
        all_goals
          refine pv_tup (by first | (show 2 ≤ 100000; omega) | (show 3 ≤ 100000; omega)) fun d hd => ?_
          simp only [List.mem_cons, List.not_mem_nil, or_false] at hd
          rcases hd with rfl | rfl | rfl <;> rfl
      refine appd (cutL (dueD x) none (some j) ++ [e]) (cutL (dueD x) (some (j + 1)) none) (by rw [List.length_append]; show _ + 1 ≤ 1000; omega) (by omega) (fun d hd => ?_) fun d hd => dp d (cutL_mem hd)
      rcases List.mem_append.mp hd with hd | hd
      · exact dp d (cutL_mem hd)
      · rw [List.mem_singleton] at hd; rw [hd]; exact hep
abbrev okW (w : Wd) : Prop := w.length ≤ 60 ∧ ∀ c ∈ w, 97 ≤ c ∧ c ≤ 122
theorem sem_law : w_law sWord2 sDraw s__law_fine { nx := fun _ => False, rt := fun d => d = .bl true } ((List.replicate 5 Slot.un).set 1 (.val .box)) := by
  refine ⟨⟨by omega, by omega⟩, ?_⟩
  have all : ∀ (l : List Wd) (E : WEnds), E.rt = (fun d => d = D.bl true) → (∀ w ∈ l, okW w) → wRet (wB oAll (wCons (wLc (wIt (wName 2)) (.one 4) wYes (wCall s__law_fine 2 (wCons (wName 1) (wCons (wName 4) wNil))) [4]) wNil)) E [.un, .val .box, .own (.lst (l.map D.str)), .un, .un] := by
    intro l E hE hok
    refine lc_map (fun _ => .bl true) (fun w hw => ⟨_, rfl, fun Q hQ => ⟨rfl, w, rfl, hok w hw, hQ _ rfl⟩⟩) ?_
    show match boolsOf (l.map fun _ => D.bl true) with | some ns => _ | none => False
    rw [boolsOf_map (fun _ => true) l]
    show E.rt (.bl ((l.map fun _ => true).all fun b => b))
    rw [List.all_map, hE]
    show D.bl (l.all fun _ => true) = .bl true
    rw [List.all_eq_true.mpr fun _ _ => rfl]
  refine lc_some D.str okW (fun i hi Q hQ => ?_) ?_
  · refine ⟨rfl, draw_go (by omega) (by omega) fun d hd0 hd1 => ⟨rfl, (12, 1 + d), rfl, ⟨by show (0 : Int) ≤ 12; omega, by show (12 : Int) ≤ 60; omega, by show 1 ≤ 1 + d; omega, by show 1 + d ≤ 26; omega⟩, ?_⟩⟩
    rintro _ ⟨w, rfl, hw, hc⟩
    have hw : (w.length : Int) ≤ 12 := hw
    exact hQ w _ ⟨by omega, hc⟩ rfl
  · intro l hl hok
    have hl : l.length = 3 := hl
    refine ⟨rfl, draw_go (by omega) (by omega) fun q _ _ => ifP_b (fun _ => ?_) (fun _ => all l _ rfl hok)⟩
    refine ⟨rfl, draw_go (by omega) (by omega) fun d hd0 hd1 => ⟨rfl, (60, 1 + d), rfl, ⟨by show (0 : Int) ≤ 60; omega, by show (60 : Int) ≤ 60; omega, by show 1 ≤ 1 + d; omega, by show 1 + d ≤ 26; omega⟩, ?_⟩⟩
    rintro _ ⟨w, rfl, hw, hc⟩
    have hw : (w.length : Int) ≤ 60 := hw
    refine ⟨by rw [List.length_map]; omega, ?_⟩
    have := all (l ++ [w]) { nx := fun _ => False, rt := fun d => d = .bl true } rfl fun v hv => by
      rcases List.mem_append.mp hv with hv | hv
      · exact hok v hv
      · rw [List.mem_singleton] at hv; rw [hv]; exact ⟨by omega, hc⟩
    rw [List.map_append] at this
    exact this
end K57
set_option Elab.async false
set_option linter.all false
set_option autoImplicit false
set_option maxRecDepth 100000
namespace K57
open PySem PySem.Spec L2 WL
theorem all_mk {l : PySem.W.OpenLaw} {w : World} {K : PySem.W.Frag} {h : Heap} {mg : Str → Option Value} {fa f0 f1 f2 f3 f4 f5 f6 f7 f8 f9 f10 f11 f12 f13 f14 f15 f16 f17 f18 f19 f20 f21 f22 f23 f24 f25 : Addr} (X : K.In h) (G : h.Ns mainGlobals mg) (hfa : mg "law" = some (.ref fa))
    {od0 an0 od1 an1 od2 an2 od3 an3 od4 an4 od5 an5 od6 an6 od7 an7 od8 an8 od9 an9 od10 an10 od11 an11 od12 an12 od13 an13 od14 an14 od15 an15 od16 an16 od17 an17 od18 an18 od19 an19 od20 an20 od21 an21 od22 an22 od23 an23 od24 an24 od25 an25 : Option Addr} {sl0 sl1 sl2 sl3 sl4 sl5 sl6 sl7 sl8 sl9 sl10 sl11 sl12 sl13 sl14 sl15 sl16 sl17 sl18 sl19 sl20 sl21 sl22 sl23 sl24 sl25 : Array (Option Value)} {oc0 kV0 dc0 pm0 cd0 ct0 oc1 kV1 dc1 pm1 cd1 ct1 oc2 kV2 dc2 pm2 cd2 ct2 oc3 kV3 dc3 pm3 cd3 ct3 oc4 kV4 dc4 pm4 cd4 ct4 oc5 kV5 dc5 pm5 cd5 ct5 oc6 kV6 dc6 pm6 cd6 ct6 oc7 kV7 dc7 pm7 cd7 ct7 oc8 kV8 dc8 pm8 cd8 ct8 oc9 kV9 dc9 pm9 cd9 ct9 oc10 kV10 dc10 pm10 cd10 ct10 oc11 kV11 dc11 pm11 cd11 ct11 oc12 kV12 dc12 pm12 cd12 ct12 oc13 kV13 dc13 pm13 cd13 ct13 oc14 kV14 dc14 pm14 cd14 ct14 oc15 kV15 dc15 pm15 cd15 ct15 oc16 kV16 dc16 pm16 cd16 ct16 oc17 kV17 dc17 pm17 cd17 ct17 oc18 kV18 dc18 pm18 cd18 ct18 oc19 kV19 dc19 pm19 cd19 ct19 oc20 kV20 dc20 pm20 cd20 ct20 oc21 kV21 dc21 pm21 cd21 ct21 oc22 kV22 dc22 pm22 cd22 ct22 oc23 kV23 dc23 pm23 cd23 ct23 oc24 kV24 dc24 pm24 cd24 ct24 oc25 kV25 dc25 pm25 cd25 ct25 : Value} {tkLETTERS : Tok}
    (a0 : PySem.W.nsIn K mainGlobals "is_whole" = some (some (.ref f0))) (l0 : K.lookup f0 = some ⟨oc0, od0, .func (PySem.W.fnOf "is_whole" "is_whole" (defArgs st_is_whole) (defBody st_is_whole) (defScope st_is_whole) .none kV0 dc0 pm0 an0 cd0 ct0), sl0⟩) (c0 : PySem.W.codeIn K cd0 "is_whole" = true) (k0 : PySem.W.keepIn K (.ref f0) = true)
    (a1 : PySem.W.nsIn K mainGlobals "text_behind" = some (some (.ref f1))) (l1 : K.lookup f1 = some ⟨oc1, od1, .func (PySem.W.fnOf "text_behind" "text_behind" (defArgs st_text_behind) (defBody st_text_behind) (defScope st_text_behind) .none kV1 dc1 pm1 an1 cd1 ct1), sl1⟩) (c1 : PySem.W.codeIn K cd1 "text_behind" = true) (k1 : PySem.W.keepIn K (.ref f1) = true)
    (a2 : PySem.W.nsIn K mainGlobals "is_item" = some (some (.ref f2))) (l2 : K.lookup f2 = some ⟨oc2, od2, .func (PySem.W.fnOf "is_item" "is_item" (defArgs st_is_item) (defBody st_is_item) (defScope st_is_item) .none kV2 dc2 pm2 an2 cd2 ct2), sl2⟩) (c2 : PySem.W.codeIn K cd2 "is_item" = true) (k2 : PySem.W.keepIn K (.ref f2) = true)
    (a3 : PySem.W.nsIn K mainGlobals "is_packing" = some (some (.ref f3))) (l3 : K.lookup f3 = some ⟨oc3, od3, .func (PySem.W.fnOf "is_packing" "is_packing" (defArgs st_is_packing) (defBody st_is_packing) (defScope st_is_packing) .none kV3 dc3 pm3 an3 cd3 ct3), sl3⟩) (c3 : PySem.W.codeIn K cd3 "is_packing" = true) (k3 : PySem.W.keepIn K (.ref f3) = true)
    (a4 : PySem.W.nsIn K mainGlobals "unpacked" = some (some (.ref f4))) (l4 : K.lookup f4 = some ⟨oc4, od4, .func (PySem.W.fnOf "unpacked" "unpacked" (defArgs st_unpacked) (defBody st_unpacked) (defScope st_unpacked) .none kV4 dc4 pm4 an4 cd4 ct4), sl4⟩) (c4 : PySem.W.codeIn K cd4 "unpacked" = true) (k4 : PySem.W.keepIn K (.ref f4) = true)
    (a5 : PySem.W.nsIn K mainGlobals "first_place" = some (some (.ref f5))) (l5 : K.lookup f5 = some ⟨oc5, od5, .func (PySem.W.fnOf "first_place" "first_place" (defArgs st_first_place) (defBody st_first_place) (defScope st_first_place) .none kV5 dc5 pm5 an5 cd5 ct5), sl5⟩) (c5 : PySem.W.codeIn K cd5 "first_place" = true) (k5 : PySem.W.keepIn K (.ref f5) = true)
    (a6 : PySem.W.nsIn K mainGlobals "are_milestones" = some (some (.ref f6))) (l6 : K.lookup f6 = some ⟨oc6, od6, .func (PySem.W.fnOf "are_milestones" "are_milestones" (defArgs st_are_milestones) (defBody st_are_milestones) (defScope st_are_milestones) .none kV6 dc6 pm6 an6 cd6 ct6), sl6⟩) (c6 : PySem.W.codeIn K cd6 "are_milestones" = true) (k6 : PySem.W.keepIn K (.ref f6) = true)
    (a7 : PySem.W.nsIn K mainGlobals "next_end" = some (some (.ref f7))) (l7 : K.lookup f7 = some ⟨oc7, od7, .func (PySem.W.fnOf "next_end" "next_end" (defArgs st_next_end) (defBody st_next_end) (defScope st_next_end) .none kV7 dc7 pm7 an7 cd7 ct7), sl7⟩) (c7 : PySem.W.codeIn K cd7 "next_end" = true) (k7 : PySem.W.keepIn K (.ref f7) = true)
    (a8 : PySem.W.nsIn K mainGlobals "pack" = some (some (.ref f8))) (l8 : K.lookup f8 = some ⟨oc8, od8, .func (PySem.W.fnOf "pack" "pack" (defArgs st_pack) (defBody st_pack) (defScope st_pack) .none kV8 dc8 pm8 an8 cd8 ct8), sl8⟩) (c8 : PySem.W.codeIn K cd8 "pack" = true) (k8 : PySem.W.keepIn K (.ref f8) = true)
    (a9 : PySem.W.nsIn K mainGlobals "milestones" = some (some (.ref f9))) (l9 : K.lookup f9 = some ⟨oc9, od9, .func (PySem.W.fnOf "milestones" "milestones" (defArgs st_milestones) (defBody st_milestones) (defScope st_milestones) .none kV9 dc9 pm9 an9 cd9 ct9), sl9⟩) (c9 : PySem.W.codeIn K cd9 "milestones" = true) (k9 : PySem.W.keepIn K (.ref f9) = true)
    (a10 : PySem.W.nsIn K mainGlobals "_law_box" = some (some (.ref f10))) (l10 : K.lookup f10 = some ⟨oc10, od10, .func (PySem.W.fnOf "_law_box" "_law_box" (defArgs st__law_box) (defBody st__law_box) (defScope st__law_box) .none kV10 dc10 pm10 an10 cd10 ct10), sl10⟩) (c10 : PySem.W.codeIn K cd10 "_law_box" = true) (k10 : PySem.W.keepIn K (.ref f10) = true)
    (a11 : PySem.W.nsIn K mainGlobals "_law_load" = some (some (.ref f11))) (l11 : K.lookup f11 = some ⟨oc11, od11, .func (PySem.W.fnOf "_law_load" "_law_load" (defArgs st__law_load) (defBody st__law_load) (defScope st__law_load) .none kV11 dc11 pm11 an11 cd11 ct11), sl11⟩) (c11 : PySem.W.codeIn K cd11 "_law_load" = true) (k11 : PySem.W.keepIn K (.ref f11) = true)
    (a12 : PySem.W.nsIn K mainGlobals "_law_draw" = some (some (.ref f12))) (l12 : K.lookup f12 = some ⟨oc12, od12, .func (PySem.W.fnOf "_law_draw" "_law_draw" (defArgs st__law_draw) (defBody st__law_draw) (defScope st__law_draw) .none kV12 dc12 pm12 an12 cd12 ct12), sl12⟩) (c12 : PySem.W.codeIn K cd12 "_law_draw" = true) (k12 : PySem.W.keepIn K (.ref f12) = true)
    (a13 : PySem.W.nsIn K mainGlobals "_law_same" = some (some (.ref f13))) (l13 : K.lookup f13 = some ⟨oc13, od13, .func (PySem.W.fnOf "_law_same" "_law_same" (defArgs st__law_same) (defBody st__law_same) (defScope st__law_same) .none kV13 dc13 pm13 an13 cd13 ct13), sl13⟩) (c13 : PySem.W.codeIn K cd13 "_law_same" = true) (k13 : PySem.W.keepIn K (.ref f13) = true)
    (a14 : PySem.W.nsIn K mainGlobals "_law_word" = some (some (.ref f14))) (l14 : K.lookup f14 = some ⟨oc14, od14, .func (PySem.W.fnOf "_law_word" "_law_word" (defArgs st__law_word) (defBody st__law_word) (defScope st__law_word) .none kV14 dc14 pm14 an14 cd14 ct14), sl14⟩) (c14 : PySem.W.codeIn K cd14 "_law_word" = true) (k14 : PySem.W.keepIn K (.ref f14) = true)
    (a15 : PySem.W.nsIn K mainGlobals "_law_letters" = some (some (.ref f15))) (l15 : K.lookup f15 = some ⟨oc15, od15, .func (PySem.W.fnOf "_law_letters" "_law_letters" (defArgs st__law_letters) (defBody st__law_letters) (defScope st__law_letters) .none kV15 dc15 pm15 an15 cd15 ct15), sl15⟩) (c15 : PySem.W.codeIn K cd15 "_law_letters" = true) (k15 : PySem.W.keepIn K (.ref f15) = true)
    (a16 : PySem.W.nsIn K mainGlobals "_law_bent" = some (some (.ref f16))) (l16 : K.lookup f16 = some ⟨oc16, od16, .func (PySem.W.fnOf "_law_bent" "_law_bent" (defArgs st__law_bent) (defBody st__law_bent) (defScope st__law_bent) .none kV16 dc16 pm16 an16 cd16 ct16), sl16⟩) (c16 : PySem.W.codeIn K cd16 "_law_bent" = true) (k16 : PySem.W.keepIn K (.ref f16) = true)
    (a17 : PySem.W.nsIn K mainGlobals "_law_whole" = some (some (.ref f17))) (l17 : K.lookup f17 = some ⟨oc17, od17, .func (PySem.W.fnOf "_law_whole" "_law_whole" (defArgs st__law_whole) (defBody st__law_whole) (defScope st__law_whole) .none kV17 dc17 pm17 an17 cd17 ct17), sl17⟩) (c17 : PySem.W.codeIn K cd17 "_law_whole" = true) (k17 : PySem.W.keepIn K (.ref f17) = true)
    (a18 : PySem.W.nsIn K mainGlobals "_law_given" = some (some (.ref f18))) (l18 : K.lookup f18 = some ⟨oc18, od18, .func (PySem.W.fnOf "_law_given" "_law_given" (defArgs st__law_given) (defBody st__law_given) (defScope st__law_given) .none kV18 dc18 pm18 an18 cd18 ct18), sl18⟩) (c18 : PySem.W.codeIn K cd18 "_law_given" = true) (k18 : PySem.W.keepIn K (.ref f18) = true)
    (a19 : PySem.W.nsIn K mainGlobals "_law_stands_before" = some (some (.ref f19))) (l19 : K.lookup f19 = some ⟨oc19, od19, .func (PySem.W.fnOf "_law_stands_before" "_law_stands_before" (defArgs st__law_stands_before) (defBody st__law_stands_before) (defScope st__law_stands_before) .none kV19 dc19 pm19 an19 cd19 ct19), sl19⟩) (c19 : PySem.W.codeIn K cd19 "_law_stands_before" = true) (k19 : PySem.W.keepIn K (.ref f19) = true)
    (a20 : PySem.W.nsIn K mainGlobals "_law_greedy" = some (some (.ref f20))) (l20 : K.lookup f20 = some ⟨oc20, od20, .func (PySem.W.fnOf "_law_greedy" "_law_greedy" (defArgs st__law_greedy) (defBody st__law_greedy) (defScope st__law_greedy) .none kV20 dc20 pm20 an20 cd20 ct20), sl20⟩) (c20 : PySem.W.codeIn K cd20 "_law_greedy" = true) (k20 : PySem.W.keepIn K (.ref f20) = true)
    (a21 : PySem.W.nsIn K mainGlobals "_law_fewest" = some (some (.ref f21))) (l21 : K.lookup f21 = some ⟨oc21, od21, .func (PySem.W.fnOf "_law_fewest" "_law_fewest" (defArgs st__law_fewest) (defBody st__law_fewest) (defScope st__law_fewest) .none kV21 dc21 pm21 an21 cd21 ct21), sl21⟩) (c21 : PySem.W.codeIn K cd21 "_law_fewest" = true) (k21 : PySem.W.keepIn K (.ref f21) = true)
    (a22 : PySem.W.nsIn K mainGlobals "_law_drawn" = some (some (.ref f22))) (l22 : K.lookup f22 = some ⟨oc22, od22, .func (PySem.W.fnOf "_law_drawn" "_law_drawn" (defArgs st__law_drawn) (defBody st__law_drawn) (defScope st__law_drawn) .none kV22 dc22 pm22 an22 cd22 ct22), sl22⟩) (c22 : PySem.W.codeIn K cd22 "_law_drawn" = true) (k22 : PySem.W.keepIn K (.ref f22) = true)
    (a23 : PySem.W.nsIn K mainGlobals "_law_miles" = some (some (.ref f23))) (l23 : K.lookup f23 = some ⟨oc23, od23, .func (PySem.W.fnOf "_law_miles" "_law_miles" (defArgs st__law_miles) (defBody st__law_miles) (defScope st__law_miles) .none kV23 dc23 pm23 an23 cd23 ct23), sl23⟩) (c23 : PySem.W.codeIn K cd23 "_law_miles" = true) (k23 : PySem.W.keepIn K (.ref f23) = true)
    (a24 : PySem.W.nsIn K mainGlobals "_law_fine" = some (some (.ref f24))) (l24 : K.lookup f24 = some ⟨oc24, od24, .func (PySem.W.fnOf "_law_fine" "_law_fine" (defArgs st__law_fine) (defBody st__law_fine) (defScope st__law_fine) .none kV24 dc24 pm24 an24 cd24 ct24), sl24⟩) (c24 : PySem.W.codeIn K cd24 "_law_fine" = true) (k24 : PySem.W.keepIn K (.ref f24) = true)
    (a25 : PySem.W.nsIn K mainGlobals "law" = some (some (.ref f25))) (l25 : K.lookup f25 = some ⟨oc25, od25, .func (PySem.W.fnOf "law" "law" (defArgs st_law) (defBody st_law) (defScope st_law) .none kV25 dc25 pm25 an25 cd25 ct25), sl25⟩) (c25 : PySem.W.codeIn K cd25 "law" = true) (k25 : PySem.W.keepIn K (.ref f25) = true)
    (zzisinstance : PySem.W.nsIn K mainGlobals "isinstance" = some none)
    (zzint : PySem.W.nsIn K mainGlobals "int" = some none)
    (zzbool : PySem.W.nsIn K mainGlobals "bool" = some none)
    (zzstr : PySem.W.nsIn K mainGlobals "str" = some none)
    (zzrange : PySem.W.nsIn K mainGlobals "range" = some none)
    (zzlen : PySem.W.nsIn K mainGlobals "len" = some none)
    (zztuple : PySem.W.nsIn K mainGlobals "tuple" = some none)
    (zzall : PySem.W.nsIn K mainGlobals "all" = some none)
    (zzmax : PySem.W.nsIn K mainGlobals "max" = some none)
    (zzlist : PySem.W.nsIn K mainGlobals "list" = some none)
    (zzmin : PySem.W.nsIn K mainGlobals "min" = some none)
    (hhLETTERS : PySem.W.nsIn K mainGlobals "LETTERS" = some (some (.str (Str.ofString "abcdefghijklmnopqrstuvwxyz") tkLETTERS))) :
    ∃ fd : FuncData, (∀ (s : Shared) (v : Value), BindsTo s fd ⟨[v], []⟩ [("script", v)]) ∧ ∀ base : Heap, K.In base → base.Ns mainGlobals mg → FnOk l.prog w K mg base CX0 11 fa fd ["script"] (spLaw K) := by
  have e := hfa.symm.trans (PySem.W.mg_of X G a25)
  cases e
  have F0 := fun_mk (st := st_is_whole) l0 c0 k0
  have m0 := PySem.W.mg_of X G a0
  have F1 := fun_mk (st := st_text_behind) l1 c1 k1
  have m1 := PySem.W.mg_of X G a1
  have F2 := fun_mk (st := st_is_item) l2 c2 k2
  have m2 := PySem.W.mg_of X G a2
  have F3 := fun_mk (st := st_is_packing) l3 c3 k3
  have m3 := PySem.W.mg_of X G a3
  have F4 := fun_mk (st := st_unpacked) l4 c4 k4
  have m4 := PySem.W.mg_of X G a4
  have F5 := fun_mk (st := st_first_place) l5 c5 k5
  have m5 := PySem.W.mg_of X G a5
  have F6 := fun_mk (st := st_are_milestones) l6 c6 k6
  have m6 := PySem.W.mg_of X G a6
  have F7 := fun_mk (st := st_next_end) l7 c7 k7
  have m7 := PySem.W.mg_of X G a7
  have F8 := fun_mk (st := st_pack) l8 c8 k8
  have m8 := PySem.W.mg_of X G a8
  have F9 := fun_mk (st := st_milestones) l9 c9 k9
  have m9 := PySem.W.mg_of X G a9
  have F10 := fun_mk (st := st__law_box) l10 c10 k10
  have m10 := PySem.W.mg_of X G a10
  have F11 := fun_mk (st := st__law_load) l11 c11 k11
  have m11 := PySem.W.mg_of X G a11
  have F12 := fun_mk (st := st__law_draw) l12 c12 k12
  have m12 := PySem.W.mg_of X G a12
  have F13 := fun_mk (st := st__law_same) l13 c13 k13
  have m13 := PySem.W.mg_of X G a13
  have F14 := fun_mk (st := st__law_word) l14 c14 k14
  have m14 := PySem.W.mg_of X G a14
  have F15 := fun_mk (st := st__law_letters) l15 c15 k15
  have m15 := PySem.W.mg_of X G a15
  have F16 := fun_mk (st := st__law_bent) l16 c16 k16
  have m16 := PySem.W.mg_of X G a16
  have F17 := fun_mk (st := st__law_whole) l17 c17 k17
  have m17 := PySem.W.mg_of X G a17
  have F18 := fun_mk (st := st__law_given) l18 c18 k18
  have m18 := PySem.W.mg_of X G a18
  have F19 := fun_mk (st := st__law_stands_before) l19 c19 k19
  have m19 := PySem.W.mg_of X G a19
  have F20 := fun_mk (st := st__law_greedy) l20 c20 k20
  have m20 := PySem.W.mg_of X G a20
  have F21 := fun_mk (st := st__law_fewest) l21 c21 k21
  have m21 := PySem.W.mg_of X G a21
  have F22 := fun_mk (st := st__law_drawn) l22 c22 k22
  have m22 := PySem.W.mg_of X G a22
  have F23 := fun_mk (st := st__law_miles) l23 c23 k23
  have m23 := PySem.W.mg_of X G a23
  have F24 := fun_mk (st := st__law_fine) l24 c24 k24
  have m24 := PySem.W.mg_of X G a24
  have F25 := fun_mk (st := st_law) l25 c25 k25
  have m25 := PySem.W.mg_of X G a25
  have zisinstance := PySem.W.mg_none_of X G zzisinstance
  have zint := PySem.W.mg_none_of X G zzint
  have zbool := PySem.W.mg_none_of X G zzbool
  have zstr := PySem.W.mg_none_of X G zzstr
  have zrange := PySem.W.mg_none_of X G zzrange
  have zlen := PySem.W.mg_none_of X G zzlen
  have ztuple := PySem.W.mg_none_of X G zztuple
  have zall := PySem.W.mg_none_of X G zzall
  have zmax := PySem.W.mg_none_of X G zzmax
  have zlist := PySem.W.mg_none_of X G zzlist
  have zmin := PySem.W.mg_none_of X G zzmin
  have hLETTERS := PySem.W.mg_of X G hhLETTERS
  refine ⟨PySem.W.fnOf "law" "law" (defArgs st_law) (defBody st_law) (defScope st_law) .none kV25 dc25 pm25 an25 cd25 ct25, fun s v => .of_eq rfl, fun base _ _ => ?_⟩
  have C0 : Cal l.prog w K mg base AnyB "is_whole" 1 ["value"] (s_is_whole) := ok_is_whole F0 m0  zisinstance zint zbool  sem_is_whole
  have C1 : Cal l.prog w K mg base AnyB "text_behind" 1 ["text", "item"] (s_text_behind) := ok_text_behind F1 m1  zisinstance zstr zrange  sem_text_behind
  have C5 : Cal l.prog w K mg base AnyB "first_place" 1 ["word", "start", "end"] (s_first_place) := ok_first_place F5 m5    sem_first_place
  have C15 : Cal l.prog w K mg base AnyB "_law_letters" 1 [] (s_letters) := ok__law_letters F15 m15    sem_letters
  have C17 : Cal l.prog w K mg base AnyB "_law_whole" 1 ["value"] (s__law_whole) := ok__law_whole F17 m17  zisinstance zint zbool  sem__law_whole
  have C19 : Cal l.prog w K mg base AnyB "_law_stands_before" 1 ["word", "start", "end"] (s__law_stands_before) := ok__law_stands_before F19 m19  zrange zlen  sem__law_stands_before
  have C2 : Cal l.prog w K mg base AnyB "is_item" 2 ["text", "value", "most"] (s_is_item) := ok_is_item F2 m2 C0 zisinstance zstr zlen ztuple hLETTERS sem_is_item
  have C4 : Cal l.prog w K mg base AnyB "unpacked" 2 ["items"] (s_unpacked) := ok_unpacked F4 m4 C1   sem_unpacked
  have C6 : Cal l.prog w K mg base AnyB "are_milestones" 2 ["word", "value"] (s_are_milestones) := ok_are_milestones F6 m6 C0 C5 zisinstance ztuple zall zlen zrange  sem_are_milestones
  have C7 : Cal l.prog w K mg base AnyB "next_end" 2 ["word", "start"] (s_next_end) := ok_next_end F7 m7 C5 zlen  sem_next_end
  have C12 : Cal l.prog w K mg base IsBox "_law_draw" 2 ["box", "many"] sDraw := cal_draw m12 F12.kp (F12.binds fun _ _ _ _ _ _ us hl => match us, hl with | [_, _], _ => rfl) (raw_draw F12 F11 m11 zlen zint)
  have C18 : Cal l.prog w K mg base AnyB "_law_given" 2 ["word", "value"] (s__law_given) := ok__law_given F18 m18 C15 C17 zisinstance ztuple zstr zlen zrange  sem__law_given
  have C20 : Cal l.prog w K mg base AnyB "_law_greedy" 2 ["word"] (s__law_greedy) := ok__law_greedy F20 m20 C19 zrange zlen ztuple  sem__law_greedy
  have C21 : Cal l.prog w K mg base AnyB "_law_fewest" 2 ["word"] (s__law_fewest) := ok__law_fewest F21 m21 C19 zrange zlen zmin  sem__law_fewest
  have C23 : Cal l.prog w K mg base AnyB "_law_miles" 2 ["word", "value"] (s__law_miles) := ok__law_miles F23 m23 C17 C19 zisinstance ztuple zlen zall zrange  sem__law_miles
  have C3 : Cal l.prog w K mg base AnyB "is_packing" 3 ["word", "value"] (s_is_packing) := ok_is_packing F3 m3 C2 C1 zisinstance ztuple zlen  sem_is_packing
  have C8 : Cal l.prog w K mg base AnyB "pack" 3 ["word"] (s_pack) := ok_pack F8 m8 C7 C5 zlen ztuple  sem_pack
  have C9 : Cal l.prog w K mg base AnyB "milestones" 3 ["word"] (s_milestones) := ok_milestones F9 m9 C7 zlen zmax ztuple  sem_milestones
  have C14 : Cal l.prog w K mg base IsBox "_law_word" 3 ["box", "most", "k"] (sWord2) := ok__law_word F14 m14 C12 C15 zrange zmin  sem_word2
  have C22 : Cal l.prog w K mg base IsBox "_law_drawn" 3 ["box", "word"] (s__law_drawn) := ok__law_drawn F22 m22 C12 zrange zlen zmin ztuple  sem__law_drawn
  have C13 : Cal l.prog w K mg base AnyB "_law_same" 7 ["a", "b"] (sSame 6) := by
    have step : ∀ n : Nat, Cal l.prog w K mg base AnyB "_law_same" (1 + n) ["a", "b"] (sSame n) := by
      intro n
      induction n with
      | zero => exact cal_bot m13 F13.kp (F13.binds fun _ _ _ _ _ _ us hl => match us, hl with | [_, _], _ => rfl) same_bot
      | succ n ih => exact ok__law_same F13 m13 (by first | omega | (simp only [Nat.add_eq]; omega)) ih zisinstance ztuple zlist zlen zall zrange zbool zint zstr  (sem_same n)
    exact step 6
  have C16 : Cal l.prog w K mg base IsBox "_law_bent" 9 ["box", "value"] (sBent 6) := by
    have step : ∀ n : Nat, Cal l.prog w K mg base IsBox "_law_bent" (3 + n) ["box", "value"] (sBent n) := by
      intro n
      induction n with
      | zero => exact cal_bot m16 F16.kp (F16.binds fun _ _ _ _ _ _ us hl => match us, hl with | [_, _], _ => rfl) bent_bot
      | succ n ih => exact ok__law_bent F16 m16 (by first | omega | (simp only [Nat.add_eq]; omega)) C12 ih zisinstance ztuple zlen zstr zint zbool  (sem_bent n)
    exact step 6
  have C24 : Cal l.prog w K mg base IsBox "_law_fine" 10 ["box", "word"] (s__law_fine) := ok__law_fine F24 m24 C20 C13 C8 C9 C4 C21 C22 C12 C16 C18 C3 C23 C6 zlen ztuple zrange  sem__law_fine
  exact ok_law F25 F10 m10 C14 C12 C24 zrange zall zlist zlen  sem_law
end K57
open PySem PySem.W PyProof.Rows
set_option maxHeartbeats 0 in
theorem PySem.Challenge.cw_tworeadings_k57_whole_packings_and_miles_holds : PySem.Challenge.rw_tworeadings_k57_whole_packings_and_miles.Holds := by
  w_on; o_law; k_head; (case hw => w_witness2)
  k_fill
  refine L2.walk_of (l := PySem.Challenge.rw_tworeadings_k57_whole_packings_and_miles) (n := 63) (k := 11) (x := "script") (CX := fun _ => L2.CX0) (sp := fun w => WL.spLaw _) rfl (by decide) rfl ⟨rfl, by decide, by decide⟩ (fun w h Y => PySem.W.kIn_of Y) ?F (fun _ _ a ns hl _ hS => ⟨a, ns, rfl, hS, hl, fun _ => rfl⟩) (fun _ _ _ _ _ h => h)
  case F =>
    intro w mg fa h KX G hmg
    refine' K57.all_mk KX G hmg ?a0 ?l0 ?c0 ?k0 ?a1 ?l1 ?c1 ?k1 ?a2 ?l2 ?c2 ?k2 ?a3 ?l3 ?c3 ?k3 ?a4 ?l4 ?c4 ?k4 ?a5 ?l5 ?c5 ?k5 ?a6 ?l6 ?c6 ?k6 ?a7 ?l7 ?c7 ?k7 ?a8 ?l8 ?c8 ?k8 ?a9 ?l9 ?c9 ?k9 ?a10 ?l10 ?c10 ?k10 ?a11 ?l11 ?c11 ?k11 ?a12 ?l12 ?c12 ?k12 ?a13 ?l13 ?c13 ?k13 ?a14 ?l14 ?c14 ?k14 ?a15 ?l15 ?c15 ?k15 ?a16 ?l16 ?c16 ?k16 ?a17 ?l17 ?c17 ?k17 ?a18 ?l18 ?c18 ?k18 ?a19 ?l19 ?c19 ?k19 ?a20 ?l20 ?c20 ?k20 ?a21 ?l21 ?c21 ?k21 ?a22 ?l22 ?c22 ?k22 ?a23 ?l23 ?c23 ?k23 ?a24 ?l24 ?c24 ?k24 ?a25 ?l25 ?c25 ?k25 ?zzisinstance ?zzint ?zzbool ?zzstr ?zzrange ?zzlen ?zztuple ?zzall ?zzmax ?zzlist ?zzmin ?hhLETTERS
    (case a0 => k_is); (case l0 => k_is); (case c0 => k_is); (case k0 => k_is); (case a1 => k_is); (case l1 => k_is); (case c1 => k_is); (case k1 => k_is); (case a2 => k_is); (case l2 => k_is); (case c2 => k_is); (case k2 => k_is); (case a3 => k_is); (case l3 => k_is); (case c3 => k_is); (case k3 => k_is); (case a4 => k_is); (case l4 => k_is); (case c4 => k_is); (case k4 => k_is); (case a5 => k_is); (case l5 => k_is); (case c5 => k_is); (case k5 => k_is); (case a6 => k_is); (case l6 => k_is); (case c6 => k_is); (case k6 => k_is); (case a7 => k_is); (case l7 => k_is); (case c7 => k_is); (case k7 => k_is); (case a8 => k_is); (case l8 => k_is); (case c8 => k_is); (case k8 => k_is); (case a9 => k_is); (case l9 => k_is); (case c9 => k_is); (case k9 => k_is); (case a10 => k_is); (case l10 => k_is); (case c10 => k_is); (case k10 => k_is); (case a11 => k_is); (case l11 => k_is); (case c11 => k_is); (case k11 => k_is); (case a12 => k_is); (case l12 => k_is); (case c12 => k_is); (case k12 => k_is); (case a13 => k_is); (case l13 => k_is); (case c13 => k_is); (case k13 => k_is); (case a14 => k_is); (case l14 => k_is); (case c14 => k_is); (case k14 => k_is); (case a15 => k_is); (case l15 => k_is); (case c15 => k_is); (case k15 => k_is); (case a16 => k_is); (case l16 => k_is); (case c16 => k_is); (case k16 => k_is); (case a17 => k_is); (case l17 => k_is); (case c17 => k_is); (case k17 => k_is); (case a18 => k_is); (case l18 => k_is); (case c18 => k_is); (case k18 => k_is); (case a19 => k_is); (case l19 => k_is); (case c19 => k_is); (case k19 => k_is); (case a20 => k_is); (case l20 => k_is); (case c20 => k_is); (case k20 => k_is); (case a21 => k_is); (case l21 => k_is); (case c21 => k_is); (case k21 => k_is); (case a22 => k_is); (case l22 => k_is); (case c22 => k_is); (case k22 => k_is); (case a23 => k_is); (case l23 => k_is); (case c23 => k_is); (case k23 => k_is); (case a24 => k_is); (case l24 => k_is); (case c24 => k_is); (case k24 => k_is); (case a25 => k_is); (case l25 => k_is); (case c25 => k_is); (case k25 => k_is); (case zzisinstance => k_is); (case zzint => k_is); (case zzbool => k_is); (case zzstr => k_is); (case zzrange => k_is); (case zzlen => k_is); (case zztuple => k_is); (case zzall => k_is); (case zzmax => k_is); (case zzlist => k_is); (case zzmin => k_is); (case hhLETTERS => k_is)
